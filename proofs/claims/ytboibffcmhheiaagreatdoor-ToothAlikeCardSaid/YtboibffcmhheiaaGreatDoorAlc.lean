/- ToothAlike answers true for every list of numbers, on every schedule; without a condition beyond those of the given row and card. Part 3 of 8. -/
import Derived.Test.YtboibffcmhheiaaGreatDoorAla
import Derived.Test.YtboibffcmhheiaaGreatDoorAlb
import Derived.Test.YtboibffcmhheiaaGreatDoorRows
import Derived.Test.YtboibffcmhheiaaGreatDoorChecked
import Derived.Conc.LeavingOf
import Derived.Conc.Holds
import Derived.Carry
import Derived.ChangeSame
import Derived.ChangeVars
import Derived.JoinedOf
import Derived.RowKit
import Derived.LaidLaws
import Derived.LaidHandle
import Derived.Stop.Joined
import Derived.Test.YtboibffcmhheiaaGreatDoorProg
import Derived.Conc.WgGenN3
set_option linter.all false
set_option maxRecDepth 100000
namespace Pal
open Go Go.Conc
def WL{α:Type}(e:TypeId)(pp:Rp α)(E:LH)(K c n:Nat)(f:Array Value)(xs:List α):Prop:=
 OL e pp E (some ⟨K,0,none⟩) c [(K,.cells f e (0,0))] xs∧xs.length=n
theorem WL.mono{α:Type}{e:TypeId}{pp:Rp α}{E E':LH}{K c n:Nat}{f:Array Value}{xs:List α}(h:WL e pp E K c n f xs)(hle:Le E E'):WL e pp E' K c n f xs:=⟨h.1.mono hle,h.2⟩
theorem WL.at{α:Type}{e:TypeId}{pp:Rp α}{E:LH}{K c n:Nat}{f:Array Value}{xs:List α}{m:Int}{x:α}(h:WL e pp E K c n f xs)(hm:ix xs m=some x):
  ∃ws,pp.r E ws x∧(∀j w,ws[j]? =some w→f[m.toNat*pp.n+j]? =some w):=by
 obtain⟨ws,O,U,_,_⟩:=OL.again h.1 hm rfl;exact⟨ws,O,U⟩
theorem WL.put{α:Type}{e:TypeId}{pp:Rp α}{E:LH}{O c n:Nat}{f:Array Value}{xs U:List α}{m:Int}{W x':α}{ws':List Value}(h:WL e pp E O c n f xs)(Z:U.length=n)(hm:ix U m=some W)(aa:pp.r E ws' x'):
  WL e pp E O c n (A0 f (m.toNat*pp.n) ws') (xs.set m.toNat x')∧m.toNat*pp.n+pp.n≤f.size:=by
 obtain⟨K,rfl,ab⟩:=Fc hm;have ae:K<xs.length:=by rw [h.2,← Z];exact(List.getElem?_eq_some_iff.1 ab).1
 have ag:ix xs (K:Int)=some xs[K]:=by simp [ix,ae]
 obtain⟨ws,aj,ak,ah,ai⟩:=OL.again h.1 ag rfl;exact⟨⟨ai x' ws' aa,by rw [List.length_set];exact h.2⟩,ah⟩
theorem OL.cases{α:Type}{e:TypeId}{pp:Rp α}{E:LH}{a:Option Addr}{c:Nat}{seg:Seg}{xs:List α}(h:OL e pp E a c seg xs):
  (a=none∧c=0∧seg= []∧xs= [])∨∃K f,a=some ⟨K,0,none⟩∧seg= [(K,.cells f e (0,0))]∧WL e pp E K c xs.length f xs:=by
 have Z:=h;obtain⟨wss,aa,ae,ag⟩:=h;rcases aa with⟨O,U,W,ab,ah⟩ | ⟨K,f,O,U,W⟩
 ·exact .inl ⟨O,W,ab,List.length_eq_zero_iff.1 U⟩
 ·subst O U;exact .inr ⟨K,f,rfl,rfl,Z,rfl⟩
theorem Yl.Be{P:Program}{s:St}{ρ:Operand→Value}{x y:Operand}{d:Option Tmp}{t ty e:TypeId}{p:String}{af:Array Edge}{g:Option (Nat×Bool)}{kd:IntKind}{α:Type}{xs:List α}{xv:α}{m:Int}{K c O n:Nat}(U:xs.length=n)(hm:ix xs m=some xv)(ht:P.underlying t=some (.slice e))(W:Bj P e=some O)(Z:ρ x= .slice (some ⟨K,0,none⟩) n c)(aa:ρ y= .int kd m):
  Yl P ⟨d,.indexAddr t x y,ty,p,af,g⟩ ρ s (.pointer (some ⟨K,m.toNat*O,none⟩)):=by
 subst U;exact Yl.SR hm ht W Z aa
theorem Yl.Of{P:Program}{s:St}{ρ:Operand→Value}{x:Operand}{d:Option Tmp}{t ty e:TypeId}{p:String}{af:Array Edge}{g:Option (Nat×Bool)}{α:Type}{xs:List α}{a:Option Addr}{n c:Nat}{ats:Array TypeId}(K:xs.length=n)(O:ats[0]? =some t)(ht:P.underlying t=some (.slice e))(U:ρ x= .slice a n c):
  Yl P ⟨d,.call ⟨.builtin .len,#[x],ats⟩,ty,p,af,g⟩ ρ s (.int .i64 (xs.length:Int)):=by
 subst K;exact Yl.len O ht U
section
variable {P:Program}{J:Judge P}{Q:Goroutine→St→Prop}{b:Frame}{n:Nat}{ds:List Deferred}{ops:Array Oper}{k:List Item}{cs:List Frame}{m fuel:Nat}{D:Nat→Bool}{listed:Array Bool}{L:Env}{s:St}{E E' H:LH}{S:List Seg}
variable {d:Option Tmp}{x y:Operand}{t u ty e:TypeId}{p:String}{af:Array Edge}{g:Option (Nat×Bool)}{v:Value}{i:Nat}{kd:IntKind}
theorem Au.Gs{f:FuncId}{args:Array Operand}{ats:Array TypeId}{vs:List Value}{R:Value→St→Prop}(U:s.q=false)(W:Region.ready .any ops listed= [i])
  (Z:ops[i]? =some ⟨d,.call ⟨.value x,args,ats⟩,ty,p,af,g⟩) (aa:ev L x=some (.func (.func f) #[] #[])) (ab:Bb n d=true) (hw:AU L ops ⟨d,.call ⟨.value x,args,ats⟩,ty,p,af,g⟩=some true) (hb:Cv P f=true) (ae:evs L args.toList=some vs)
  (ag:Cz J f vs.toArray s R) (h:∀v K,R v K→K.q=false∧(∀x o,(Bg D s).E x=some o→(Bg D K).E x=some o)∧Au J Q b n ds ops k cs m D fuel (AX listed i) (AE L d v) K):
  Au J Q b n ds ops k cs m D (fuel+1) listed L s:=by
 refine Au.one U W Z (by simp [Cs,ab]) hw fun ρ O=>?_;have ah:args.map ρ=vs.toArray:=by
  rw [← Ed O ae];apply Array.ext';simp
 have ai:ρ x= .func (.func f) #[] #[]:=O _ _ aa;simp only [execOp,resolve,bind,Sem.bind,Deferred.ofValue,ai,pure,invoke];have e: #[]++args.map ρ++ #[]=vs.toArray:=by rw [ah];simp
 rw [e];refine Ge hb ?_;rw [Hp];exact⟨R,ag,h⟩
theorem JG.FC{bks:List Nat}{f:FuncId}{args:Array Operand}{ats:Array TypeId}{vs:List Value}{R:Value→LH→Seg→Prop}(ah:EJ S bks)(ai:As J f vs E [] R)(aj:Region.ready .any ops listed= [i])
  (ak:ops[i]? =some ⟨d,.call ⟨.value x,args,ats⟩,ty,p,af,g⟩) (K:ev L x=some (.func (.func f) #[] #[])) (al:Bb n d=true) (hw:AU L ops ⟨d,.call ⟨.value x,args,ats⟩,ty,p,af,g⟩=some true) (hb:Cv P f=true) (am:evs L args.toList=some vs) (aa:Ax E H S)
  (an:∀v E' seg',Le E E'→R v E' seg'→Ax E' H (S++ [seg'])→Au J Q b n ds ops k cs m (AA bks) fuel (AX listed i) (AE L d v) (Am E' H (S++ [seg']))):
  Au J Q b n ds ops k cs m (AA bks) (fuel+1) listed L (Am E H S):=by
 have ao:=Cz.Fp (ai (AS S.flatten H) trivial) (by rintro v s' ⟨E',B',_,_,_,rfl⟩;rfl);refine Au.Gs rfl aj ak K al hw hb am ao ?_;rintro v aA ⟨⟨E',B',hle,ap,aq,rfl⟩,w,ar⟩;have au:mk E' (AS S.flatten H) B'=mk E' H (B'++S.flatten):=by unfold mk;rw [Ds]
 have av:Nd E' H S.flatten:=Nd.grow aa fun x K=>by
  have aw:=ar.d x K;have U:AS B' (AS S.flatten H) x=none:=aw;exact(Ep U).1
 have ab:Nd E' H (B'++S.flatten):=Nd.glue aq av;have ae:(B'++S.flatten).Perm (S++ [B']).flatten:=by rw [Er];exact List.perm_append_comm
 have ag:Ax E' H (S++ [B']):=Nd.perm ab ae;rw [au,C3 ab ae];refine⟨rfl,fun x o K=>?_,an v E' B' hle ap ag⟩;by_cases W:AA bks x=true
 ·obtain⟨j,o',Z⟩:=ah.mem x (by simpa [AA] using W);have U:(Am E H S).get x=some o':=CV (i:=0) aa Z rfl;have ay:j<S.length:=(List.getElem?_eq_some_iff.1 Z).1;have az:(Am E' H (S++ [B'])).get x=some o':=CV (i:=0) ag (by rw [List.getElem?_append_left ay];exact Z) rfl;have O:(if AA bks x then(Am E H S).get x else E x)=some o:=K
  show(if AA bks x then(Am E' H (S++ [B'])).get x else E' x)=some o
  rw [if_pos W] at O ⊢;rw [az,← U];exact O
 ·have O:(if AA bks x then(Am E H S).get x else E x)=some o:=K
  show(if AA bks x then(Am E' H (S++ [B'])).get x else E' x)=some o
  rw [if_neg W] at O ⊢;exact hle _ _ O
end
section
variable {P:Program}{J:Judge P}{Q:Goroutine→St→Prop}{b:Frame}{n:Nat}{ds:List Deferred}{ops:Array Oper}{k:List Item}{cs:List Frame}{L:Env}{s:St}{E E' H:LH}{S:List Seg}
variable {d:Option Tmp}{x y:Operand}{t u ty e:TypeId}{p:String}{af:Array Edge}{g:Option (Nat×Bool)}{v:Value}{i:Nat}{rest:List Nat}{kd:IntKind}
theorem JS.Gs{f:FuncId}{args:Array Operand}{ats:Array TypeId}{vs:List Value}{R:Value→LH→Seg→Prop}
  (O:As J f vs E [] R) (U:ops[i]? =some ⟨d,.call ⟨.value x,args,ats⟩,ty,p,af,g⟩) (W:ev L x=some (.func (.func f) #[] ([]:List Value).toArray)) (hw:AU L ops ⟨d,.call ⟨.value x,args,ats⟩,ty,p,af,g⟩=some true) (Z:((b.kind != .early)&&Bb n d)=true) (hb:Cv P f=true)
  (aa:evs L args.toList=some vs) (ab:Ax E H S) (ae:∀v E' seg',Le E E'→R v E' seg'→Ax E' H (S++ [seg'])→JL J Q b n (AE L d v) ds (.inRegion ops rest::k) cs (Am E' H (S++ [seg']))):
  JL J Q b n L ds (.inRegion ops (i::rest)::k) cs (Am E H S):=by
 have ag:Df J (.func (.func f) #[] ([]:List Value).toArray) vs E [] R:=Df.ofFn hb (by rw [List.append_nil];exact O);have ah:Ax E H (S++ [[]]):=by unfold Ax at*;rw [Er,List.append_nil];exact ab
 have ai:Am E H S=Am E H (S++ [[]]):=by unfold Am;rw [Er,List.append_nil]
 rw [ai];refine JS.G6 (seg:= []) S.length ag U hw Z W aa ah (by simp) fun v E' seg' hle aj K=>?_;have ak:(S++ [([]:Seg)]).set S.length seg'=S++ [seg']:=FZ _ _ _ _;rw [ak] at K ⊢;exact ae v E' seg' hle aj K
end
def Fo(a b:Int):Option Int:=if b=0 then none else Ay (a.tdiv b)
def HZ(l:List Nat)(i:Int):Option Nat:=if 0≤i then l[i.toNat]? else none
section
variable {P:Program}{s:St}{ρ:Operand→Value}{x y z:Operand}{d:Option Tmp}{t u ty e:TypeId}{p:String}{af:Array Edge}{g:Option (Nat×Bool)}{v:Value}{kd kd':IntKind}{m m':Int}{a b:Nat}
theorem Yl.HX{r:Int}(K:ρ x=iV m)(O:ρ y=iV m')(h:Fo m m'=some r):Yl P ⟨d,.binOp .quo t x y u,ty,p,af,g⟩ ρ s (iV r):=by
 unfold Fo at h;split at h
 ·cases h
 ·rename_i U;obtain⟨rfl,hb⟩:=Hq h;have:=Yl.quo (P:=P) (s:=s) (d:=d) (t:=t) (u:=u) (ty:=ty) (p:=p) (af:=af) (g:=g) K O U
  rwa [Gf hb] at this
theorem Ou{a:Nat}:IntKind.u8.wrap (a:Int)=((a % 256:Nat):Int):=by
 simp only [IntKind.wrap,IntKind.bits,IntKind.signed];simp
theorem Yl.SY(K:ρ x= .int .u8 (a:Int))(O:ρ y= .int .u8 (b:Int)):Yl P ⟨d,.binOp .add t x y u,ty,p,af,g⟩ ρ s (.int .u8 (((a+b) % 256:Nat):Int)):=by
 have h:=Yl.add (P:=P) (s:=s) (d:=d) (t:=t) (u:=u) (ty:=ty) (p:=p) (af:=af) (g:=g) K O;rw [← Int.natCast_add,Ou] at h;exact h
theorem Yl.Tn(ht:P.underlying t=some (.int .u64))(hu:P.underlying u=some (.int .u8))(K:ρ x= .int .u64 (a:Int)):Yl P ⟨d,.convert t u x,ty,p,af,g⟩ ρ s (.int .u8 ((a % 256:Nat):Int)):=by
 have h:=Yl.conv (P:=P) (s:=s) (d:=d) (ty:=ty) (p:=p) (af:=af) (g:=g) ht hu K
 rw [Ou] at h;exact h
theorem Yl.Ol{r:Int}(ht:P.underlying t=some (.int .u8))(hu:P.underlying u=some (.int .i64))(K:ρ x= .int .u8 (a:Int))(h:Ay ((a:Nat):Int)=some r):Yl P ⟨d,.convert t u x,ty,p,af,g⟩ ρ s (iV r):=by
 obtain⟨rfl,hb⟩:=Hq h;have h:=Yl.conv (P:=P) (s:=s) (d:=d) (ty:=ty) (p:=p) (af:=af) (g:=g) ht hu K
 rwa [Gf hb] at h
theorem Yl.Ss(c:Nat)(K:ρ x= .int .u16 (a:Int))(O:ρ y= .int .u64 (c:Int))(W:c≤16):Yl P ⟨d,.binOp .shr t x y u,ty,p,af,g⟩ ρ s (.int .u16 ((a>>>c:Nat):Int)):=by
 have h:=Yl.shr (P:=P) (s:=s) (d:=d) (t:=t) (u:=u) (ty:=ty) (p:=p) (af:=af) (g:=g) K O (by omega);have e:min (c:Int).toNat IntKind.u16.bits=c:=by simp [IntKind.bits];omega
 rw [e,Int.fdiv_eq_ediv_of_nonneg _ (Int.pow_nonneg (by decide))] at h;have U:(a:Int) / 2 ^ c=((a>>>c:Nat):Int):=by rw [Nat.shiftRight_eq_div_pow,Int.natCast_ediv];rfl
 rw [U] at h;exact h
theorem Yl.Kq{l:List Nat}{bs:ByteArray}{r:Nat}(O:(bs.data.toList.map UInt8.toNat==l)=true)(ht:P.underlying t=some .string)(U:ρ y= .int kd m)(W:ρ (.const (.string bs))= .string bs)(h:HZ l m=some r):Yl P ⟨d,.index t (.const (.string bs)) y,ty,p,af,g⟩ ρ s (.int .u8 (r:Int)):=by
 unfold HZ at h;split at h
 ·rename_i Z;have aa:=eq_of_beq O;rw [← aa,List.getElem?_map] at h;obtain⟨K,hb,rfl⟩:=Option.map_eq_some_iff.1 h;have ab:bs[m.toNat]? =some K:=by
   have ae:bs.data[m.toNat]? =some K:=by rw [← Array.getElem?_toList];exact hb
   obtain⟨ag,ah⟩:=Array.getElem?_eq_some_iff.1 ae;rw [getElem?_pos bs m.toNat ag];exact congrArg some ah
  simp [Yl,execOp,lp,pure,bind,Sem.bind,W,U,Instr.index,underlying,program,ht,Z,ab,asIntOf]
 ·cases h
end
end Pal
namespace Pal
open Go Go.Conc
section
variable {P:Program}(J:Judge P)(Q:Goroutine→St→Prop)(b:Frame)(ds:List Deferred)(ops:Array Oper)(k:List Item)(cs:List Frame)(X D:Nat→Bool)
def JB:Nat→Array Bool→Array Value→St→Prop
 | 0,listed,T,s=>Region.ready .any ops listed= []∧J.ok Q (G (fr b T ds (.inRegion ops []::k)) cs) s
 | fuel+1,listed,T,s=>
  Region.ready .any ops listed≠ []∧s.q=false∧∀i∈Region.ready .any ops listed,∀o,ops[i]? =some o→(∀c,o.op≠ .defer c)∧
   (Region.wanted o (yielded ops T)=false→JB fuel (AX listed i) (BQ T o.dst undef) s)∧
   (Region.wanted o (yielded ops T)=true→X i=true→lp P (execOp (Bf T) o) s (fun nx s'=>match nx with
    | .value v=>JB fuel (AX listed i) (BQ T o.dst v) s'
    | .skip=>JB fuel (AX listed i) (BQ T o.dst undef) s'
    | _=>False) (fun _ _=>False))∧
   (Region.wanted o (yielded ops T)=true→X i=false→lp P (execOp (Bf T) o) (Bg D s) (fun nx s'=>match nx with
    | .value v=>JB fuel (AX listed i) (BQ T o.dst v) (BP D s s')
    | .skip=>JB fuel (AX listed i) (BQ T o.dst undef) (BP D s s')
    | _=>False) (fun _ _=>False))
variable {J Q b ds ops k cs X D}
theorem JB.sound(W:b.kind≠ .early):∀(fuel t:Nat) (listed:Array Bool) (T:Array Value) (s:St),JB J Q b ds ops k cs X D fuel listed T s→
  J.ok Q (G (fr b T ds (.inRegion ops (Region.linearise.go .any ops fuel t listed [])::k)) cs) s:=by
 intro fuel
 induction fuel with
 | zero=>intro t listed T s h;simpa [Region.linearise.go] using h.2
 | succ fuel O=>
  intro t listed T s h;obtain⟨ae,ag,h⟩:=h;obtain⟨i,hi⟩:∃i,(Region.ready .any ops listed)[t % (Region.ready .any ops listed).length]? =some i:=by
   have:0<(Region.ready .any ops listed).length:=List.length_pos_iff.2 ae;exact⟨_,List.getElem?_eq_getElem (Nat.mod_lt _ this)⟩
  have Z:=List.mem_of_getElem? hi;have hgo:Region.linearise.go .any ops (fuel+1) t listed []=i::Region.linearise.go .any ops fuel (t / (Region.ready .any ops listed).length) (AX listed i) []:=by
   simp only [Region.linearise.go];change (match(Region.ready .any ops listed)[t % (Region.ready .any ops listed).length]? with
    | some i=>Region.linearise.go .any ops fuel (t / (Region.ready .any ops listed).length) (listed.setIfInBounds i true) [i]
    | none=> [].reverse)=_
   rw [hi];simp only;rw [linearise_go_acc];rfl
  rw [hgo];obtain⟨_,o,U,_⟩:=mem_ready.1 Z;obtain⟨aa,ah,ai,aj⟩:=h i Z o U;cases hw:Region.wanted o (yielded ops T) with
  | false=>exact Judge.unwanted U hw (O _ _ _ _ (ah hw))
  | true=>
   cases ab:X i with
   | true=>
    refine Judge.oper U hw W (.inr aa) (Cl _ (ai hw ab) ?_ (fun _ _ h=>h.elim));intro nx s' K;cases nx with
    | value v=>exact O _ _ _ _ K
    | skip=>exact O _ _ _ _ K
    | _=>exact K.elim
   | false=>
    refine Judge.MW D U hw W aa ag (Cl _ (aj hw ab) ?_ (fun _ _ h=>h));intro nx s' K;cases nx with
    | value v=>exact O _ _ _ _ K
    | skip=>exact O _ _ _ _ K
    | _=>exact K.elim
def waitAll(ops:Array Oper)(X:Nat→Bool)(i:Nat):Bool:=(List.range ops.size).all fun j=> !X j || waits ops ops.size j i
theorem JB.take{i:Nat}{oi:Oper}{w pure:Bool}{v:Value}(hi:ops[i]? =some oi)(aW:X i=false)(aN:(pure || waitAll ops X i)=true)(aX:Region.noSelect ops=true)(aY:∀c,oi.op≠ .defer c):
  ∀(fuel:Nat) (listed:Array Bool) (T:Array Value) (s:St),FF ops listed i oi=true→EI ops listed=true→listed.size=ops.size→i∈Region.ready .any ops listed→s.q=false→Region.wanted oi (yielded ops T)=w→
   (w=true→∀s',s'.q=false→(pure=false→∀x o,(Bg D s).E x=some o→s'.E x=some o)→Yl P oi (Bf T) s' v)→
   JB J Q b ds ops k cs X D fuel (AX listed i) (BQ T oi.dst (if w then v else undef)) s→JB J Q b ds ops k cs X D (fuel+1) listed T s:=by
 have ae:∀(j:Nat) (Z:Oper),ops[j]? =some Z→∀cs b,Z.op≠Op.select cs b:=fun j Z h cs b=>Region.noSelect_spec aX j Z cs b h;intro fuel
 induction fuel with
 | zero=>?_
 | succ fuel ak=>?_
 all_goals
  intro listed T s aO aP al aB am hw ag h;refine⟨fun e=>(by rw [e] at aB;cases aB),am,fun j aQ Z O=>?_⟩;by_cases an:j=i
  ·subst an;obtain rfl:Z=oi:=by rw [hi] at O;exact(Option.some.inj O).symm
   refine⟨aY,fun aE=>?_,fun ah K=>?_,fun ah K=>?_⟩
   ·rw [aE] at hw;subst hw;exact h
   ·rw [aW] at K;cases K
   ·rw [ah] at hw;subst hw;refine Cl _ (ag rfl (Bg D s) am fun _ _ _ h=>h).out ?_ (fun _ _ h=>h);rintro nx s' ⟨rfl,rfl⟩;rw [Hp];exact h
  ·
   have aR:j∈Region.ready .any ops (AX listed i):=ready_mono aQ an;obtain⟨ai,U,aS,aF⟩:=mem_ready.1 aQ;obtain rfl:U=Z:=by rw [O] at aS;exact(Option.some.inj aS).symm
   have aG:=(mem_ready.1 aB).1;have aZ:(U.after.any fun e=>Region.binds .any e&&e.on==i)=false:=by
    rw [Array.any_eq_false];intro e he K;simp only [Bool.and_eq_true,beq_iff_eq] at K;have:=aF _ (Array.getElem_mem he) K.1;rw [K.2] at this;have aj:listed.getD i true=listed.getD i false∨listed.size≤i:=by
     rcases Nat.lt_or_ge i listed.size with q | q
     ·left;simp [Array.getD_eq_getD_getElem?,q]
     ·exact .inr q
    rcases aj with aj | aj
    ·rw [aG,this] at aj;cases aj
    ·rw [Array.getD_eq_getD_getElem?,Array.getElem?_eq_none aj] at this;simp at this
   have a0:oi.apart ops U=true:=by
    have aH:j<ops.size:=(Array.getElem?_eq_some_iff.1 O).1;have:=List.all_eq_true.1 aO j (List.mem_range.2 aH);simp only [Bool.or_eq_true,beq_iff_eq] at this;rcases this with(q | q) | q
    ·exact absurd q an
    ·rw [ai] at q;cases q
    ·rw [O] at q;simp only [Bool.or_eq_true] at q;rw [aZ] at q;exact q.resolve_left (by simp)
   obtain⟨a1,ao,ap⟩:=Oper.apart_spec a0;obtain⟨p1,p2⟩:=EF (ops:=ops) (T:=T) (v:=if w then v else undef) (ae j U O) a1
   first
    | exact absurd aR (by rw [h.1];simp)
    | (
     obtain⟨bc,_,h⟩:=h
     obtain⟨a2,aE,a3,a4⟩:=h j aR U O
     have aq:AX (AX listed i) j=AX (AX listed j) i:=by
      unfold AX;exact Array.setIfInBounds_comm _ _ (Ne.symm an)
     have ar:i∈Region.ready .any ops (AX listed j):=ready_mono aB (Ne.symm an)
     have au:FF ops (AX listed j) i oi=true:=by
      refine List.all_eq_true.2 fun x K=>?_
      have:=List.all_eq_true.1 aO x K
      simp only [Bool.or_eq_true,beq_iff_eq] at this ⊢
      rcases this with(q | q) | q
      ·exact .inl (.inl q)
      ·left;right
       by_cases e:j=x
       ·subst e;rw [ai] at q;cases q
       ·rw [AX,getD_set_ne true e];exact q
      ·exact .inr q
     have av:(AX listed j).size=ops.size:=by unfold AX;simpa using al
     have aw:EI ops (AX listed j)=true:=by
      refine List.all_eq_true.2 fun x K=>?_
      cases aI:ops[x]? with
      | none=>simp
      | some a5=>
       simp only [Bool.or_eq_true,Bool.not_eq_true']
       by_cases e:j=x
       ·subst e
        obtain rfl:a5=U:=by rw [O] at aI;exact(Option.some.inj aI).symm
        right
        refine Array.all_eq_true'.2 fun e he=>?_
        cases hb:Region.binds .any e with
        | false=>simp
        | true=>
         have:=aF e he hb
         by_cases ay:j=e.on
         ·rw [← ay] at this
          have aJ:j<listed.size:=by rw [al];exact(Array.getElem?_eq_some_iff.1 O).1
          simp [Array.getD_eq_getD_getElem?,aJ] at this ai
          rw [ai] at this;cases this
         ·rw [AX,getD_set_ne false ay];simpa using this
       ·cases aT:(AX listed j).getD x false with
        | false=>exact .inl rfl
        | true=>
         right
         have a6:listed.getD x false=true:=by rw [AX,getD_set_ne false e] at aT;exact aT
         refine Array.all_eq_true'.2 fun aK he=>?_
         cases hb:Region.binds .any aK with
         | false=>simp
         | true=>
          have:=JF aP aI a6 aK he hb
          by_cases ay:j=aK.on
          ·rw [← ay] at this
           have aJ:j<listed.size:=by rw [al];exact(Array.getElem?_eq_some_iff.1 O).1
           simp [Array.getD_eq_getD_getElem?,aJ] at this ai
           rw [ai] at this;cases this
          ·rw [AX,getD_set_ne false ay];simpa using this
     refine⟨a2,fun a7=>?_,fun aL aC=>?_,fun aL aC=>?_⟩
     ·have:=aE (by rw [p2];exact a7)
      rw [aq,Fy ao] at this
      obtain⟨q1,q2⟩:=EF (ops:=ops) (T:=T) (d:=U.dst) (v:=undef) (o:=oi) (ae i oi hi) ap
      exact ak _ _ _ au aw av ar am (by rw [q2];exact hw) (fun W s' a8 aD=>by unfold Yl;rw [q1];exact(ag W s' a8 aD).out) this
     ·
      have a9:pure=true:=by
       cases ba:pure with
       | true=>rfl
       | false=>
        exfalso
        rw [ba,Bool.false_or] at aN
        have aH:j<ops.size:=(Array.getElem?_eq_some_iff.1 O).1
        have ah:=List.all_eq_true.1 aN j (List.mem_range.2 aH)
        rw [aC] at ah
        simp only [Bool.not_true,Bool.false_or] at ah
        rcases Ln aP _ j U O (fun e he hb=>aF e he hb) ah with q | ⟨x,q1,q2⟩
        ·have bb:i<listed.size:=by rw [al];exact(Array.getElem?_eq_some_iff.1 hi).1
         simp [Array.getD_eq_getD_getElem?,bb] at q aG
         rw [aG] at q;cases q
        ·have:¬x<listed.size:=by rw [al];intro K;simp [K] at q1
         simp [Array.getD_eq_getD_getElem?,this] at q2
      have az:=Js _ (a3 (by rw [p2];exact aL) aC)
      rw [p1] at az
      refine Cl _ az ?_ (fun _ _ h=>h)
      rintro nx s' ⟨K,aD,aM⟩
      have aA:s'.q=false:=aM.trans am
      have aU:pure=false→∀{α:Prop},α:=fun e=>by rw [a9] at e;cases e
      cases nx with
      | value u=>
       simp only at K ⊢
       rw [aq,Fy ao] at K
       obtain⟨q1,q2⟩:=EF (ops:=ops) (T:=T) (d:=U.dst) (v:=u) (o:=oi) (ae i oi hi) ap
       exact ak _ _ _ au aw av ar aA (by rw [q2];exact hw) (fun W s2 aa ab=>by unfold Yl;rw [q1];exact(ag W s2 aa (fun e=>aU e)).out) K
      | skip=>
       simp only at K ⊢
       rw [aq,Fy ao] at K
       obtain⟨q1,q2⟩:=EF (ops:=ops) (T:=T) (d:=U.dst) (v:=undef) (o:=oi) (ae i oi hi) ap
       exact ak _ _ _ au aw av ar aA (by rw [q2];exact hw) (fun W s2 aa ab=>by unfold Yl;rw [q1];exact(ag W s2 aa (fun e=>aU e)).out) K
      | _=>exact K.elim
     ·have az:=Js _ (a4 (by rw [p2];exact aL) aC)
      rw [p1] at az
      refine Cl _ az ?_ (fun _ _ h=>h)
      rintro nx s' ⟨K,aD,aM⟩
      have aV:=Lx (D:=D) aD
      have aA:(BP D s s').q=false:=by show s'.q=false;rw [aM];exact am
      cases nx with
      | value u=>
       simp only at K ⊢
       rw [aq,Fy ao] at K
       obtain⟨q1,q2⟩:=EF (ops:=ops) (T:=T) (d:=U.dst) (v:=u) (o:=oi) (ae i oi hi) ap
       exact ak _ _ _ au aw av ar aA (by rw [q2];exact hw) (fun W s2 aa ab=>by unfold Yl;rw [q1];exact(ag W s2 aa (fun e=>by rw [aV] at ab;exact ab e)).out) K
      | skip=>
       simp only at K ⊢
       rw [aq,Fy ao] at K
       obtain⟨q1,q2⟩:=EF (ops:=ops) (T:=T) (d:=U.dst) (v:=undef) (o:=oi) (ae i oi hi) ap
       exact ak _ _ _ au aw av ar aA (by rw [q2];exact hw) (fun W s2 aa ab=>by unfold Yl;rw [q1];exact(ag W s2 aa (fun e=>by rw [aV] at ab;exact ab e)).out) K
      | _=>exact K.elim)
end
section
variable {P:Program}(J:Judge P)(Q:Goroutine→St→Prop)(b:Frame)(n:Nat)(ds:List Deferred)(ops:Array Oper)(k:List Item)(cs:List Frame)(X D:Nat→Bool)
def Ft(fuel:Nat)(listed:Array Bool)(L:Env)(s:St):Prop:=∀T,Has n L T→JB J Q b ds ops k cs X D fuel listed T s
end
def Ju(ops:Array Oper)(listed:Array Bool)(xs:List Nat)(pure:Bool)(i:Nat):Bool:=match ops[i]? with
 | some oi=> !AA xs i&&(pure || waitAll ops (AA xs) i)&&Region.noSelect ops&& !Cs oi.op&&FF ops listed i oi&&EI ops listed&&listed.size==ops.size&&(Region.ready .any ops listed).contains i
 | none=>false
section
variable {P:Program}{J:Judge P}{Q:Goroutine→St→Prop}{b:Frame}{n:Nat}{ds:List Deferred}{ops:Array Oper}{k:List Item}{cs:List Frame}{fuel:Nat}{X D:Nat→Bool}{listed:Array Bool}{L:Env}{s:St}{E H:LH}{S:List Seg}{xl bks:List Nat}
variable {d:Option Tmp}{x y:Operand}{t u ty e:TypeId}{p:String}{af:Array Edge}{g:Option (Nat×Bool)}{v:Value}{i:Nat}{kd:IntKind}
theorem JB.draw(xl bks:List Nat){id:Nat}(hm:P.follows .mixedOrders=true)(K:(b.kind != .early)=true)
  (h:Ft J Q b n ds ops k cs (AA xl) (AA bks) ops.size (Array.replicate ops.size false) L (Am E H S)):JL J Q b n L ds (.code (.region id ops true)::k) cs (Am E H S):=
 JL.draw rfl hm fun t T O=>JB.sound (by simpa using K) ops.size t _ T _ (h T O)
theorem JB.val{oi:Oper}(i:Nat)(pure:Bool)(hi:ops[i]? =some oi)(K:Ju ops listed xl pure i=true)(W:s.q=false)
  (hw:AU L ops oi=some true) (Z:Bb n oi.dst=true) (aa:∀ρ,C4 L ρ→∀s':St,(pure=false→∀x o,(Bg D s).E x=some o→s'.E x=some o)→Yl P oi ρ s' v)
  (h:Ft J Q b n ds ops k cs (AA xl) D fuel (AX listed i) (AE L oi.dst v) s):Ft J Q b n ds ops k cs (AA xl) D (fuel+1) listed L s:=fun T O=>by
 simp only [Ju,hi,Bool.and_eq_true] at K
 obtain⟨⟨⟨⟨⟨⟨⟨ab,ae⟩,ag⟩,U⟩,ah⟩,ai⟩,aj⟩,ak⟩:=K
 refine JB.take (w:=true) (v:=v) (pure:=pure) hi (by simpa using ab) ae ag (fun c K=>by rw [K] at U;simp [Cs] at U) fuel listed T s ah ai (by simpa using aj) (by simpa using ak) W (B8 O hw) (fun _ s' am al=>aa _ O.D4 s' al) ?_
 exact h _ (O.put Z v)
theorem JB.fin(K:Region.ready .any ops listed= [])(h:JL J Q b n L ds k cs s):Ft J Q b n ds ops k cs X D 0 listed L s:=fun T O=>⟨K,JL.done h T O⟩
theorem JB.store{K off:Nat}{c:Array Value}(i j:Nat)(W:Region.ready .any ops listed= [i])(ae:AA xl i=true)(ag:ops[i]? =some ⟨d,.store t x y,ty,p,af,g⟩)(hw:AU L ops ⟨d,.store t x y,ty,p,af,g⟩=some true)(ah:Bb n d=true)(ai:Ax E H S)
  (aj:ev L x=some (.pointer (some ⟨K,off,none⟩))) (ak:ev L y=some v) (al:Bj P t=some v.cells.size) (am:∀u∈v.cells.toList,BJ u=true) (Z:S[j]? =some [(K,.cells c e (0,0))]) (hle:off+v.cells.size≤c.size)
  (h:Ax E H (S.set j [(K,.cells (A0 c off v.cells.toList) e (0,0))])→Ft J Q b n ds ops k cs (AA xl) D fuel (AX listed i) (AE L d undef) (Am E H (S.set j [(K,.cells (A0 c off v.cells.toList) e (0,0))]))):
  Ft J Q b n ds ops k cs (AA xl) D (fuel+1) listed L (Am E H S):=fun T O=>by
 refine⟨by rw [W];simp,rfl,fun aw U o' aa=>?_⟩
 rw [W] at U
 simp at U
 subst U
 obtain rfl:o'=⟨d,.store t x y,ty,p,af,g⟩:=by rw [ag] at aa;exact(Option.some.inj aa).symm
 have an:=B8 O hw;refine⟨fun c ao=>(by cases ao),fun e=>?_,fun _ _=>?_,fun _ e=>?_⟩
 ·rw [an] at e;cases e
 ·obtain⟨ap,aq⟩:=Eu ai Z;rw [ap];show lp P (do Instr.storeAt t (Bf T x) (Bf T y);pure Next.skip) _ _ _
  rw [O.ev aj,O.ev ak];refine AD _ _ ?_;unfold Instr.storeAt;simp only [Instr.sureAddr,bind,Sem.bind,pure];refine Ly (pl:=(S.set j []).flatten.length) al am aq (c:=c) (e:=e) (by simp) hle fun ab=>?_;have ar:((S.set j []).flatten++ [(K,Obj.cells c e (0,0))]).set (S.set j []).flatten.length (K,.cells (A0 c off v.cells.toList) e (0,0))=(S.set j []).flatten++ [(K,.cells (A0 c off v.cells.toList) e (0,0))]:=FZ _ _ _ _;rw [ar] at ab ⊢;obtain⟨au,av⟩:=FB Z ab;rw [au];exact h av _ (O.put ah undef)
 ·rw [ae] at e;cases e
end
end Pal
namespace Pal
open Go Go.Conc
theorem PG{E H:LH}{S:List Seg}{bks:List Nat}{K o:Nat}{l ws:List Value}{e:TypeId}{f:Nat×Nat}{s':St}{w:Value}(j:Nat)(O:Ax E H S)(U:S[j]? =some [(K,.cells (l++ws).toArray e f)])(W:AA bks K=true)(hs:∀x o,(Bg (AA bks) (Am E H S)).E x=some o→s'.E x=some o)(Z:ws[o]? =some w):s'.cell? ⟨K,l.length+o,none⟩=some w:=by
 have:=J2 j O U W hs o w Z
 rwa [Bd rfl] at this
section
variable {P:Program}{E H:LH}{B:List (Nat×Obj)}{t e ty:TypeId}
theorem OI{ats:Array TypeId}{a:Option Addr}{l K O m cx:Nat}{ax:Option Addr}{xs ys:List Value}{z:Value}{Q:Value→St→Prop}{X:Halt→St→Prop}
  (an:ats[0]? =some t) {t1 ao:TypeId} (ap:ats[1]? =some t1) (aq:P.underlying t1=some (.slice ao)) (ht:P.underlying t=some (.slice e)) (ar:Bj P e=some K) (hb:Dc P e=some O) (au:zeroOf P e=some z) (av:z.cells.size=K)
  (aw:Nd E H B) (ae:Eg (mk E H B) (.slice a l l) K xs)
  (Z:Eg (mk E H B) (.slice ax m cx) K ys) (aG:∀w∈ys,BJ w=true) (aH:0<O) (aI:l+m≤2 ^ 40) (ay:O≤64)
  (al:m=0→Q (.slice a (l+m) l) (mk E H B))
  (az:∀r aa ag,l+m≤ag→aa.size=ag*K→aa.toList.take ((l+m)*K)=xs++ys→Nd E H (B++ [(r,.cells aa e (0,0))])→Q (.slice (some ⟨r,0,none⟩) (l+m) ag) (mk E H (B++ [(r,.cells aa e (0,0))]))):
  lp P (Builtin.append_ ats ty #[.slice a l l,.slice ax m cx]) (mk E H B) Q X:=by
 unfold Builtin.append_;simp only [an,ap,List.getElem?_toArray,List.getElem?_cons_zero,List.getElem?_cons_succ];refine AD _ _ (Ck ht ?_);refine AD _ _ (Di ar ?_);refine AD _ _ (Ck aq ?_);simp only [EV,Bool.false_eq_true,if_false,Builtin.lenOf,Bool.not_false,if_true];have ab:ys.length=m*K:=by
  cases ax with
  | none=>obtain⟨U,W⟩:=Z;subst U W;simp
  | some ad=>exact Z.2.1
 have ah:xs.length=l*K:=by
  cases a with
  | none=>obtain⟨U,W⟩:=ae;subst U W;simp
  | some ad=>exact ae.2.1
 obtain⟨c,aJ⟩:∃c,c=l:=⟨_,rfl⟩;split
 ·rename_i aK;have hm:m=0:=by omega
  have aA:ys= []:=List.eq_nil_of_length_eq_zero (by rw [ab,hm];simp);refine AD _ _ (GG ⟨ax,cx,rfl⟩ Z ?_);subst aA;cases a with
  | none=>exact al hm
  | some ad=>exact al hm
 ·rename_i aL;have U:¬(((l+m:Nat):Int)>IntKind.i64.max∧(False∨O=0)):=by rintro⟨_,h | h⟩ <;> omega
  have W:¬(Builtin.nextslicecap (l+m) l*O>2 ^ 48):=by
   have:=LC (need:=l+m) (old:=l) (by omega);have aM:Builtin.nextslicecap (l+m) l*O≤(2*(l+m)+768)*64:=Nat.mul_le_mul this ay;omega
  obtain⟨inf,ai,aj⟩:=It hb;refine AD _ _ (FQ ai ?_);rw [aj,if_neg U];refine AD _ _ (FQ ai ?_);rw [aj,if_neg W];refine AD _ _ ?_;simp only [choose,lp,Question.forced,Bool.false_eq_true,if_false];refine⟨rfl,fun aB=>?_⟩;generalize aC:(Question.appendCap (l+m) l e).cut aB=ak;have aD:l+m≤ak:=by rw [← aC];simp [Question.cut]
  refine AD _ _ (FQ ai ?_);rw [aj];have aE:∀{α:Type} {f:Unit→Sem α} {Q:α→St→Prop},lp P (f ()) (mk E H B) Q X→lp P (askRoom (ak*O)>>=f) (mk E H B) Q X:=by
   intro α f Q am;refine AD _ _ ?_;unfold askRoom;split
   ·exact⟨.inl ⟨rfl,rfl⟩,am⟩
   ·exact am
  refine aE ?_;refine AD _ _ (GG ⟨a,l,rfl⟩ ae ?_);refine AD _ _ (GG ⟨ax,cx,rfl⟩ Z ?_);refine AD _ _ (D9 au ?_);refine AD _ _ (EX aw fun r aF=>?_);refine az r _ ak aD ?_ ?_ aF
  ·simp only [Array.size_append,List.size_toArray,Ll,av,ah,ab];rw [← Nat.add_mul,← Nat.add_mul];congr 1;omega
  ·simp only [Array.toList_append];rw [List.take_append_of_le_length (by simp [ah,ab,Nat.add_mul])];rw [List.take_of_length_le (by simp [ah,ab,Nat.add_mul])]
end
theorem Ao.spot{α:Type}{pp:Rp α}{E:LH}{a:Option Addr}{c:Nat}{xs:List α}(h:Ao pp E a c xs):∀ad,a=some ad→ad.spot=none:=fun ad K=>by
 rcases h.2 with⟨_,h⟩ | ⟨O,off,h,_⟩
 ·exact h ad K
 ·rw [h] at K;cases K;rfl
theorem Ao.full{α:Type}{pp:Rp α}{E:LH}{a:Option Addr}{c:Nat}{xs:List α}(h:Ao pp E a c xs):Ao pp E a xs.length xs:=⟨Nat.le_refl _,h.2⟩
theorem Ao.MY{α:Type}{pp:Rp α}{E H:LH}{B:List (Nat×Obj)}{a:Option Addr}{c:Nat}{ys:List α}(aa:Ao pp E a c ys):
  ∃K:List (List Value),K.length=ys.length∧(∀(i:Nat) x ws,ys[i]? =some x→K[i]? =some ws→pp.r E ws x)∧Eg (mk E H B) (.slice a ys.length c) pp.n K.flatten∧∀w∈K.flatten,BJ w=true:=by
 obtain⟨K,U,Z,W⟩:=aa.rows;have ab:=FW U Z;refine⟨K,U,Z,?_,fun w hw=>?_⟩
 ·rcases W with⟨W,ae⟩ | ⟨al,off,rfl,W⟩
  ·subst W;have:K= []:=List.eq_nil_of_length_eq_zero U;subst this;cases a with
   | none=>exact⟨rfl,rfl⟩
   | some ad=>exact⟨ae ad rfl,by simp,Nat.zero_le _,fun q w O=>by simp at O⟩
  ·refine⟨rfl,by rw [Ik ab,U],aa.1,fun q w O=>?_⟩;obtain⟨q1,m,ws,ag,ah,ai⟩:=JH ab O;have:=(W q1 ws ag).cell (H:=H) (B:=B) ah;subst ai;rw [← Nat.add_assoc];exact this
 ·obtain⟨us,aj,hw⟩:=List.mem_flatten.1 hw;obtain⟨q,O⟩:=List.mem_iff_getElem?.1 aj;have ak:q<ys.length:=by rw [← U];exact(List.getElem?_eq_some_iff.1 O).1
  exact pp.one (Z q _ us (List.getElem?_eq_getElem ak) O) w hw
theorem Rz{P:Program}{s:St}{t:TypeId}{a b:Bool}(ht:P.underlying t=some .bool){Q:Bool→St→Prop}{X:Halt→St→Prop}(h:Q (a==b) s):lp P (Op.equal t (.bool a) (.bool b)) s Q X:=by
 unfold Op.equal Op.maxDepth Op.equalIn;exact AD _ _ (Ck ht h)
theorem Yl.Tm{P:Program}{s:St}{ρ:Operand→Value}{x y:Operand}{d:Option Tmp}{t u ty:TypeId}{p:String}{af:Array Edge}{g:Option (Nat×Bool)}{a b:Bool}(ht:P.underlying t=some .bool)(K:ρ x= .bool a)(O:ρ y= .bool b):Yl P ⟨d,.binOp .eql t x y u,ty,p,af,g⟩ ρ s (.bool (a==b)):=by
 refine Yl.DL (sm:=do eqGuard .eql t x y (ρ x) (ρ y);binOp .eql t (ρ x) (ρ y)) rfl ?_
 rw [K,O];have U:lp P (eqGuard .eql t x y (.bool a) (.bool b)) s (fun _ s'=>s'=s) (fun _ _=>False):=by simp [eqGuard,lp,pure]
 refine AD _ _ (Cl _ U ?_ (fun _ _ h=>h));rintro _ _ rfl;have hb:binOp .eql t (.bool a) (.bool b)=(do pure (.bool (← Op.equal t (.bool a) (.bool b)))):=rfl
 rw [hb];exact AD (x:=Op.equal t (.bool a) (.bool b)) _ (Rz ht ⟨rfl,rfl⟩)
section
variable {P:Program}{J:Judge P}{Q:Goroutine→St→Prop}{b:Frame}{n:Nat}{ds:List Deferred}{ops:Array Oper}{k:List Item}{cs:List Frame}{L:Env}{s:St}{E E' H:LH}{S:List Seg}
variable {d:Option Tmp}{x y z1:Operand}{t u ty e:TypeId}{p:String}{af:Array Edge}{g:Option (Nat×Bool)}{v:Value}{i:Nat}{rest:List Nat}{kd:IntKind}{ρ:Operand→Value}
theorem Yl.QU{a:Option Addr}{l c K:Nat}(O:∀ad,a=some ad→ad.spot=none)(U:l≤c)(ht:P.underlying t=some (.slice e))(W:Bj P e=some K)(Z:ρ x= .slice a l c)(aa:ρ y=iV (l:Int))(ab:ρ z1=iV (l:Int)):
  Yl P ⟨d,.slice t x none (some y) (some z1),ty,p,af,g⟩ ρ s (.slice a l l):=by
 have h:=Yl.slice (P:=P) (s:=s) (d:=d) (ty:=ty) (p:=p) (af:=af) (g:=g) (olo:=none) (ohi:=some y) (omx:=some z1) (lo:=0) (hi:=l) (mx:=l) ht W Z ab aa rfl U (Nat.le_refl _) (Nat.zero_le _);have ae:(if l=0 then a else a.map (·.add (0*K)))=a:=by
  split
  ·rfl
  ·cases a with
   | none=>rfl
   | some ad=>
    have:=O ad rfl;simp only [Option.map_some,Nat.zero_mul];rw [Bd this];obtain⟨b,o,sp⟩:=ad;simp only at this;subst this;simp
 rw [ae] at h;simpa using h
theorem JS.Ra{α:Type}{pp:Rp α}{t1:TypeId}{W c cx:Nat}{a ax:Option Addr}{xs ys Z:List α}{ats:Array TypeId}{z:Value}(U:CF xs ys=some Z)
  (ak:ops[i]? =some ⟨d,.call ⟨.builtin .append,#[x,y],ats⟩,ty,p,af,g⟩) (hw:AU L ops ⟨d,.call ⟨.builtin .append,#[x,y],ats⟩,ty,p,af,g⟩=some true) (al:BR b n ⟨d,.call ⟨.builtin .append,#[x,y],ats⟩,ty,p,af,g⟩=true)
  (am:ev L x=some (.slice a xs.length xs.length)) (an:ev L y=some (.slice ax ys.length cx)) (ao:ats[0]? =some t) (ap:ats[1]? =some t1) (ht:P.underlying t=some (.slice e)) (aq:P.underlying t1=some (.slice e)) (ar:Bj P e=some pp.n) (hb:Dc P e=some W) (au:zeroOf P e=some z) (av:z.cells.size=pp.n)
  (aw:0<W) (ay:W≤64) (aa:Ao pp E a c xs) (az:Ao pp E ax cx ys) (ab:Ax E H S)
  (h:∀E' ae K,Le E E'→Ao pp E' ae K Z→Ax E' H (S++ [[]])→JL J Q b n (AE L d (.slice ae Z.length K)) ds (.inRegion ops rest::k) cs (Am E' H (S++ [[]]))):
  JL J Q b n L ds (.inRegion ops (i::rest)::k) cs (Am E H S):=by
 unfold CF at U;split at U
 rotate_left
 ·cases U
 rename_i aA;cases U;obtain⟨wss,ag,aB,aC,aS⟩:=Ao.MY (H:=H) (B:=S.flatten) aa.full;obtain⟨aD,aE,aF,aG,aH⟩:=Ao.MY (H:=H) (B:=S.flatten) az;have hlen:(xs++ys).length=xs.length+ys.length:=by simp
 show JL J Q b n L ds (.inRegion ops (i::rest)::k) cs (mk E H S.flatten);refine JL.op ak hw al fun ρ ah=>?_;rw [Ih,ah x _ am,ah y _ an];refine AD _ _ (OI ao ap aq ht ar hb au av ab aC aG aH aw aA ay ?_ ?_)
 ·intro hm;have aI:ys= []:=List.eq_nil_of_length_eq_zero hm;subst aI;have aJ:Ax E H (S++ [[]]):=by unfold Ax at*;rw [Er,List.append_nil];exact ab
  have aK:mk E H S.flatten=Am E H (S++ [[]]):=by unfold Am;rw [Er,List.append_nil]
  rw [aK];have:=h E a xs.length (Le.refl _) (by rw [List.append_nil];exact aa.full) aJ;rw [hlen] at this;exact this
 ·intro r O K aL aM aN aO;have aP:OL e pp E (some ⟨r,0,none⟩) K [(r,.cells O e (0,0))] (xs++ys):=
   ⟨wss++aD,.inr ⟨r,O,rfl,rfl,aM,by rw [hlen];exact aL,by rw [hlen,List.flatten_append];exact aN.symm⟩,by simp [ag,aE],JP ag aB aF⟩
  have ai:=Db (S:=S) (seg:= [(r,.cells O e (0,0))]) aO;show JL J Q b n _ ds _ cs (mk E H (S.flatten++ [(r,.cells O e (0,0))]));rw [ai.1];refine JS.BO S.length aP ai.2 (by simp) fun E' hle aQ aj=>?_;have aR:(S++ [[(r,Obj.cells O e (0,0))]]).set S.length []=S++ [[]]:=FZ _ _ _ _;rw [aR] at aj ⊢;have:=h E' (some ⟨r,0,none⟩) K hle aQ aj;rw [hlen] at this;exact this
end
end Pal
namespace Pal
open Go Go.Conc
open Go.ConcN (sumTo upd sumTo_upd upd_ne upd_same)
def Hu(P:Program)(R:Value→St→Prop):GP:=fun g s=>
 g.status= .running∧∃v,R v s∧∀w,stepG P true g w= .ended (.done v) w #[]
section
variable {P:Program}{R:Value→St→Prop}{J:Judge P}{n:Nat}{L:Env}{s:St}{b:Frame}
theorem JO.end{fn:Func}{t:Tmp}{v:Value}(K:b.kind= .normal)(hi:P.inits.idxOf? b.fn=none)(O:P.funcs[b.fn]? =some fn)(U:fn.results= #[.tmp t])(W:look L t=some v)(Z:R v s):JO J (Hu P R) b n L [] [] s:=fun T aa todo=>by
 refine J.stop ⟨rfl,v,Z,fun w=>?_⟩
 have e:results fn T=Sem.pure v:=by
  have:=aa.at_ t v W;simp only [results,U,Array.mapM_eq_mapM_toList];show Sem.pure (T.getD t undef)=_;rw [this]
 have ab:(results fn T).run P w= .ok v w:=by rw [e];rfl
 have ae:(results fn T).events P w #[]= #[]:=by rw [e];simp [Sem.events_pure']
 simp [G,stepG,unwind,CR,O,ab,ae,doReturn,K,GStep.after,hi,seen_none]
end
section
variable {P:Program}{R:Value→St→Prop}
def HN(P:Program)(R:Value→St→Prop)(K:World)(s₀:St)(v:Value)(w':World):Prop:=
 ∃s,R v s∧Fits s w'∧(∀b o,s₀.E b=some o→s.E b=some o)∧w'.tape=K.tape∧w'.os=K.os∧w'.output=K.output
def K8(P:Program)(R:Value→St→Prop)(K:World)(s₀:St)(O:Nat)(m:Machine)(t:Trace):Prop:=
 ∃gs w sl q Sh g s,m=crowd gs w sl∧Em P gs w t q Sh g s∧Hu P R g s∧O=sumTo gs.size q∧(∀b o,s₀.E b=some o→s.E b=some o)∧w.tape=K.tape∧w.os=K.os∧w.output=K.output
theorem Qm{ah:World}{s₀:St}(al:Nat)(m:Machine)(t:Trace)(h:K8 P R ah s₀ al m t):
  (∃o w ops,stepT P m=(.ended o w,ops)∧Good P (HN P R ah s₀) m o w (t++ops))∨(∃m' ops am,stepT P m=(.next m',ops)∧am<al∧K8 P R ah s₀ am m' (t++ops)):=by
 obtain⟨gs,w,sl,q,Sh,g,s,rfl,hC,aC,rfl,an,ao,ap,aq⟩:=h;obtain⟨aa,v,ar,au⟩:=aC;have aD:∀x∈gs,awake x:=by
  intro x W;obtain⟨i,hi,rfl⟩:=Array.mem_iff_getElem.1 W;rcases Nat.eq_zero_or_pos i with rfl | ai
  ·have:gs[0]=g:=by simpa [Array.getElem?_eq_getElem hi] using hC.main
   rw [this];exact awake_of (.inl aa)
  ·exact awake_of ((hC.lv.old i _ ai (Array.getElem?_eq_getElem hi)).status.elim .inl fun x=> .inr (.inr x))
 obtain⟨i,x,d,av,hi,W,aw⟩:=crowd_pick (P:=P) (w:=w) (sl:=sl) aD ⟨0,g,hC.main,aa⟩;have ay:=hC.at_ d;have aE:0<gs.size:=(Array.getElem?_eq_some_iff.1 hC.main).1;have aF:∀(a:Nat) (fn:FuncId) (pos:String),MemOp.ofEvents a fn pos #[]= #[]:=fun a fn pos=>by rw [ofEvents_eq];simp
 rcases Nat.eq_zero_or_pos i with rfl | ai
 ·obtain rfl:x=g:=by rw [hC.main] at hi;exact(Option.some.inj hi).symm
  have ab:=runT_many_ended (P:=P) (sl:=av) (i:=0) hi (show stepG P (0==0) x (w.at d)=_ from au (w.at d));rw [aF] at ab;refine .inl ⟨_,_,_,aw.trans ab,v,rfl,⟨s,ar,ay.BW.fits 0 aE,an,ao,ap,aq⟩,?_,?_,⟨fun y K=>?_,rfl⟩,fun j y K O=>?_⟩
  ·simpa using hC.BW.clean
  ·simpa using hC.over
  ·obtain⟨j,O⟩:=List.mem_iff_getElem?.1 K;rw [List.getElem?_drop] at O;exact⟨_,(hC.lv.old (1+j) y (by omega) (by simpa [crowd] using O)).leaves⟩
  ·have Z:=hC.lv.old j y (by omega) K;exact⟨q j,by simp only [Array.append_empty];exact Z.hears w⟩
 ·have Z:=hC.lv.old i x ai hi;have aG:(i==0)=false:=by simp;omega
  have az:i<gs.size:=(Array.getElem?_eq_some_iff.1 hi).1;cases aj:q i with
  | zero=>rw [aj] at Z;rw [Z.1] at W;cases W
  | succ k=>
   rw [aj] at Z;rcases Z with⟨aH,_⟩ | ⟨_,x',es,hm,aI,aJ⟩
   ·rw [aH] at W;cases W
   have aN:sumTo gs.size (upd q i k)+(k+1)=sumTo gs.size q+k:=by
    have:=sumTo_upd q k id az;simpa [aj] using this
   have ab:=runT_crowd_go (P:=P) (sl:=av) (i:=i) hi (by rw [aG];exact aI (w.at d));have ak:((gs.map (woken P x x' (w.at d))).setIfInBounds i x').size=gs.size:=by simp
   have ae:∀op∈MemOp.ofEvents i x.frame.fn x.frame.place es,op.g=i:=fun op U=>by obtain⟨e,_,rfl⟩:=mem_ofEvents U;rfl
   have aA:∀op∈MemOp.ofEvents i x.frame.fn x.frame.place es,op.act.touch? =none:=fun op U=>by obtain⟨e,he,rfl⟩:=mem_ofEvents U;exact touch_mute (hm e he)
   have aK:Em P ((gs.map (woken P x x' (w.at d))).setIfInBounds i x') (w.at d) (t++MemOp.ofEvents i x.frame.fn x.frame.place es) (upd q i k) Sh g s:=by
    refine⟨?_,⟨fun j y O K=>?_,fun j O=>?_⟩,?_,?_,?_⟩
    ·have aL:i≠0:=by omega
     rw [Array.getElem?_setIfInBounds_ne aL,Array.getElem?_map,hC.main];simp [woken_run aa]
    ·by_cases ag:i=j
     ·subst ag;rw [Array.getElem?_setIfInBounds_self_of_lt (by simpa using az)] at K;obtain rfl:=Option.some.inj K;rw [upd_same,Deaf_own];exact aJ
     ·rw [Array.getElem?_setIfInBounds_ne ag,Array.getElem?_map] at K;obtain⟨z,aM,rfl⟩:=Option.map_eq_some_iff.1 K;have aB:=hC.lv.old j z O aM;rw [woken_quitsD aB,upd_ne q k (Ne.symm ag),Deaf_other t ag _ ae];exact aB
    ·rw [Deaf_other t (g':=i) (by simp at O;omega) _ ae];exact hC.lv.above j (by simpa using O)
    ·rw [ak];exact ay.BW.mute ae aA (fun op U=>by obtain⟨e,he,rfl⟩:=mem_ofEvents U;exact low_mute (hm e he) _) rfl
    ·exact handedOver_app hC.over fun op U=> .inr (aA op U)
    ·rw [Deaf_other t (by omega) _ ae];exact hC.hears
   exact .inr ⟨_,_,_,aw.trans ab,by rw [← ak];rw [ak];omega,_,_,_,_,_,_,_,rfl,aK,⟨aa,v,ar,au⟩,rfl,an,ao,ap,aq⟩
theorem ends{gs:Array Goroutine}{w:World}{sl:Option (Nat×Nat)}{t:Trace}{q:Nat→Nat}{Sh:Nat→Prop}{g:Goroutine}{s:St}(hC:Em P gs w t q Sh g s)(O:Hu P R g s):
  ∃N last o w' K,runNT P (N+1) (crowd gs w sl) t=(.ended o w',K)∧runN P N (crowd gs w sl)= .next last∧step P last= .ended o w'∧Good P (HN P R w s) last o w' K:=
 run_of_inv Nat.lt_wfRel.wf (K8 P R w s) (Good P (HN P R w s)) Qm _ _ _ ⟨gs,w,sl,q,Sh,g,s,rfl,hC,O,rfl,fun _ _ h=>h,rfl,rfl,rfl⟩
theorem Pa{m m':Machine}{t K:Trace}{n:Nat}(h:runNT P n m t=(.next m',K)):runN P n m= .next m':=by rw [← runNT_fst P n m t,h]
def Gd(W:World):St:=⟨fun b=>W.heap[b]?,fun _=>none,false⟩
theorem Qf{W:World}{g:Goroutine}(h:(CC P).ok (Hu P R) g (Gd W)):
  ∃M last o w' K,runNT P (M+1) (solo g W) #[]=(.ended o w',K)∧runN P M (solo g W)= .next last∧step P last= .ended o w'∧Good P (HN P R W (Gd W)) last o w' K:=by
 have hC:Em P #[g] W #[] (fun _=>0) (fun _=>False) g (Gd W):=by
  have Z:∀{i:Nat} {a:Touch},touchAt #[] i=some a→False:=fun {i a} h=>by simp [touchAt,Trace.act?] at h
  refine⟨rfl,leavers_one P g,⟨fun i hi=>?_,fun i j hi ab aD=>by simp at hi ab;omega,fun i hi b hb=>hb.elim,fun b hb=>hb.elim,fun said=>?_,by simp,fun i _ b _ x a O=>(Z O).elim,fun i _ b _ x a O=>(Z O).elim⟩,fun i g ae=>by simp [Trace.g?] at ae,rfl⟩
  ·have:i=0:=by simp at hi;exact hi
   subst this;exact⟨fun b o U=>U,fun b o U=>(by cases U),fun b _=>rfl⟩
  ·rintro⟨i,j,_,⟨a,b,ag,_⟩,_⟩;simp [Trace.act?] at ag
 obtain⟨n,gs',w',ah,K,aE,aF,g',s',aa,ai,aj,ak,al,am,an⟩:=h #[g] W none #[] _ _ hC;obtain⟨N,last,o,ao,ap,k1,aq,ar,au⟩:=ends (sl:=ah) ai aj;refine⟨n+N,last,o,ao,ap,?_,?_,ar,?_⟩
 ·rw [solo_eq_crowd,Nat.add_assoc,runNT_add,aa];exact k1
 ·have av:=Pa aa;rw [solo_eq_crowd,runN_add,av];exact aq
 ·obtain⟨v,e,⟨s2,aw,ay,az,aA,aB,aC⟩,r⟩:=au;exact⟨v,e,⟨s2,aw,ay,fun b o hb=>az b o (ak b o hb),aA.trans al,aB.trans am,aC.trans an⟩,r⟩
end
end Pal
namespace Pal
open Go Go.Conc
theorem PS{P:Program}{Q:Goroutine→St→Prop}{E H:LH}{f:FuncId}{fn:Func}{c:Code}{vs:List Value}(U:P.funcs[f]? =some fn)(hb:fn.body=some c)(aa:fn.ntmps=fn.ntmps)(ab:vs.length≤fn.ntmps)
  (h:JL (CC P) Q (base f) fn.ntmps (D5 0 vs) [] [.code c] [] (Am E H [[]])):(CC P).ok Q (G (Frame.enter P f vs.toArray .normal) []) (mk E H []):=by
 have he:Frame.enter P f vs.toArray .normal=fr (base f) (vs.toArray++Array.replicate (fn.ntmps - vs.length) undef) [] [.code c]:=by
  simp [Frame.enter,fr,U,hb,base];rfl
 rw [he];have W:mk E H []=Am E H [[]]:=by unfold Am;simp
 rw [W];refine h _ ⟨by simp;omega,fun t v ht=>?_⟩;obtain⟨_,K⟩:=GI ht;have Z:t<vs.length:=by
  rcases Nat.lt_or_ge t vs.length with O | O
  ·exact O
  ·simp at K;have:=(List.getElem?_eq_some_iff.1 K).1;omega
 rw [Array.getD_eq_getD_getElem?,Array.getElem?_append_left (by simpa using Z)];simp at K;simp [K]
end Pal
namespace Pal
open Go Go.Conc Go.Proofs Go.ChangeShapes Go.WideShapes Go.ChangeAt Go.RowKit
open Go.Proofs.YtboibffcmhheiaaGreatDoor (Rows.laid_errors_errorType)
theorem Tryz.own:ownKnob Tryz.prog.godebug=none:=by kernel_rfl
theorem Tryz.laidOut:laidOutB Tryz.prog=true:=by kernel_rfl
theorem Tryz.R1:Tryz.prog.cellsOf 3=1:=by kernel_rfl
theorem P2{W:World}{a:Addr}{len cap:Nat}{K:List Int}(Z:a.spot=none)(ai:len≤cap)(ae:len≤K.length)(ag:∀i,i<K.length→W.cell? (a.add i)=some (.int .i64 (K.getD i 0))):
  Ao rI (Gd W).E (some a) cap (K.take len)∧(K.take len).length=len:=by
 have ab:(K.take len).length=len:=by simp [Nat.min_eq_left ae]
 refine⟨⟨by omega,.inr ⟨a.block,a.off,?_,fun i x aa=>⟨[iV x],rfl,?_⟩⟩⟩,ab⟩
 ·obtain⟨b,o,s⟩:=a;simp only at Z;subst Z;rfl
 ·have hi:i<len:=by rw [← ab];exact(List.getElem?_eq_some_iff.1 aa).1
  have O:=ag i (by omega);have ah:K.getD i 0=x:=by
   rw [List.getElem?_take_of_lt hi] at aa;rw [List.getD_eq_getElem?_getD,aa];rfl
  rw [ah,Bd Z] at O;unfold World.cell? at O;split at O
  ·rename_i c e f hW;simp only [Option.isSome_none,Bool.false_eq_true,if_false] at O;refine⟨c,e,f,hW,fun j w U=>?_⟩
   match j,U with
   | 0,U=>
    simp at U;subst U;show c[a.off+i*1+0]? =some (.int .i64 x);simpa using O
   | j+1,U=>simp at U
  ·cases O
theorem OW{W:World}{base:Nat}{t e:TypeId}{a:Addr}{len cap:Nat}(ht:Tryz.prog.underlying t=some (.slice e))(h:Value.okWide Tryz.prog W .any base t (.slice (some a) len cap)):a.spot=none∧len≤cap:=by
 simp only [Value.okWide,ht,Cell.okWide,Cell.ok] at h;exact⟨h.2.2.2.1,h.1⟩
theorem OQ{R:Value→St→Prop}{W w':World}{v:Value}(h:HN Tryz.prog R W (Gd W) v w'):(∃s,R v s)∧Below W.heap.size W w':=by
 obtain⟨s,Z,aa,ab,ht,ae,ag⟩:=h;have hb:∀k,k<W.heap.size→w'.heap[k]? =W.heap[k]? :=fun k O=>by
  have K:(Gd W).E k=some W.heap[k]:=Array.getElem?_eq_getElem O;have U:=aa.e k _ (ab k _ K);rw [U,Array.getElem?_eq_getElem O]
 refine⟨⟨s,Z⟩,⟨ae,ht,ag,?_,hb⟩⟩;rcases Nat.eq_zero_or_pos W.heap.size with ah | ah
 ·omega
 ·have K:=hb (W.heap.size - 1) (by omega);have ai:W.heap[W.heap.size - 1]? =some W.heap[W.heap.size - 1]:=Array.getElem?_eq_getElem (by omega);rw [ai] at K;have U:=(Array.getElem?_eq_some_iff.1 K).1;omega
noncomputable def LY(os:Os):World:=
 let w0:=World.holding Tryz.prog os ⟨#[],#[],[]⟩
 {w0 with heap:=w0.heap.modify 0 fun
   | .cells _ t frozen=> .cells #[.iface 240 (.agg #[.pointer (some ⟨1,149,none⟩)])] t frozen
   | o=>o}
theorem OK(os:Os)(args:Array Value):laidMetH Tryz.prog [("errors.errorType",Go.Proofs.YtboibffcmhheiaaGreatDoor.Rows.laid_errors_errorType)] ((LY os).forCall (fun _ _=>0) ⟨#[],args,[]⟩).memory:=
 laidMetH_of_parts (laidMet_nil _ _) (by kernel_rfl)
end Pal
namespace Pal
open Go Go.Conc
theorem oi{α:Type}{a b:α}(h:some a=some b):a=b:=Option.some.inj h
theorem bs{α β:Type}{o:Option α}{f:α→Option β}{r:β}(h:o.bind f=some r):∃x,o=some x∧f x=some r:=bind_some h
def HD(L:Env):Env→List (Option Value)
 | []=> []
 | (t,_)::L'=>look L t::HD L L'
def HQ:Env→List (Option Value)
 | []=> []
 | (_,v)::L'=>some v::HQ L'
theorem Ku{L:Env}:∀{L':Env},HD L L'=HQ L'→Sub L' L
 | [],_=>trivial
 | (t,v)::L',h=>by
  simp only [HD,HQ,List.cons.injEq] at h
  exact⟨h.1,Ku h.2⟩
section
variable {P:Program}{J:Judge P}{Q:Goroutine→St→Prop}{b:Frame}{n:Nat}{L L':Env}{ds:List Deferred}{k k':List Item}{cs:List Frame}{s:St}{ops:Array Oper}{i:Nat}{rest:List Nat}{v:Value}
variable {d:Option Tmp}{op:Op}{ty:TypeId}{p:String}{af:Array Edge}{g:Option (Nat×Bool)}
theorem JL.wk(L':Env)(h:HD L L'=HQ L')(k':JL J Q b n L' ds k cs s):JL J Q b n L ds k cs s:=JL.Cc (Ku h) k'
theorem JL.kw(k':JL J Q b n L' ds k cs s)(h:HD L L'=HQ L'):JL J Q b n L ds k cs s:=JL.Cc (Ku h) k'
def FL(b:Frame)(n:Nat)(L:Env)(ops:Array Oper)(i:Nat):Option Oper:=
 match FK ops.toList i with
 | some ⟨d,op,ty,p,af,g⟩=>match AU L ops ⟨d,op,ty,p,af,g⟩ with
  | some true=>match BR b n ⟨d,op,ty,p,af,g⟩ with
   | true=>some ⟨d,op,ty,p,af,g⟩
   | false=>none
  | _=>none
 | none=>none
theorem Iw{o:Oper}(h:FL b n L ops i=some o):ops[i]? =some o∧AU L ops o=some true∧BR b n o=true:=by
 unfold FL at h;split at h
 ·rename_i K;rw [GU,Array.getElem?_toList] at K;split at h
  ·rename_i hw;split at h
   ·rename_i O;cases h;exact⟨K,hw,O⟩
   ·cases h
  ·cases h
 ·cases h
theorem JL.Y(K:FL b n L ops i=some ⟨d,op,ty,p,af,g⟩)(h:∀ρ,C4 L ρ→Yl P ⟨d,op,ty,p,af,g⟩ ρ s v)(O:JL J Q b n (AE L d v) ds (.inRegion ops rest::k) cs s):
  JL J Q b n L ds (.inRegion ops (i::rest)::k) cs s:=
 let ⟨U,W,Z⟩:=Iw K
 JL.y U W Z h O
theorem As.en{f:FuncId}{fn:Func}{c:Code}{E:LH}{vs:List Value}{B:Seg}{R:Value→LH→Seg→Prop}(O:P.funcs[f]? =some fn)(hb:fn.body=some c)(U:Nat.ble vs.length fn.ntmps=true)
  (h:∀(Q:Goroutine→St→Prop) (K:Frame) (cs:List Frame) (H:LH),Ax E H [B]→(∀v E' S' B',Le E E'→S'.flatten=B'→R v E' B'→Ax E' H S'→J.ok Q (G (K.finish v) cs) (Am E' H S'))→JL J Q (base f) fn.ntmps (D5 0 vs) [] [.code c] (K::cs) (Am E H [B])):As J f vs E B R:=
 As.enter O hb (Nat.le_of_ble_eq_true U) h
def Jy(n:Nat)(L:Env)(ops:Array Oper)(i:Nat):Option Env:=
 match FK ops.toList i with
 | some ⟨d,op,ty,p,af,g⟩=>match AU L ops ⟨d,op,ty,p,af,g⟩ with
  | some true=>match Bb n d with
   | true=>match Gx L op with
    | some v=>match d with
     | some d=>some ((d,v)::L)
     | none=>some L
    | none=>none
   | false=>none
  | some false=>match Bb n d with
   | true=>match d with
    | some d=>some ((d,undef)::L)
    | none=>some L
   | false=>none
  | none=>none
 | none=>none
def Gz(n:Nat)(L:Env)(ops:Array Oper)(i:Nat):Option Oper:=
 match FK ops.toList i with
 | some ⟨d,op,ty,p,af,g⟩=>match AU L ops ⟨d,op,ty,p,af,g⟩ with
  | some true=>match Bb n d with
   | true=>some ⟨d,op,ty,p,af,g⟩
   | false=>none
  | _=>none
 | none=>none
theorem LU{o:Oper}(h:Gz n L ops i=some o):ops[i]? =some o∧AU L ops o=some true∧Bb n o.dst=true:=by
 unfold Gz at h;split at h
 ·rename_i K;rw [GU,Array.getElem?_toList] at K;split at h
  ·rename_i hw;split at h
   ·rename_i O;cases h;exact⟨K,hw,O⟩
   ·cases h
  ·cases h
 ·cases h
theorem Qn(h:Jy n L ops i=some L'):∃o,ops[i]? =some o∧Bb n o.dst=true∧((∃v,AU L ops o=some true∧Gx L o.op=some v∧L'=AE L o.dst v)∨(AU L ops o=some false∧L'=AE L o.dst undef)):=by
 unfold Jy at h;split at h
 ·rename_i d op ty p af g O;rw [GU,Array.getElem?_toList] at O;refine⟨_,O,?_⟩;split at h
  ·rename_i hw;split at h
   ·rename_i K;refine⟨K,.inl ?_⟩;split at h
    ·rename_i v U;refine⟨v,hw,U,?_⟩;cases d with
     | none=>cases h;rfl
     | some d=>cases h;rfl
    ·cases h
   ·cases h
  ·rename_i hw;split at h
   ·rename_i K;refine⟨K,.inr ⟨hw,?_⟩⟩;cases d with
    | none=>cases h;rfl
    | some d=>cases h;rfl
   ·cases h
  ·cases h
 ·cases h
variable {m:Nat}{D:Nat→Bool}{fuel:Nat}{listed:Array Bool}
theorem JG.mv(i:Nat)(K:Du ops m=true)(O:s.q=false)(h:Jy n L ops i=some L')
  (U:Au J Q b n ds ops k cs m D fuel (AX listed i) L' s) (W:EK ops listed m i=true:=by decide+kernel):Au J Q b n ds ops k cs m D (fuel+1) listed L s:=by
 obtain⟨o,Z,aa,⟨v,hw,ab,rfl⟩ | ⟨hw,rfl⟩⟩:=Qn h
 ·exact JG.val i Z K W O hw aa (fun ρ ae s' _=>IS ae ab) U
 ·exact JG.no i Z K W O hw aa U
theorem JG.V(i:Nat)(K:Du ops m=true)(O:s.q=false)(U:Gz n L ops i=some ⟨d,op,ty,p,af,g⟩)
  (W:∀ρ,C4 L ρ→∀s':St,(∀x o,(Bg D s).E x=some o→s'.E x=some o)→Yl P ⟨d,op,ty,p,af,g⟩ ρ s' v)
  (Z:Au J Q b n ds ops k cs m D fuel (AX listed i) (AE L d v) s) (aa:EK ops listed m i=true:=by decide+kernel):Au J Q b n ds ops k cs m D (fuel+1) listed L s:=by
 obtain⟨ab,ae,ag⟩:=LU U;exact JG.val i ab K aa O ae ag W Z
end
end Pal
namespace Pal
open Go Go.Conc
abbrev Jn(E H E':LH)(S:List Seg)(K L:Env)(s:St)(R:Prop):Prop:=L=K∧s=Am E' H S∧Le E E'∧Ax E' H S∧R
abbrev Jm(E H E':LH)(S:List Seg)(K L:Env)(s:St):Prop:=L=K∧s=Am E' H S∧Le E E'∧Ax E' H S
def Jq(L:Env):List ResultVar→Option (List Value)
 | []=>some []
 | .tmp t::rs=>match look L t with
  | some v=>match Jq L rs with
   | some vs=>some (v::vs)
   | none=>none
  | none=>none
 | _=>none
theorem MM{P:Program}{L:Env}{s:St}:∀{rs:List ResultVar} {vs:List Value},Jq L rs=some vs→RV P L s rs vs
 | [],vs,h=>by cases h;trivial
 | .tmp t::rs,vs,h=>by
  unfold Jq at h
  split at h
  ·rename_i v K
   split at h
   ·rename_i ws hw;cases h;exact⟨K,MM hw⟩
   ·cases h
  ·cases h
 | .cell _ _::_,_,h=>by cases h
section
variable {P:Program}{J:Judge P}{Q:Goroutine→St→Prop}{b:Frame}{n:Nat}{L L':Env}{ds:List Deferred}{k k':List Item}{cs:List Frame}{s:St}{ops:Array Oper}{i:Nat}{rest:List Nat}{v:Value}{E H:LH}{S:List Seg}
variable {d:Option Tmp}{op:Op}{x y:Operand}{t ft ty e:TypeId}{p:String}{af:Array Edge}{g:Option (Nat×Bool)}
theorem JL.rt{c:Frame}{fn:Func}{vs:List Value}(O:P.funcs[b.fn]? =some fn)(K:(b.kind== .normal&&b.roundOf.isNone)=true)(U:Jq L fn.results.toList=some vs)(h:J.ok Q (G (c.finish (IH vs)) cs) s):JL J Q b n L [] (.code .ret::k) (c::cs) s:=by
 simp only [Bool.and_eq_true,beq_iff_eq,Option.isNone_iff_eq_none] at K;exact JL.ret K.1 K.2 (Bv.list O rfl (MM U)) h
theorem JS.cl{f:FuncId}{args:Array Operand}{ats:Array TypeId}{vs:List Value}{R:Value→LH→Seg→Prop}
  (O:As J f vs E [] R) (U:FL b n L ops i=some ⟨d,.call ⟨.value (.func f),args,ats⟩,ty,p,af,g⟩) (W:evs L args.toList=some vs) (hb:Cv P f=true)
  (Z:Ax E H S) (aa:∀v E' seg',Le E E'→R v E' seg'→Ax E' H (S++ [seg'])→JL J Q b n (AE L d v) ds (.inRegion ops rest::k) cs (Am E' H (S++ [seg']))):
  JL J Q b n L ds (.inRegion ops (i::rest)::k) cs (Am E H S):=by
 obtain⟨ab,ae,K⟩:=Iw U;refine JS.call O ab ae ?_ hb W Z aa;simp only [BR,Bool.and_eq_true] at K ⊢;exact⟨K.1,K.2.1⟩
theorem JS.Bu{f:FuncId}{args:Array Operand}{ats:Array TypeId}{vs:List Value}{seg:Seg}{R:Value→LH→Seg→Prop}(j:Nat)
  (O:As J f vs E seg R) (U:FL b n L ops i=some ⟨d,.call ⟨.value (.func f),args,ats⟩,ty,p,af,g⟩) (W:evs L args.toList=some vs) (hb:Cv P f=true)
  (Z:Ax E H S) (aa:S[j]? =some seg) (ab:∀v E' seg',Le E E'→R v E' seg'→Ax E' H (S.set j seg')→JL J Q b n (AE L d v) ds (.inRegion ops rest::k) cs (Am E' H (S.set j seg'))):
  JL J Q b n L ds (.inRegion ops (i::rest)::k) cs (Am E H S):=by
 obtain⟨ae,ag,K⟩:=Iw U;refine JS.KH j O ae ag ?_ hb W Z aa ab;simp only [BR,Bool.and_eq_true] at K ⊢;exact⟨K.1,K.2.1⟩
def I4(K:Array Field)(i:Nat):Option (Nat×TypeId):=match K[i]? with
 | some f=>some (f.offset,f.type)
 | none=>none
theorem JL.fd{O o U off:Nat}{W:Array Field}{Z:Nat}(ht:P.underlying t=some (.struct W))(aa:Bj P ft=some (U+1))(ab:FL b n L ops i=some ⟨d,.fieldAddr t x Z,ty,p,af,g⟩)(ae:ev L x=some (.pointer (some ⟨O,o,none⟩)))(K:I4 W Z=some (off,ft))
  (ag:JL J Q b n (AE L d (.pointer (some ⟨O,o+off,none⟩))) ds (.inRegion ops rest::k) cs s):
  JL J Q b n L ds (.inRegion ops (i::rest)::k) cs s:=by
 unfold I4 at K;split at K
 ·rename_i f ah;cases K;refine JL.Y ab (fun ρ h=>Yl.Ow (a:=⟨O,o,none⟩) U f.offset ht aa ah rfl rfl (h _ _ ae)) ?_;rw [Bd rfl];exact ag
 ·cases K
theorem JL.ld{K o:Nat}{ws:List Value}(j:Nat)(O:At E K o ws)(ht:CM P t=some false)(U:FL b n L ops i=some ⟨d,.load t x,ty,p,af,g⟩)(W:ev L x=some (.pointer (some ⟨K,o+j,none⟩)))(Z:ws[j]? =some v)
  (aa:JL J Q b n (AE L d v) ds (.inRegion ops rest::k) cs (Am E H S)):
  JL J Q b n L ds (.inRegion ops (i::rest)::k) cs (Am E H S):=
 JL.Y U (fun _ h=>Yl.load ht (h _ _ W) (At.Oa O Z)) aa
theorem JS.st{K off:Nat}{c:Array Value}(j:Nat)(O:Ax E H S)(U:Bj P t=some v.cells.size)(W:FL b n L ops i=some ⟨d,.store t x y,ty,p,af,g⟩)
  (Z:ev L x=some (.pointer (some ⟨K,off,none⟩))) (aa:ev L y=some v) (ab:S[j]? =some [(K,.cells c e (0,0))])
  (h:Ax E H (S.set j [(K,.cells (A0 c off v.cells.toList) e (0,0))])→JL J Q b n (AE L d undef) ds (.inRegion ops rest::k) cs (Am E H (S.set j [(K,.cells (A0 c off v.cells.toList) e (0,0))])))
  (hle:off+v.cells.size≤c.size:=by exact Nat.le_of_ble_eq_true rfl) (ae:∀u∈v.cells.toList,BJ u=true:=by simp [Value.cells,BJ]):
  JL J Q b n L ds (.inRegion ops (i::rest)::k) cs (Am E H S):=by
 obtain⟨ag,ah,ai⟩:=Iw W;exact JS.store j ag ah ai O Z aa U ae ab hle h
theorem JL.Bx{K o:Nat}{ws:List Value}(O:At E K o ws)(ht:CM P t=some true)(U:Bj P t=some ws.length)(W:FL b n L ops i=some ⟨d,.load t x,ty,p,af,g⟩)(Z:ev L x=some (.pointer (some ⟨K,o,none⟩)))
  (aa:JL J Q b n (AE L d (.agg ws.toArray)) ds (.inRegion ops rest::k) cs (Am E H S)):
  JL J Q b n L ds (.inRegion ops (i::rest)::k) cs (Am E H S):=
 JL.Y W (fun _ h=>Yl.Bp ht U (h _ _ Z) (At.Ry O)) aa
variable {m:Nat}{D:Nat→Bool}{fuel:Nat}{listed:Array Bool}
theorem JG.fd{O o U off:Nat}{W:Array Field}{Z:Nat}(i:Nat)(aa:Du ops m=true)(ht:P.underlying t=some (.struct W))(ab:Bj P ft=some (U+1))(ae:s.q=false)(ag:Gz n L ops i=some ⟨d,.fieldAddr t x Z,ty,p,af,g⟩)(ah:ev L x=some (.pointer (some ⟨O,o,none⟩)))(K:I4 W Z=some (off,ft))
  (ai:Au J Q b n ds ops k cs m D fuel (AX listed i) (AE L d (.pointer (some ⟨O,o+off,none⟩))) s) (aj:EK ops listed m i=true:=by decide+kernel):Au J Q b n ds ops k cs m D (fuel+1) listed L s:=by
 unfold I4 at K;split at K
 ·rename_i f ak;cases K;refine JG.V i aa ae ag (fun ρ h _ _=>Yl.Ow (a:=⟨O,o,none⟩) U f.offset ht ab ak rfl rfl (h _ _ ah)) ?_ aj;rw [Bd rfl];exact ai
 ·cases K
theorem JG.ld{K o:Nat}{ws:List Value}(i:Nat)(O:Du ops m=true)(j:Nat)(U:At (Bg D s).E K o ws)(ht:CM P t=some false)(W:s.q=false)(Z:Gz n L ops i=some ⟨d,.load t x,ty,p,af,g⟩)(aa:ev L x=some (.pointer (some ⟨K,o+j,none⟩)))(ab:ws[j]? =some v)
  (ae:Au J Q b n ds ops k cs m D fuel (AX listed i) (AE L d v) s) (ag:EK ops listed m i=true:=by decide+kernel):Au J Q b n ds ops k cs m D (fuel+1) listed L s:=
 JG.V i O W Z (fun _ h _ hs=>Yl.load ht (h _ _ aa) (At.CU U hs ab)) ae ag
theorem JG.Bx{K o:Nat}{ws:List Value}(i:Nat)(O:Du ops m=true)(U:At (Bg D s).E K o ws)(ht:CM P t=some true)(W:Bj P t=some ws.length)(Z:s.q=false)(aa:Gz n L ops i=some ⟨d,.load t x,ty,p,af,g⟩)(ab:ev L x=some (.pointer (some ⟨K,o,none⟩)))
  (ae:Au J Q b n ds ops k cs m D fuel (AX listed i) (AE L d (.agg ws.toArray)) s) (ag:EK ops listed m i=true:=by decide+kernel):Au J Q b n ds ops k cs m D (fuel+1) listed L s:=
 JG.V i O Z aa (fun _ h _ hs=>Yl.Bp ht W (h _ _ ab) (At.Kn U hs)) ae ag
end
end Pal
namespace Pal
open Go Go.Conc
abbrev BD:=List (List Int)×List (List Int)
abbrev Br:=List (List Int)×List (List Int)×List Nat
abbrev Bz:=Int×List Int×Nat
abbrev AZ:=Int×Int×List Bz
abbrev AT:=List (Int×Int)
abbrev BK:=List Int×Int×Nat
abbrev Ar:=Option Addr
abbrev Cj:Rp Bz:=rP rI (rP (rL rI) (rN .u16))
abbrev BL:Rp AZ:=rP rI (rP rI (rL Cj))
abbrev Bl:Rp (Int×Int):=rP rI rI
theorem ip{α:Type}{p:Prop} [Decidable p] {A B:Option α}{r:α}(h:(if p then A else B)=some r)(c:p):A=some r:=by rwa [if_pos c] at h
theorem im{α:Type}{p:Prop} [Decidable p] {A B:Option α}{r:α}(h:(if p then A else B)=some r)(c:¬p):B=some r:=by rwa [if_neg c] at h
theorem ib{α:Type}{c:Bool}{A B:Option α}{r:α}(h:(if c=true then A else B)=some r)(K:c=false):B=some r:=by subst K;simpa using h
def KZ(n:Nat)(ops:Array Oper):List Nat→Nat→Env→Option (Nat×Env)
 | [],f,L=>some (f,L)
 | i::l,f+1,L=>match Jy n L ops i with
  | some L'=>KZ n ops l f L'
  | none=>none
 | _::_,0,_=>none
def KT(ops:Array Oper)(m:Nat):Array Bool→List Nat→Bool
 | _,[]=>true
 | listed,i::l=>EK ops listed m i&&KT ops m (AX listed i) l
def Od:Array Bool→List Nat→Array Bool
 | listed,[]=>listed
 | listed,i::l=>Od (AX listed i) l
theorem JG.ms{P:Program}{J:Judge P}{Q:Goroutine→St→Prop}{b:Frame}{n:Nat}{ds:List Deferred}{k:List Item}{cs:List Frame}{s:St}{ops:Array Oper}{m:Nat}{D:Nat→Bool}{L':Env}{U:Nat}(W:Du ops m=true)(Z:s.q=false):
  ∀(l:List Nat) {fuel:Nat} {listed:Array Bool} {L:Env},KZ n ops l fuel L=some (U,L')→Au J Q b n ds ops k cs m D U (Od listed l) L' s→(K:KT ops m listed l=true:=by decide+kernel)→Au J Q b n ds ops k cs m D fuel listed L s
 | [],fuel,listed,L,h,O,_=>by cases h;exact O
 | i::l,fuel,listed,L,h,O,K=>by
  cases fuel with
  | zero=>cases h
  | succ fuel=>
   unfold KT at K;rw [Bool.and_eq_true] at K;unfold KZ at h;split at h
   ·rename_i aa e;exact JG.mv i W Z e (JG.ms W Z l h O K.2) K.1
   ·cases h
theorem zg{P:Program}{J:Judge P}{Q:Goroutine→St→Prop}{b:Frame}{n:Nat}{L L':Env}{ds:List Deferred}{k k':List Item}{cs:List Frame}{s:St}(m:Nat)(h:IW b n m k L=some (k',L'))(K:JL J Q b n L' ds k' cs s):JL J Q b n L ds k cs s:=JL.go m h K
end Pal
namespace Pal
open Go Go.Conc Go.Proofs
end Pal
namespace Pal
open Go Go.Conc Go.Proofs
end Pal
namespace Pal
open Go Go.Conc Go.Proofs
open Go.Proofs.Tryz
variable {J:Judge Tryz.prog}{E:LH}
theorem mixed:Tryz.prog.follows .mixedOrders=true:=rfl
def f101(fuel:Nat)(p0:Int)(p1:Int)(p2:Int):Option (Bool):=
 Option.bind (
  if p0<p1 then(
   some true
  ) else(
   some (decide (p2<p0))
  )
 ) fun K=>
 some K
theorem Gn{p0:Int}{p1:Int}{p2:Int}{fuel:Nat}{r:Bool}(O:f101 fuel p0 p1 p2=some r):As J 101 [iV p0,iV p1,iV p2] E [] (fun w E' B'=>w= .bool r∧B'= []):=by
 refine As.en func101 rfl rfl fun Q al cs H U ab=>?_;unfold f101 at O;obtain⟨ae,W,ag⟩:=bs O;refine zg 10 rfl ?_;refine JL.BM [8] (fun L s=>∃(Z:LH),Jm E H Z [] [(14,.bool ae)] L s) ?_ ?_
 ·rintro _ _ ⟨Z,rfl,rfl,ah,ai⟩;refine zg 2 rfl ?_;obtain rfl:=oi ag;refine JL.rt func101 rfl rfl ?_;exact ab _ _ _ _ ah rfl ⟨rfl,rfl⟩ ai
 ·intro aa;refine JL.Cm (q:=p0<p1) (i:=10) rfl (fun K=>?_) (fun K=>?_)
  ·have aj:=ip W K;refine zg 4 rfl ?_;obtain rfl:=oi aj;exact JL.kw (aa _ _ ⟨E,rfl,rfl,(Le.refl _),U⟩) rfl
  ·have ak:=im W K;refine zg 4 rfl ?_;obtain rfl:=oi ak;exact JL.kw (aa _ _ ⟨E,rfl,rfl,(Le.refl _),U⟩) rfl
def NL(fuel:Nat)(p0:List Int)(p1:List Int)(K:Int):Option (A8 (Int) ((Bool)⊕(Unit))):=
 Option.bind (
  if K<((p0).length:Int) then(
   some (decide (K<((p1).length:Int)))
  ) else(
   some false
  )
 ) fun O=>
 if O=true then(
  (ix p0 (K)).bind fun U=>
  (ix p1 (K)).bind fun W=>
  if U≠W then(
   some (.done (Sum.inl false))
  ) else(
   (Ay (K+1)).bind fun Z=>
   some (.more Z)
  )
 ) else(
  some (.done (Sum.inr ()))
 )
def f32(fuel:Nat)(p0:List Int)(p1:List Int):Option (Bool):=
 Option.bind (iter (NL fuel p0 p1) fuel 0) fun K=>
 Sum.elim (fun r=>some r) (fun O=>
 some (decide (((p0).length:Int)=((p1).length:Int)))
 ) K
theorem KB{K:Ar}{c2:Nat}{O:Ar}{U:Nat}{p0:List Int}{p1:List Int}(aC:Ao rI E K c2 (p0))(aD:Ao rI E O U (p1)){fuel:Nat}{r:Bool}(al:f32 fuel p0 p1=some r):As J 32 [.slice K (p0).length c2,.slice O (p1).length U] E [] (fun w E' B'=>w= .bool r∧B'= []):=by
 refine As.en func32 rfl rfl fun Q a3 cs H aE am=>?_;unfold f32 at al;obtain⟨an,aF,ao⟩:=bs al;refine zg 9 rfl ?_;refine JL.join (fun L s=>∃(ap:Unit) (aq:LH),an=Sum.inr ap∧Jm E H aq [] [(0,.slice K (p0).length c2),(1,.slice O (p1).length U)] L s) ?_ ?_
 ·rintro _ _ ⟨ap,aq,rfl,rfl,rfl,aG,aH⟩;have aI:=elim_inr ao;refine zg 3 rfl ?_;refine JL.Y rfl (fun ρ h=>Yl.len rfl underlying28 (h _ _ rfl)) ?_;refine zg 1 rfl ?_;refine JL.Y rfl (fun ρ h=>Yl.len rfl underlying28 (h _ _ rfl)) ?_;refine zg 3 rfl ?_;obtain rfl:=oi aI;refine JL.rt func32 rfl rfl ?_;exact am _ _ _ _ aG rfl ⟨rfl,rfl⟩ aH
 ·intro aJ;refine JL.block ?_;refine JL.wk [(0,.slice K (p0).length c2),(1,.slice O (p1).length U),(5,iV 0)] rfl ?_;refine JL.Bq aF (fun L s ab=>∃(W:LH),Jm E H W [] [(0,.slice K (p0).length c2),(1,.slice O (p1).length U),(5,iV ab)] L s) ⟨E,rfl,rfl,(Le.refl _),aE⟩ ?_;rintro _ _ ab ⟨W,rfl,rfl,Z,ar⟩ au ⟨a4,ae⟩ aK;have av:=ae;unfold NL at av;refine zg 5 rfl ?_;refine JL.Y rfl (fun ρ h=>Yl.len rfl underlying28 (h _ _ rfl)) ?_;obtain⟨aw,ay,az⟩:=bs av;refine zg 2 rfl ?_;refine JL.BM [] (fun L s=>∃(ag:LH),Jm W H ag [] [(0,.slice K (p0).length c2),(1,.slice O (p1).length U),(5,iV ab),(15,.bool aw)] L s) ?_ ?_
  ·rintro _ _ ⟨ag,rfl,rfl,aa,ah⟩;refine JL.done ?_;refine JL.split (t:=aw) rfl (fun ai=>?_) (fun ai=>?_)
   ·have aL:=ip az ai;refine zg 4 rfl ?_;refine JG.Dm 8 mixed rfl (by decide+kernel) fun ht=>?_;refine JG.ms ht rfl [0,1] rfl ?_;obtain⟨aM,aN,aO⟩:=bs aL;refine JG.idx 2 (aC.mono (Z.trans aa)) aN rfl ht (by decide+kernel) rfl rfl rfl rfl rfl underlying28 (Ag type3) ?_;rintro a5 a6 _ rfl aP;refine JG.ld 3 ht 0 aP (An underlying3) rfl rfl rfl rfl ?_;refine JG.ms ht rfl [4,5] rfl ?_;obtain⟨aQ,aR,aA⟩:=bs aO;refine JG.idx 6 (aD.mono (Z.trans aa)) aR rfl ht (by decide+kernel) rfl rfl rfl rfl rfl underlying28 (Ag type3) ?_;rintro a7 a8 _ rfl aS;refine JG.ld 7 ht 0 aS (An underlying3) rfl rfl rfl rfl ?_;refine Au.leaf (tail:= [8]) (by decide+kernel) (fun t=>A7 (by decide+kernel) BU t) ?_;refine zg 2 rfl ?_;refine JL.ifs (p:=aM≠aQ) rfl (fun aj=>?_) (fun aj=>?_)
    ·have aT:=ip aA aj;refine zg 4 rfl ?_;obtain rfl:=oi aT;obtain rfl:=au _ ae;have aU:=elim_inl ao;obtain rfl:=oi aU;refine JL.rt func32 rfl rfl ?_;exact am _ _ _ _ (Z.trans aa) rfl ⟨rfl,rfl⟩ ah
    ·have aV:=im aA aj;obtain⟨aW,aX,aY⟩:=bs aV;refine zg 4 rfl ?_;refine JL.Y rfl (fun ρ h=>Yl.A6 (h _ _ rfl) (h _ _ rfl) aX) ?_;refine zg 2 rfl ?_;obtain rfl:=oi aY;exact JL.kw (aK _ _ aW ⟨ag,rfl,rfl,(Z.trans aa),ah⟩ ae) rfl
   ·have aZ:=ib az ai;refine JL.exit rfl ?_;obtain rfl:=oi aZ;have a0:an=(Sum.inr ()):=(au _ ae).symm;exact JL.kw (aJ _ _ ⟨(),ag,a0,rfl,rfl,(Z.trans aa),ah⟩) rfl
  ·intro aB;refine JL.Cm (q:=ab<((p0).length:Int)) (i:=10) rfl (fun ak=>?_) (fun ak=>?_)
   ·have a1:=ip ay ak;refine zg 2 rfl ?_;refine JL.Y rfl (fun ρ h=>Yl.len rfl underlying28 (h _ _ rfl)) ?_;refine zg 2 rfl ?_;obtain rfl:=oi a1;exact JL.kw (aB _ _ ⟨W,rfl,rfl,(Le.refl _),ar⟩) rfl
   ·have a2:=im ay ak;refine zg 5 rfl ?_;obtain rfl:=oi a2;exact JL.kw (aB _ _ ⟨W,rfl,rfl,(Le.refl _),ar⟩) rfl
def f23(fuel:Nat)(p0:List Int):Option ((BK)):=
 some (p0,0,2685821657736338717)
theorem S4{K:Ar}{c2:Nat}{p0:List Int}(aa:Ao rI E K c2 (p0)){fuel:Nat}{r:(BK)}(O:f23 fuel p0=some r):As J 23 [.slice K (p0).length c2] E [] (fun w E' B'=>∃(U:Nat) (W:Ar) (Z:Nat),w= .pointer (some ⟨U,0,none⟩)∧B'= [(U,.cells #[.slice W (r.1).length Z,iV r.2.1,.int .u64 ((r.2.2:Nat):Int)] 92 (0,0))]∧Ao rI E' W Z (r.1)):=by
 refine As.en func23 rfl rfl fun Q ai cs H ab ae=>?_;unfold f23 at O;refine zg 7 rfl ?_;refine JL.Y (v:= .agg #[.slice K (p0).length c2,iV 0,.int .u64 ((2685821657736338717:Nat):Int)]) rfl (fun ρ h=>Yl.Ci [(0,1),(1,1),(2,1)] h (AN type92) underlying92 ⟨rfl,Ag type28,rfl,Ag type3,rfl,Ag type90,trivial⟩ rfl rfl) ?_;refine JS.box (v:= .agg #[.slice K (p0).length c2,iV 0,.int .u64 ((2685821657736338717:Nat):Int)]) rfl rfl rfl ab rfl fun ag ah=>?_;refine zg 2 rfl ?_;obtain rfl:=oi O;refine JL.rt func23 rfl rfl ?_;exact ae _ _ _ _ (Le.refl _) rfl ⟨ag,K,c2,rfl,(by first | rfl | simp | (simp [Value.cells])),aa⟩ ah
def f100(fuel:Nat)(p0:BK):Option (Nat×(BK)):=
 (Ay (p0.2.1+1)).bind fun O=>
 Option.bind (
  if O≤((p0.1).length:Int) then(
   (Ay (O - 1)).bind fun U=>
   (ix p0.1 (U)).bind fun W=>
   some (((((Ca O)*11400714819323198485) % 2 ^ 64) ^^^ (((Ca W)*14029467366897019727) % 2 ^ 64)) % 2 ^ 64)
  ) else(
   some (((Ca O)*11400714819323198485) % 2 ^ 64)
  )
 ) fun K=>
 some (((((((((((p0.2.2 ^^^ K) % 2 ^ 64)*18397679294719823053) % 2 ^ 64) ^^^ (((((p0.2.2 ^^^ K) % 2 ^ 64)*18397679294719823053) % 2 ^ 64)>>>33)) % 2 ^ 64)*14181476777654086739) % 2 ^ 64) ^^^ (((((((((p0.2.2 ^^^ K) % 2 ^ 64)*18397679294719823053) % 2 ^ 64) ^^^ (((((p0.2.2 ^^^ K) % 2 ^ 64)*18397679294719823053) % 2 ^ 64)>>>33)) % 2 ^ 64)*14181476777654086739) % 2 ^ 64)>>>29)) % 2 ^ 64)>>>11,(p0.1,O,(((((p0.2.2 ^^^ K) % 2 ^ 64)*18397679294719823053) % 2 ^ 64) ^^^ (((((p0.2.2 ^^^ K) % 2 ^ 64)*18397679294719823053) % 2 ^ 64)>>>33)) % 2 ^ 64))
theorem RD{W:Nat}{Z:Ar}{c2:Nat}{p0:BK}(ag:Ao rI E Z c2 (p0.1)){fuel:Nat}{r:Nat×(BK)}(ah:f100 fuel p0=some r):As J 100 [.pointer (some ⟨W,0,none⟩)] E [(W,.cells #[.slice Z (p0.1).length c2,iV p0.2.1,.int .u64 ((p0.2.2:Nat):Int)] 92 (0,0))] (fun w E' B'=>∃(ai:Ar) (aj:Nat),w= .int .u64 ((r.1:Nat):Int)∧B'= [(W,.cells #[.slice ai (r.2.1).length aj,iV r.2.2.1,.int .u64 ((r.2.2.2:Nat):Int)] 92 (0,0))]∧Ao rI E' ai aj (r.2.1)):=by
 refine As.en func100 rfl rfl fun Q aF cs H ak ar=>?_;unfold f100 at ah;refine zg 8 rfl ?_;refine JL.fd underlying92 (Ag type3) rfl rfl rfl ?_;refine JL.Y (v:=iV p0.2.1) rfl (fun ρ h=>Yl.load (An underlying3) (h _ _ rfl) (CH (j:=0) (off:=1) ak rfl rfl)) ?_;obtain⟨U,au,av⟩:=bs ah;refine JL.Y rfl (fun ρ h=>Yl.A6 (h _ _ rfl) (h _ _ rfl) au) ?_;refine zg 1 rfl ?_;refine JL.fd underlying92 (Ag type3) rfl rfl rfl ?_;refine JS.st (v:=iV U) (off:=1) 0 ak (Ag type3) rfl rfl rfl rfl fun O=>?_;refine zg 5 rfl ?_;refine JL.fd underlying92 (Ag type3) rfl rfl rfl ?_;refine JL.Y (v:=iV U) rfl (fun ρ h=>Yl.load (An underlying3) (h _ _ rfl) (CH (j:=0) (off:=1) O rfl rfl)) ?_;refine JL.Y (v:= .int .u64 ((Ca U:Nat):Int)) rfl (fun ρ h=>Yl.Ca underlying3 underlying90 (h _ _ rfl)) ?_;refine JL.Y (v:= .int .u64 ((((Ca U)*11400714819323198485) % 2 ^ 64:Nat):Int)) rfl (fun ρ h=>Yl.Jv (h _ _ rfl) (h _ _ rfl)) ?_;refine zg 4 rfl ?_;refine JG.Cn 9 [W] ⟨⟨0,_,rfl⟩,trivial⟩ O mixed rfl (by decide+kernel) fun ht=>?_;refine JG.ms ht rfl [0,1] rfl ?_;refine JG.fd 2 ht underlying92 (Ag type3) rfl rfl rfl rfl ?_;refine JG.V (v:=iV U) 3 ht rfl rfl (fun ρ h s' hs=>Yl.load (An underlying3) (h _ _ rfl) (Bh (o:=1) 0 O rfl (by simp [AA]) hs rfl)) ?_;refine JG.ms ht rfl [4,5] rfl ?_;refine JG.fd 6 ht underlying92 (Ag type28) rfl rfl rfl rfl ?_;refine JG.V (v:= .slice Z (p0.1).length c2) 7 ht rfl rfl (fun ρ h s' hs=>Yl.load (An underlying28) (h _ _ rfl) (Bh (o:=0) 0 O rfl (by simp [AA]) hs rfl)) ?_;refine JG.V 8 ht rfl rfl (fun ρ h s' hs=>Yl.len rfl underlying28 (h _ _ rfl)) ?_;refine Au.leaf (tail:= [9]) (by decide+kernel) (fun t=>A7 (by decide+kernel) BU t) ?_;obtain⟨K,al,aw⟩:=bs av;refine zg 2 rfl ?_;refine JL.join (fun L s=>∃(am:LH),Jm E H am [[(W,.cells #[.slice Z (p0.1).length c2,iV U,.int .u64 ((p0.2.2:Nat):Int)] 92 (0,0))]] [(0,.pointer (some ⟨W,0,none⟩)),(3,.int .u64 ((K:Nat):Int))] L s) ?_ ?_
 ·rintro _ _ ⟨am,rfl,rfl,an,ao⟩;refine zg 5 rfl ?_;refine JL.fd underlying92 (Ag type90) rfl rfl rfl ?_;refine JL.Y (v:= .int .u64 ((p0.2.2:Nat):Int)) rfl (fun ρ h=>Yl.load (An underlying90) (h _ _ rfl) (CH (j:=0) (off:=2) ao rfl rfl)) ?_;refine zg 1 rfl ?_;refine JL.Y (v:= .int .u64 (((p0.2.2 ^^^ K) % 2 ^ 64:Nat):Int)) rfl (fun ρ h=>Yl.Jw (h _ _ rfl) (h _ _ rfl)) ?_;refine JL.Y (v:= .int .u64 (((((p0.2.2 ^^^ K) % 2 ^ 64)*18397679294719823053) % 2 ^ 64:Nat):Int)) rfl (fun ρ h=>Yl.Jv (h _ _ rfl) (h _ _ rfl)) ?_;refine zg 1 rfl ?_;refine JL.fd underlying92 (Ag type90) rfl rfl rfl ?_;refine JS.st (v:= .int .u64 (((((p0.2.2 ^^^ K) % 2 ^ 64)*18397679294719823053) % 2 ^ 64:Nat):Int)) (off:=2) 0 ao (Ag type90) rfl rfl rfl rfl fun aa=>?_;refine zg 2 rfl ?_;refine JG.Cn 11 [W] ⟨⟨0,_,rfl⟩,trivial⟩ aa mixed rfl (by decide+kernel) fun ht=>?_;refine JG.ms ht rfl [0,1,2] rfl ?_;refine JG.fd 3 ht underlying92 (Ag type90) rfl rfl rfl rfl ?_;refine JG.V (v:= .int .u64 (((((p0.2.2 ^^^ K) % 2 ^ 64)*18397679294719823053) % 2 ^ 64:Nat):Int)) 4 ht rfl rfl (fun ρ h s' hs=>Yl.load (An underlying90) (h _ _ rfl) (Bh (o:=2) 0 aa rfl (by simp [AA]) hs rfl)) ?_;refine JG.ms ht rfl [5,6] rfl ?_;refine JG.fd 7 ht underlying92 (Ag type90) rfl rfl rfl rfl ?_;refine JG.V (v:= .int .u64 (((((p0.2.2 ^^^ K) % 2 ^ 64)*18397679294719823053) % 2 ^ 64:Nat):Int)) 8 ht rfl rfl (fun ρ h s' hs=>Yl.load (An underlying90) (h _ _ rfl) (Bh (o:=2) 0 aa rfl (by simp [AA]) hs rfl)) ?_;refine JG.V (v:= .int .u64 ((((((p0.2.2 ^^^ K) % 2 ^ 64)*18397679294719823053) % 2 ^ 64)>>>33:Nat):Int)) 9 ht rfl rfl (fun ρ h s' hs=>Yl.Hf 33 (h _ _ rfl) (h _ _ rfl) (by decide)) ?_;refine JG.V (v:= .int .u64 (((((((p0.2.2 ^^^ K) % 2 ^ 64)*18397679294719823053) % 2 ^ 64) ^^^ (((((p0.2.2 ^^^ K) % 2 ^ 64)*18397679294719823053) % 2 ^ 64)>>>33)) % 2 ^ 64:Nat):Int)) 10 ht rfl rfl (fun ρ h s' hs=>Yl.Jw (h _ _ rfl) (h _ _ rfl)) ?_;refine Au.leaf (tail:= [11,12,13]) (by decide+kernel) (fun t=>A7 (by decide+kernel) (A7 (by decide+kernel) (A7 (by decide+kernel) BU)) t) ?_;refine zg 1 rfl ?_;refine JL.fd underlying92 (Ag type90) rfl rfl rfl ?_;refine JS.st (v:= .int .u64 (((((((p0.2.2 ^^^ K) % 2 ^ 64)*18397679294719823053) % 2 ^ 64) ^^^ (((((p0.2.2 ^^^ K) % 2 ^ 64)*18397679294719823053) % 2 ^ 64)>>>33)) % 2 ^ 64:Nat):Int)) (off:=2) 0 aa (Ag type90) rfl rfl rfl rfl fun ap=>?_;refine zg 5 rfl ?_;refine JL.fd underlying92 (Ag type90) rfl rfl rfl ?_;refine JL.Y (v:= .int .u64 (((((((p0.2.2 ^^^ K) % 2 ^ 64)*18397679294719823053) % 2 ^ 64) ^^^ (((((p0.2.2 ^^^ K) % 2 ^ 64)*18397679294719823053) % 2 ^ 64)>>>33)) % 2 ^ 64:Nat):Int)) rfl (fun ρ h=>Yl.load (An underlying90) (h _ _ rfl) (CH (j:=0) (off:=2) ap rfl rfl)) ?_;refine JL.Y (v:= .int .u64 (((((((((p0.2.2 ^^^ K) % 2 ^ 64)*18397679294719823053) % 2 ^ 64) ^^^ (((((p0.2.2 ^^^ K) % 2 ^ 64)*18397679294719823053) % 2 ^ 64)>>>33)) % 2 ^ 64)*14181476777654086739) % 2 ^ 64:Nat):Int)) rfl (fun ρ h=>Yl.Jv (h _ _ rfl) (h _ _ rfl)) ?_;refine zg 6 rfl ?_;refine JL.Y (v:= .int .u64 ((((((((((p0.2.2 ^^^ K) % 2 ^ 64)*18397679294719823053) % 2 ^ 64) ^^^ (((((p0.2.2 ^^^ K) % 2 ^ 64)*18397679294719823053) % 2 ^ 64)>>>33)) % 2 ^ 64)*14181476777654086739) % 2 ^ 64)>>>29:Nat):Int)) rfl (fun ρ h=>Yl.Hf 29 (h _ _ rfl) (h _ _ rfl) (by decide)) ?_;refine JL.Y (v:= .int .u64 (((((((((((p0.2.2 ^^^ K) % 2 ^ 64)*18397679294719823053) % 2 ^ 64) ^^^ (((((p0.2.2 ^^^ K) % 2 ^ 64)*18397679294719823053) % 2 ^ 64)>>>33)) % 2 ^ 64)*14181476777654086739) % 2 ^ 64) ^^^ (((((((((p0.2.2 ^^^ K) % 2 ^ 64)*18397679294719823053) % 2 ^ 64) ^^^ (((((p0.2.2 ^^^ K) % 2 ^ 64)*18397679294719823053) % 2 ^ 64)>>>33)) % 2 ^ 64)*14181476777654086739) % 2 ^ 64)>>>29)) % 2 ^ 64:Nat):Int)) rfl (fun ρ h=>Yl.Jw (h _ _ rfl) (h _ _ rfl)) ?_;refine JL.Y (v:= .int .u64 ((((((((((((p0.2.2 ^^^ K) % 2 ^ 64)*18397679294719823053) % 2 ^ 64) ^^^ (((((p0.2.2 ^^^ K) % 2 ^ 64)*18397679294719823053) % 2 ^ 64)>>>33)) % 2 ^ 64)*14181476777654086739) % 2 ^ 64) ^^^ (((((((((p0.2.2 ^^^ K) % 2 ^ 64)*18397679294719823053) % 2 ^ 64) ^^^ (((((p0.2.2 ^^^ K) % 2 ^ 64)*18397679294719823053) % 2 ^ 64)>>>33)) % 2 ^ 64)*14181476777654086739) % 2 ^ 64)>>>29)) % 2 ^ 64)>>>11:Nat):Int)) rfl (fun ρ h=>Yl.Hf 11 (h _ _ rfl) (h _ _ rfl) (by decide)) ?_;refine zg 2 rfl ?_;obtain rfl:=oi aw;refine JL.rt func100 rfl rfl ?_;exact ar _ _ _ _ an rfl ⟨Z,c2,rfl,rfl,(ag.mono an)⟩ ap
 ·intro aq;refine JL.ifs (p:=U≤((p0.1).length:Int)) rfl (fun ae=>?_) (fun ae=>?_)
  ·have ay:=ip al ae;refine JG.Cn 14 [W] ⟨⟨0,_,rfl⟩,trivial⟩ O mixed rfl (by decide+kernel) fun ht=>?_;refine JG.ms ht rfl [0,1,2] rfl ?_;refine JG.fd 3 ht underlying92 (Ag type28) rfl rfl rfl rfl ?_;refine JG.V (v:= .slice Z (p0.1).length c2) 4 ht rfl rfl (fun ρ h s' hs=>Yl.load (An underlying28) (h _ _ rfl) (Bh (o:=0) 0 O rfl (by simp [AA]) hs rfl)) ?_;refine JG.ms ht rfl [5,6] rfl ?_;refine JG.fd 7 ht underlying92 (Ag type3) rfl rfl rfl rfl ?_;refine JG.V (v:=iV U) 8 ht rfl rfl (fun ρ h s' hs=>Yl.load (An underlying3) (h _ _ rfl) (Bh (o:=1) 0 O rfl (by simp [AA]) hs rfl)) ?_;obtain⟨aG,az,aA⟩:=bs ay;refine JG.V 9 ht rfl rfl (fun ρ h s' hs=>Yl.Ba (h _ _ rfl) (h _ _ rfl) az) ?_;obtain⟨ab,aB,aC⟩:=bs aA;refine JG.idx 10 ag aB rfl ht (by decide+kernel) rfl rfl rfl rfl rfl underlying28 (Ag type3) ?_;rintro aH aI _ rfl aD;refine JG.V (v:=iV ab) 11 ht rfl rfl (fun ρ h s' hs=>Yl.load (An underlying3) (h _ _ rfl) (At.CU (j:=0) aD (CS O hs ⟨⟨0,_,rfl⟩,trivial⟩) rfl)) ?_;refine JG.V (v:= .int .u64 ((Ca ab:Nat):Int)) 12 ht rfl rfl (fun ρ h s' hs=>Yl.Ca underlying3 underlying90 (h _ _ rfl)) ?_;refine JG.V (v:= .int .u64 ((((Ca ab)*14029467366897019727) % 2 ^ 64:Nat):Int)) 13 ht rfl rfl (fun ρ h s' hs=>Yl.Jv (h _ _ rfl) (h _ _ rfl)) ?_;refine Au.leaf (tail:= [14,15]) (by decide+kernel) (fun t=>A7 (by decide+kernel) (A7 (by decide+kernel) BU) t) ?_;refine JL.Y (v:= .int .u64 ((((((Ca U)*11400714819323198485) % 2 ^ 64) ^^^ (((Ca ab)*14029467366897019727) % 2 ^ 64)) % 2 ^ 64:Nat):Int)) rfl (fun ρ h=>Yl.Jw (h _ _ rfl) (h _ _ rfl)) ?_;refine zg 2 rfl ?_;obtain rfl:=oi aC;exact JL.kw (aq _ _ ⟨E,rfl,rfl,(Le.refl _),O⟩) rfl
  ·have aE:=im al ae;refine JL.skip ?_;obtain rfl:=oi aE;exact JL.kw (aq _ _ ⟨E,rfl,rfl,(Le.refl _),O⟩) rfl
def f41(fuel:Nat)(p0:BK)(p1:Int):Option (Int×(BK)):=
 (f100 fuel p0).bind fun K=>
 if p1<1 then(
  some (0,K.2)
 ) else(
  (Je (K.1) ((Ca p1+1) % 2 ^ 64)).bind fun O=>
  some (GB O,K.2)
 )
theorem FG{K:Nat}{U:Ar}{c2:Nat}{p0:BK}{p1:Int}(am:Ao rI E U c2 (p0.1)){fuel:Nat}{r:Int×(BK)}(W:f41 fuel p0 p1=some r):As J 41 [.pointer (some ⟨K,0,none⟩),iV p1] E [(K,.cells #[.slice U (p0.1).length c2,iV p0.2.1,.int .u64 ((p0.2.2:Nat):Int)] 92 (0,0))] (fun w E' B'=>∃(Z:Ar) (aa:Nat),w=iV r.1∧B'= [(K,.cells #[.slice Z (r.2.1).length aa,iV r.2.2.1,.int .u64 ((r.2.2.2:Nat):Int)] 92 (0,0))]∧Ao rI E' Z aa (r.2.1)):=by
 refine As.en func41 rfl rfl fun Q av cs H an ab=>?_;unfold f41 at W;obtain⟨aw,ao,ae⟩:=bs W;refine zg 7 rfl ?_;refine JS.Bu 0 (RD am ao) rfl rfl (Aw func100 rfl) an rfl ?_;rintro _ ay _ ag ⟨ah,ai,rfl,rfl,aj⟩ ak;refine zg 8 rfl ?_;refine JL.ifs (p:=p1<1) rfl (fun O=>?_) (fun O=>?_)
 ·have ap:=ip ae O;refine zg 4 rfl ?_;obtain rfl:=oi ap;refine JL.rt func41 rfl rfl ?_;exact ab _ _ _ _ ag rfl ⟨ah,ai,rfl,rfl,aj⟩ ak
 ·have aq:=im ae O;refine zg 5 rfl ?_;refine JL.Y (v:= .int .u64 ((Ca p1:Nat):Int)) rfl (fun ρ h=>Yl.Ca underlying3 underlying90 (h _ _ rfl)) ?_;refine JL.Y (v:= .int .u64 (((Ca p1+1) % 2 ^ 64:Nat):Int)) rfl (fun ρ h=>Yl.Tj (h _ _ rfl) (h _ _ rfl)) ?_;obtain⟨al,ar,au⟩:=bs aq;refine JL.Y (v:= .int .u64 ((al:Nat):Int)) rfl (fun ρ h=>Yl.SP (h _ _ rfl) (h _ _ rfl) ar) ?_;refine JL.Y (v:=iV (GB al)) rfl (fun ρ h=>Yl.GB underlying90 underlying3 (h _ _ rfl)) ?_;refine zg 2 rfl ?_;obtain rfl:=oi au;refine JL.rt func41 rfl rfl ?_;exact ab _ _ _ _ ag rfl ⟨ah,ai,rfl,rfl,aj⟩ ak
def f96(fuel:Nat)(p0:BK)(p1:Int)(p2:Int):Option (Int×(BK)):=
 (Ay (p2 - p1)).bind fun O=>
 (f41 fuel p0 O).bind fun K=>
 (Ay (p1+K.1)).bind fun U=>
 some (U,K.2)
theorem KD{K:Nat}{O:Ar}{c2:Nat}{p0:BK}{p1:Int}{p2:Int}(aa:Ao rI E O c2 (p0.1)){fuel:Nat}{r:Int×(BK)}(U:f96 fuel p0 p1 p2=some r):As J 96 [.pointer (some ⟨K,0,none⟩),iV p1,iV p2] E [(K,.cells #[.slice O (p0.1).length c2,iV p0.2.1,.int .u64 ((p0.2.2:Nat):Int)] 92 (0,0))] (fun w E' B'=>∃(W:Ar) (Z:Nat),w=iV r.1∧B'= [(K,.cells #[.slice W (r.2.1).length Z,iV r.2.2.1,.int .u64 ((r.2.2.2:Nat):Int)] 92 (0,0))]∧Ao rI E' W Z (r.2.1)):=by
 refine As.en func96 rfl rfl fun Q ar cs H ab ae=>?_;unfold f96 at U;obtain⟨au,ag,ah⟩:=bs U;refine zg 10 rfl ?_;refine JL.Y rfl (fun ρ h=>Yl.Ba (h _ _ rfl) (h _ _ rfl) ag) ?_;obtain⟨av,ai,aj⟩:=bs ah;refine JS.Bu 0 (FG aa ai) rfl rfl (Aw func41 rfl) ab rfl ?_;rintro _ aw _ ak ⟨al,am,rfl,rfl,an⟩ ao;obtain⟨ay,ap,aq⟩:=bs aj;refine JL.Y rfl (fun ρ h=>Yl.A6 (h _ _ rfl) (h _ _ rfl) ap) ?_;refine zg 2 rfl ?_;obtain rfl:=oi aq;refine JL.rt func96 rfl rfl ?_;exact ae _ _ _ _ ak rfl ⟨al,am,rfl,rfl,an⟩ ao
def f97(fuel:Nat)(p0:BK)(p1:Int):Option (Bool×(BK)):=
 (Ay (p1 - 1)).bind fun O=>
 (f41 fuel p0 O).bind fun K=>
 some (decide (K.1=0),K.2)
theorem HJ{K:Nat}{O:Ar}{c2:Nat}{p0:BK}{p1:Int}(aa:Ao rI E O c2 (p0.1)){fuel:Nat}{r:Bool×(BK)}(U:f97 fuel p0 p1=some r):As J 97 [.pointer (some ⟨K,0,none⟩),iV p1] E [(K,.cells #[.slice O (p0.1).length c2,iV p0.2.1,.int .u64 ((p0.2.2:Nat):Int)] 92 (0,0))] (fun w E' B'=>∃(W:Ar) (Z:Nat),w= .bool r.1∧B'= [(K,.cells #[.slice W (r.2.1).length Z,iV r.2.2.1,.int .u64 ((r.2.2.2:Nat):Int)] 92 (0,0))]∧Ao rI E' W Z (r.2.1)):=by
 refine As.en func97 rfl rfl fun Q ap cs H ab ae=>?_;unfold f97 at U;obtain⟨aq,ag,ah⟩:=bs U;refine zg 8 rfl ?_;refine JL.Y rfl (fun ρ h=>Yl.Ba (h _ _ rfl) (h _ _ rfl) ag) ?_;obtain⟨ar,ai,aj⟩:=bs ah;refine JS.Bu 0 (FG aa ai) rfl rfl (Aw func41 rfl) ab rfl ?_;rintro _ au _ ak ⟨al,am,rfl,rfl,an⟩ ao;refine zg 3 rfl ?_;obtain rfl:=oi aj;refine JL.rt func97 rfl rfl ?_;exact ae _ _ _ _ ak rfl ⟨al,am,rfl,rfl,an⟩ ao
def f99(fuel:Nat)(p0:BK)(p1:List Int):Option (Int×(BK)):=
 (Ay (((p1).length:Int) - 1)).bind fun O=>
 (f41 fuel p0 O).bind fun K=>
 (ix p1 (K.1)).bind fun U=>
 some (U,K.2)
theorem Jg{K:Nat}{O:Ar}{c2:Nat}{U:Ar}{W:Nat}{p0:BK}{p1:List Int}(ag:Ao rI E O c2 (p0.1))(ah:Ao rI E U W (p1)){fuel:Nat}{r:Int×(BK)}(Z:f99 fuel p0 p1=some r):As J 99 [.pointer (some ⟨K,0,none⟩),.slice U (p1).length W] E [(K,.cells #[.slice O (p0.1).length c2,iV p0.2.1,.int .u64 ((p0.2.2:Nat):Int)] 92 (0,0))] (fun w E' B'=>∃(aa:Ar) (ab:Nat),w=iV r.1∧B'= [(K,.cells #[.slice aa (r.2.1).length ab,iV r.2.2.1,.int .u64 ((r.2.2.2:Nat):Int)] 92 (0,0))]∧Ao rI E' aa ab (r.2.1)):=by
 refine As.en func99 rfl rfl fun Q ay cs H ai aj=>?_;unfold f99 at Z;refine zg 9 rfl ?_;refine JL.Y rfl (fun ρ h=>Yl.len rfl underlying28 (h _ _ rfl)) ?_;obtain⟨az,ak,al⟩:=bs Z;refine JL.Y rfl (fun ρ h=>Yl.Ba (h _ _ rfl) (h _ _ rfl) ak) ?_;obtain⟨aA,am,an⟩:=bs al;refine JS.Bu 0 (FG ag am) rfl rfl (Aw func41 rfl) ai rfl ?_;rintro _ aB _ ae ⟨ao,ap,rfl,rfl,aq⟩ ar;obtain⟨aC,au,av⟩:=bs an;refine JS.BV (ah.mono ae) au rfl rfl rfl rfl rfl underlying28 (Ag type3) ?_;rintro aD aE _ rfl aw;refine JL.ld 0 aw (An underlying3) rfl rfl rfl ?_;refine zg 2 rfl ?_;obtain rfl:=oi av;refine JL.rt func99 rfl rfl ?_;exact aj _ _ _ _ ae rfl ⟨ao,ap,rfl,rfl,aq⟩ ar
def G0(fuel:Nat)(p0:List Int)(p1:Int)(K:(List Int)×Bool×Int):Option (A8 ((List Int)×Bool×Int) ((List Int)×Bool)):=
 if K.2.2<((p0).length:Int) then(
  (ix p0 (K.2.2)).bind fun U=>
  Option.bind (
   if p1≤U then(
    some (!K.2.1)
   ) else(
    some false
   )
  ) fun W=>
  Option.bind (
   if W=true then(
    (room K.1 p1).bind fun Z=>
    some (Z,true)
   ) else(
    some (K.1,K.2.1)
   )
  ) fun O=>
  (ix p0 (K.2.2)).bind fun aa=>
  Option.bind (
   if aa≠p1 then(
    (ix p0 (K.2.2)).bind fun ab=>
    (room O.1 ab).bind fun ae=>
    some ae
   ) else(
    some O.1
   )
  ) fun ag=>
  (Ay (K.2.2+1)).bind fun ah=>
  some (.more (ag,O.2,ah))
 ) else(
  some (.done (K.1,K.2.1))
 )
def f98(fuel:Nat)(p0:List Int)(p1:Int):Option ((List Int)):=
 Option.bind (iter (G0 fuel p0 p1) fuel ([],false,0)) fun K=>
 Option.bind (
  if(!K.2)=true then(
   (room K.1 p1).bind fun O=>
   some O
  ) else(
   some K.1
  )
 ) fun U=>
 some U
theorem N9{O:Ar}{c2:Nat}{p0:List Int}{p1:Int}(aA:Ao rI E O c2 (p0)){fuel:Nat}{r:(List Int)}(aO:f98 fuel p0 p1=some r):As J 98 [.slice O (p0).length c2,iV p1] E [] (fun w E' B'=>∃(aP:Ar) (aQ:Nat),w= .slice aP (r).length aQ∧B'= []∧Ao rI E' aP aQ (r)):=by
 refine As.en func98 rfl rfl fun Q cf cs H a6 a7=>?_;unfold f98 at aO;obtain⟨ag,a8,a9⟩:=bs aO;refine zg 17 rfl ?_;refine JL.join (fun L s=>∃(aa:LH) (ah:Ar) (ai:Nat) (ap:Seg),Jn E H aa [ap] [(1,iV p1),(5,.slice ah (ag.1).length ai),(6,.bool ag.2)] L s (OL 3 rI aa ah ai ap (ag.1))) ?_ ?_
 ·rintro _ _ ⟨aa,ah,ai,ap,rfl,rfl,ba,aR,aS⟩;refine zg 4 rfl ?_;refine JL.Y (v:= .bool (!ag.2)) rfl (fun ρ h=>Yl.not (h _ _ rfl)) ?_;obtain⟨aT,aU,bb⟩:=bs a9;refine JL.done ?_;refine JL.join (fun L s=>∃(aB:LH) (aq:Ar) (ar:Nat) (aC:Seg),Jn aa H aB [aC] [(5,.slice aq (aT).length ar)] L s (OL 3 rI aB aq ar aC (aT))) ?_ ?_
  ·rintro _ _ ⟨aB,aq,ar,aC,rfl,rfl,bc,bd,bf⟩;refine zg 5 rfl ?_;refine JS.BO 0 bf bd rfl fun cg bg bh bi=>?_;obtain rfl:=oi bb;refine JL.rt func98 rfl rfl ?_;exact a7 _ _ _ _ ((ba.trans bc).trans bg) rfl ⟨aq,ar,rfl,rfl,bh⟩ bi
  ·intro aV;refine JL.split (t:=(!ag.2)) rfl (fun aD=>?_) (fun aD=>?_)
   ·have bj:=ip aU aD;obtain⟨ci,bk,bl⟩:=bs bj;refine zg 3 rfl ?_;refine JS.app (pp:=rI) (v:=iV p1) (a:=ah) (c:=ai) 0 bk rfl rfl rfl rfl (fun _=>rfl) rfl (fun _=>rfl) rfl rfl rfl underlying28 underlying28 underlying28 (Ag type3) (CJ type3) (AN type3) rfl (by decide) (by decide) (by decide) (by decide) aS rfl aR rfl fun ck bm bn bo bp bq=>?_;refine zg 2 rfl ?_;obtain rfl:=oi bl;exact JL.kw (aV _ _ ⟨aa,bm,bn,bo,rfl,rfl,(Le.refl _),bq,bp⟩) rfl
   ·have br:=ib aU aD;refine JL.skip ?_;obtain rfl:=oi br;exact JL.kw (aV _ _ ⟨aa,ah,ai,ap,rfl,rfl,(Le.refl _),aR,aS⟩) rfl
 ·intro bu;refine JL.block ?_;refine JL.wk [(0,.slice O (p0).length c2),(1,iV p1),(5,.slice none 0 0),(6,.bool false),(7,iV 0)] rfl ?_;refine JL.Bq a8 (fun L s K=>∃(U:LH) (W:Ar) (Z:Nat) (ab:Seg),Jn E H U [ab] [(0,.slice O (p0).length c2),(1,iV p1),(5,.slice W (K.1).length Z),(6,.bool K.2.1),(7,iV K.2.2)] L s (OL 3 rI U W Z ab (K.1))) ⟨E,none,0,[],rfl,rfl,(Le.refl _),a6,OL.nil⟩ ?_;rintro _ _ K ⟨U,W,Z,ab,rfl,rfl,aj,aE,aF⟩ bv ⟨cm,aG⟩ bw;have aH:=aG;unfold G0 at aH;refine zg 5 rfl ?_;refine JL.Y rfl (fun ρ h=>Yl.len rfl underlying28 (h _ _ rfl)) ?_;refine zg 2 rfl ?_;refine JL.ifs (p:=K.2.2<((p0).length:Int)) rfl (fun aI=>?_) (fun aI=>?_)
  ·have bx:=ip aH aI;obtain⟨bz,bA,bB⟩:=bs bx;refine zg 8 rfl ?_;refine JS.BV (aA.mono aj) bA rfl rfl rfl rfl rfl underlying28 (Ag type3) ?_;rintro cn co _ rfl bC;refine JL.ld 0 bC (An underlying3) rfl rfl rfl ?_;obtain⟨aW,aX,bD⟩:=bs bB;refine zg 3 rfl ?_;refine JL.BM [] (fun L s=>∃(ak:LH),Jm U H ak [ab] [(0,.slice O (p0).length c2),(1,iV p1),(5,.slice W (K.1).length Z),(6,.bool K.2.1),(7,iV K.2.2),(23,.bool aW)] L s) ?_ ?_
   ·rintro _ _ ⟨ak,rfl,rfl,al,aY⟩;obtain⟨am,aZ,bE⟩:=bs bD;refine JL.done ?_;refine JL.join (fun L s=>∃(ae:LH) (an:Ar) (ao:Nat) (au:Seg),Jn ak H ae [au] [(0,.slice O (p0).length c2),(1,iV p1),(5,.slice an (am.1).length ao),(6,.bool am.2),(7,iV K.2.2)] L s (OL 3 rI ae an ao au (am.1))) ?_ ?_
    ·rintro _ _ ⟨ae,an,ao,au,rfl,rfl,aJ,a0,a1⟩;obtain⟨bF,bG,bH⟩:=bs bE;refine zg 4 rfl ?_;refine JS.BV (aA.mono ((aj.trans al).trans aJ)) bG rfl rfl rfl rfl rfl underlying28 (Ag type3) ?_;rintro cp cq _ rfl bI;refine JL.ld 0 bI (An underlying3) rfl rfl rfl ?_;obtain⟨aK,a2,bJ⟩:=bs bH;refine zg 3 rfl ?_;refine JL.join (fun L s=>∃(av:LH) (aw:Ar) (ay:Nat) (az:Seg),Jn ae H av [az] [(0,.slice O (p0).length c2),(1,iV p1),(5,.slice aw (aK).length ay),(6,.bool am.2),(7,iV K.2.2)] L s (OL 3 rI av aw ay az (aK))) ?_ ?_
     ·rintro _ _ ⟨av,aw,ay,az,rfl,rfl,bK,bL,bM⟩;obtain⟨bN,bO,bP⟩:=bs bJ;refine zg 3 rfl ?_;refine JL.Y rfl (fun ρ h=>Yl.A6 (h _ _ rfl) (h _ _ rfl) bO) ?_;refine zg 2 rfl ?_;obtain rfl:=oi bP;exact JL.kw (bw _ _ (aK,am.2,bN) ⟨av,aw,ay,az,rfl,rfl,(((aj.trans al).trans aJ).trans bK),bL,bM⟩ aG) rfl
     ·intro a3;refine JL.ifs (p:=bF≠p1) rfl (fun aL=>?_) (fun aL=>?_)
      ·have bQ:=ip a2 aL;obtain⟨bR,bS,bT⟩:=bs bQ;refine zg 4 rfl ?_;refine JS.BV (aA.mono ((aj.trans al).trans aJ)) bS rfl rfl rfl rfl rfl underlying28 (Ag type3) ?_;rintro cr ct _ rfl bU;refine JL.ld 0 bU (An underlying3) rfl rfl rfl ?_;obtain⟨cu,bV,bW⟩:=bs bT;refine JS.app (pp:=rI) (v:=iV bR) (a:=an) (c:=ao) 0 bV rfl rfl rfl rfl (fun _=>rfl) rfl (fun _=>rfl) rfl rfl rfl underlying28 underlying28 underlying28 (Ag type3) (CJ type3) (AN type3) rfl (by decide) (by decide) (by decide) (by decide) a1 rfl a0 rfl fun cv bX bY bZ b0 b1=>?_;refine zg 2 rfl ?_;obtain rfl:=oi bW;exact JL.kw (a3 _ _ ⟨ae,bX,bY,bZ,rfl,rfl,(Le.refl _),b1,b0⟩) rfl
      ·have b2:=im a2 aL;refine JL.skip ?_;obtain rfl:=oi b2;exact JL.kw (a3 _ _ ⟨ae,an,ao,au,rfl,rfl,(Le.refl _),a0,a1⟩) rfl
    ·intro a4;refine JL.split (t:=aW) rfl (fun aM=>?_) (fun aM=>?_)
     ·have b3:=ip aZ aM;obtain⟨cw,b4,b5⟩:=bs b3;refine zg 3 rfl ?_;refine JS.app (pp:=rI) (v:=iV p1) (a:=W) (c:=Z) 0 b4 rfl rfl rfl rfl (fun _=>rfl) rfl (fun _=>rfl) rfl rfl rfl underlying28 underlying28 underlying28 (Ag type3) (CJ type3) (AN type3) rfl (by decide) (by decide) (by decide) (by decide) (aF.mono al) rfl aY rfl fun cy b6 b7 b8 b9 ca=>?_;refine zg 3 rfl ?_;obtain rfl:=oi b5;exact JL.kw (a4 _ _ ⟨ak,b6,b7,b8,rfl,rfl,(Le.refl _),ca,b9⟩) rfl
     ·have cb:=ib aZ aM;refine JL.skip ?_;obtain rfl:=oi cb;exact JL.kw (a4 _ _ ⟨ak,W,Z,ab,rfl,rfl,(Le.refl _),aY,(aF.mono al)⟩) rfl
   ·intro a5;refine JL.Cm (q:=p1≤bz) (i:=20) rfl (fun aN=>?_) (fun aN=>?_)
    ·have cc:=ip aX aN;refine zg 1 rfl ?_;refine JL.Y (v:= .bool (!K.2.1)) rfl (fun ρ h=>Yl.not (h _ _ rfl)) ?_;refine zg 1 rfl ?_;obtain rfl:=oi cc;exact JL.kw (a5 _ _ ⟨U,rfl,rfl,(Le.refl _),aE⟩) rfl
    ·have cd:=im aX aN;refine zg 3 rfl ?_;obtain rfl:=oi cd;exact JL.kw (a5 _ _ ⟨U,rfl,rfl,(Le.refl _),aE⟩) rfl
  ·have ce:=im aH aI;refine JL.exit rfl ?_;obtain rfl:=oi ce;obtain rfl:=bv _ aG;exact JL.kw (bu _ _ ⟨U,W,Z,ab,rfl,rfl,aj,aE,aF⟩) rfl
def f71(fuel:Nat):Option ((BD)):=
 some (([([1]:List Int),([2]:List Int),([3,4]:List Int),([4]:List Int),([5]:List Int),([5]:List Int)]:List (List Int)),([[],[],[],([2]:List Int),([2,3]:List Int),([3,4]:List Int)]:List (List Int)))
theorem F5{fuel:Nat}{r:(BD)}(al:f71 fuel=some r):As J 71 [] E [] (fun w E' B'=>∃(am:Ar) (an:Nat) (ao:Ar) (ap:Nat),w= .agg #[.slice am (r.1).length an,.slice ao (r.2).length ap]∧B'= []∧Ao (rL rI) E' am an (r.1)∧Ao (rL rI) E' ao ap (r.2)):=by
 refine As.en func71 rfl rfl fun Q bN cs H aC aD=>?_;unfold f71 at al;refine zg 2 rfl ?_;refine JS.alloc rfl rfl rfl aC (AN type24) fun K aE=>?_;refine zg 3 rfl ?_;refine JS.lit (pp:=rI) [iV 1] [1] rfl rfl rfl underlying28 (Ag type3) (AN type3) (by decide) rfl rfl rfl ⟨rfl,trivial⟩ aE fun aF aq aG aH=>?_;refine JS.lit (pp:=rI) [iV 2] [2] rfl rfl rfl underlying28 (Ag type3) (AN type3) (by decide) rfl rfl rfl ⟨rfl,trivial⟩ aH fun aI ar aJ aK=>?_;refine JS.norm (S':= [[],[(K,.cells #[.slice none 0 0,.slice none 0 0] 24 (0,0))],aq,ar]) rfl aK fun aL=>?_;refine JS.lit (pp:=rI) [iV 3,iV 4] [3,4] rfl rfl rfl underlying28 (Ag type3) (AN type3) (by decide) rfl rfl rfl ⟨rfl,rfl,trivial⟩ aL fun aM au aN aO=>?_;refine JS.lit (pp:=rI) [iV 4] [4] rfl rfl rfl underlying28 (Ag type3) (AN type3) (by decide) rfl rfl rfl ⟨rfl,trivial⟩ aO fun aP av aQ aR=>?_;refine JS.lit (pp:=rI) [iV 5] [5] rfl rfl rfl underlying28 (Ag type3) (AN type3) (by decide) rfl rfl rfl ⟨rfl,trivial⟩ aR fun aS aw aT aU=>?_;refine JS.norm (S':= [[],[(K,.cells #[.slice none 0 0,.slice none 0 0] 24 (0,0))],aq,ar,au,av,aw]) rfl aU fun aV=>?_;refine JS.lit (pp:=rI) [iV 5] [5] rfl rfl rfl underlying28 (Ag type3) (AN type3) (by decide) rfl rfl rfl ⟨rfl,trivial⟩ aV fun aW ay aX aY=>?_;refine JS.BO 2 aG aY rfl fun bO W aZ a0=>?_;refine JS.BO 3 (aJ.mono W) a0 rfl fun bP Z a1 a2=>?_;refine JS.norm (S':= [[],[(K,.cells #[.slice none 0 0,.slice none 0 0] 24 (0,0))],[],[],au,av,aw,ay]) rfl a2 fun a3=>?_;refine JS.BO 4 (aN.mono (W.trans Z)) a3 rfl fun bQ aa a4 a5=>?_;refine JS.BO 5 (aQ.mono ((W.trans Z).trans aa)) a5 rfl fun bR ab a6 a7=>?_;refine JS.BO 6 (aT.mono (((W.trans Z).trans aa).trans ab)) a7 rfl fun bS ae a8 a9=>?_;refine JS.norm (S':= [[],[(K,.cells #[.slice none 0 0,.slice none 0 0] 24 (0,0))],[],[],[],[],[],ay]) rfl a9 fun ba=>?_;refine JS.BO 7 (aX.mono ((((W.trans Z).trans aa).trans ab).trans ae)) ba rfl fun bT ag bb bc=>?_;refine JS.lit (pp:=(rL rI)) [.slice (some ⟨aF,0,none⟩) (([1]:List Int)).length 1,.slice (some ⟨aI,0,none⟩) (([2]:List Int)).length 1,.slice (some ⟨aM,0,none⟩) (([3,4]:List Int)).length 2,.slice (some ⟨aP,0,none⟩) (([4]:List Int)).length 1,.slice (some ⟨aS,0,none⟩) (([5]:List Int)).length 1,.slice (some ⟨aW,0,none⟩) (([5]:List Int)).length 1] [([1]:List Int),([2]:List Int),([3,4]:List Int),([4]:List Int),([5]:List Int),([5]:List Int)] rfl rfl rfl underlying22 (Ag type28) (AN type28) (by decide) rfl rfl rfl ⟨⟨_,_,rfl,(aZ.mono ((((Z.trans aa).trans ab).trans ae).trans ag))⟩,⟨_,_,rfl,(a1.mono (((aa.trans ab).trans ae).trans ag))⟩,⟨_,_,rfl,(a4.mono ((ab.trans ae).trans ag))⟩,⟨_,_,rfl,(a6.mono (ae.trans ag))⟩,⟨_,_,rfl,(a8.mono ag)⟩,⟨_,_,rfl,bb⟩,trivial⟩ bc fun O ak bd bf=>?_;refine JS.lit (pp:=rI) [iV 2] [2] rfl rfl rfl underlying28 (Ag type3) (AN type3) (by decide) rfl rfl rfl ⟨rfl,trivial⟩ bf fun bg bh bi bj=>?_;refine JS.norm (S':= [[],[(K,.cells #[.slice none 0 0,.slice none 0 0] 24 (0,0))],[],[],[],[],[],[],ak,bh]) rfl bj fun bk=>?_;refine JS.lit (pp:=rI) [iV 2,iV 3] [2,3] rfl rfl rfl underlying28 (Ag type3) (AN type3) (by decide) rfl rfl rfl ⟨rfl,rfl,trivial⟩ bk fun bl bm bn bo=>?_;refine JS.lit (pp:=rI) [iV 3,iV 4] [3,4] rfl rfl rfl underlying28 (Ag type3) (AN type3) (by decide) rfl rfl rfl ⟨rfl,rfl,trivial⟩ bo fun bp bq br bu=>?_;refine JS.BO 9 bi bu rfl fun bU ah bv bw=>?_;refine JS.norm (S':= [[],[(K,.cells #[.slice none 0 0,.slice none 0 0] 24 (0,0))],[],[],[],[],[],[],ak,[],bm,bq]) rfl bw fun bx=>?_;refine JS.BO 10 (bn.mono ah) bx rfl fun bV ai bz bA=>?_;refine JS.BO 11 (br.mono (ah.trans ai)) bA rfl fun bW aj bB bC=>?_;refine JS.lit (pp:=(rL rI)) [.slice none 0 0,.slice none 0 0,.slice none 0 0,.slice (some ⟨bg,0,none⟩) (([2]:List Int)).length 1,.slice (some ⟨bl,0,none⟩) (([2,3]:List Int)).length 2,.slice (some ⟨bp,0,none⟩) (([3,4]:List Int)).length 2] [[],[],[],([2]:List Int),([2,3]:List Int),([3,4]:List Int)] rfl rfl rfl underlying22 (Ag type28) (AN type28) (by decide) rfl rfl rfl ⟨⟨_,_,rfl,Ao.nil⟩,⟨_,_,rfl,Ao.nil⟩,⟨_,_,rfl,Ao.nil⟩,⟨_,_,rfl,(bv.mono (ai.trans aj))⟩,⟨_,_,rfl,(bz.mono aj)⟩,⟨_,_,rfl,bB⟩,trivial⟩ bC fun U bD bE bF=>?_;refine JS.norm (S':= [[],[(K,.cells #[.slice none 0 0,.slice none 0 0] 24 (0,0))],[],[],[],[],[],[],ak,[],[],[],bD]) rfl bF fun bG=>?_;refine JL.Y (v:= .agg #[.slice (some ⟨O,0,none⟩) (([([1]:List Int),([2]:List Int),([3,4]:List Int),([4]:List Int),([5]:List Int),([5]:List Int)]:List (List Int))).length 6,.slice (some ⟨U,0,none⟩) (([[],[],[],([2]:List Int),([2,3]:List Int),([3,4]:List Int)]:List (List Int))).length 6]) rfl (fun ρ h=>Yl.Ci [(0,1),(1,1)] h (AN type24) underlying24 ⟨rfl,Ag type22,rfl,Ag type22,trivial⟩ rfl rfl) ?_;refine JS.st (v:= .agg #[.slice (some ⟨O,0,none⟩) (([([1]:List Int),([2]:List Int),([3,4]:List Int),([4]:List Int),([5]:List Int),([5]:List Int)]:List (List Int))).length 6,.slice (some ⟨U,0,none⟩) (([[],[],[],([2]:List Int),([2,3]:List Int),([3,4]:List Int)]:List (List Int))).length 6]) (off:=0) 1 bG (Ag type24) rfl rfl rfl rfl fun bH=>?_;refine JL.done ?_;refine JS.BO 8 (bd.mono ((ah.trans ai).trans aj)) bH rfl fun bX az bI bJ=>?_;refine JS.BO 12 (bE.mono az) bJ rfl fun bY aA bK bL=>?_;refine JS.norm (S':= [[],[(K,.cells #[.slice (some ⟨O,0,none⟩) (([([1]:List Int),([2]:List Int),([3,4]:List Int),([4]:List Int),([5]:List Int),([5]:List Int)]:List (List Int))).length 6,.slice (some ⟨U,0,none⟩) (([[],[],[],([2]:List Int),([2,3]:List Int),([3,4]:List Int)]:List (List Int))).length 6] 24 (0,0))],[],[],[],[],[],[],[],[],[],[],[]]) rfl bL fun aB=>?_;obtain rfl:=oi al;refine JL.ret (v:= .agg #[.slice (some ⟨O,0,none⟩) (([([1]:List Int),([2]:List Int),([3,4]:List Int),([4]:List Int),([5]:List Int),([5]:List Int)]:List (List Int))).length 6,.slice (some ⟨U,0,none⟩) (([[],[],[],([2]:List Int),([2,3]:List Int),([3,4]:List Int)]:List (List Int))).length 6]) rfl rfl (Bv.list func71 rfl (vs:= [.agg #[.slice (some ⟨O,0,none⟩) (([([1]:List Int),([2]:List Int),([3,4]:List Int),([4]:List Int),([5]:List Int),([5]:List Int)]:List (List Int))).length 6,.slice (some ⟨U,0,none⟩) (([[],[],[],([2]:List Int),([2,3]:List Int),([3,4]:List Int)]:List (List Int))).length 6]]) ⟨⟨_,rfl,Ld.many (vs:= [.slice (some ⟨O,0,none⟩) (([([1]:List Int),([2]:List Int),([3,4]:List Int),([4]:List Int),([5]:List Int),([5]:List Int)]:List (List Int))).length 6,.slice (some ⟨U,0,none⟩) (([[],[],[],([2]:List Int),([2,3]:List Int),([3,4]:List Int)]:List (List Int))).length 6]) (An underlying24) (Ag type24) (Ec (off:=0) 1 aB rfl rfl)⟩,trivial⟩) ?_;refine Gk 1 aB rfl fun bM=>?_;exact aD _ _ _ _ ((((((((((W.trans Z).trans aa).trans ab).trans ae).trans ag).trans ah).trans ai).trans aj).trans az).trans aA) rfl ⟨(some ⟨O,0,none⟩),6,(some ⟨U,0,none⟩),6,rfl,rfl,(bI.mono aA),bK⟩ bM
def f72(fuel:Nat):Option ((AT)):=
 some ([(0,2),(1,4)]:AT)
theorem KE{fuel:Nat}{r:(AT)}(K:f72 fuel=some r):As J 72 [] E [] (fun w E' B'=>∃(O:Ar) (U:Nat),w= .slice O (r).length U∧B'= []∧Ao Bl E' O U (r)):=by
 refine As.en func72 rfl rfl fun Q aj cs H W Z=>?_;unfold f72 at K;refine zg 6 rfl ?_;refine JL.Y (v:= .agg #[iV 0,iV 2]) rfl (fun ρ h=>Yl.Ci [(0,1),(1,1)] h (AN type27) underlying27 ⟨rfl,Ag type3,rfl,Ag type3,trivial⟩ rfl rfl) ?_;refine JL.Y (v:= .agg #[iV 1,iV 4]) rfl (fun ρ h=>Yl.Ci [(0,1),(1,1)] h (AN type27) underlying27 ⟨rfl,Ag type3,rfl,Ag type3,trivial⟩ rfl rfl) ?_;refine JS.lit (pp:=Bl) [.agg #[iV 0,iV 2],.agg #[iV 1,iV 4]] [(0,2),(1,4)] rfl rfl rfl underlying25 (Ag type27) (AN type27) (by decide) rfl rfl rfl ⟨⟨_,_,rfl,rfl,rfl⟩,⟨_,_,rfl,rfl,rfl⟩,trivial⟩ W fun aa ak ab ae=>?_;refine zg 2 rfl ?_;refine JS.BO 1 ab ae rfl fun al ag ah ai=>?_;obtain rfl:=oi K;refine JL.rt func72 rfl rfl ?_;exact Z _ _ _ _ ag rfl ⟨(some ⟨aa,0,none⟩),2,rfl,rfl,ah⟩ ai
def f73(fuel:Nat):Option ((AT)):=
 some ([(0,3),(1,3)]:AT)
theorem N6{fuel:Nat}{r:(AT)}(K:f73 fuel=some r):As J 73 [] E [] (fun w E' B'=>∃(O:Ar) (U:Nat),w= .slice O (r).length U∧B'= []∧Ao Bl E' O U (r)):=by
 refine As.en func73 rfl rfl fun Q aj cs H W Z=>?_;unfold f73 at K;refine zg 6 rfl ?_;refine JL.Y (v:= .agg #[iV 0,iV 3]) rfl (fun ρ h=>Yl.Ci [(0,1),(1,1)] h (AN type27) underlying27 ⟨rfl,Ag type3,rfl,Ag type3,trivial⟩ rfl rfl) ?_;refine JL.Y (v:= .agg #[iV 1,iV 3]) rfl (fun ρ h=>Yl.Ci [(0,1),(1,1)] h (AN type27) underlying27 ⟨rfl,Ag type3,rfl,Ag type3,trivial⟩ rfl rfl) ?_;refine JS.lit (pp:=Bl) [.agg #[iV 0,iV 3],.agg #[iV 1,iV 3]] [(0,3),(1,3)] rfl rfl rfl underlying25 (Ag type27) (AN type27) (by decide) rfl rfl rfl ⟨⟨_,_,rfl,rfl,rfl⟩,⟨_,_,rfl,rfl,rfl⟩,trivial⟩ W fun aa ak ab ae=>?_;refine zg 2 rfl ?_;refine JS.BO 1 ab ae rfl fun al ag ah ai=>?_;obtain rfl:=oi K;refine JL.rt func73 rfl rfl ?_;exact Z _ _ _ _ ag rfl ⟨(some ⟨aa,0,none⟩),2,rfl,rfl,ah⟩ ai
end Pal
namespace Pal
open Go Go.Conc Go.Proofs
open Go.Proofs.Tryz
variable {J:Judge Tryz.prog}{E:LH}
def f103(fuel:Nat)(p0:Nat)(p1:Int):Option (Bool):=
 (HW p0 p1).bind fun K=>
 (Hh (K) (1)).bind fun O=>
 some (decide ((((O):Nat):Int)=(((1):Nat):Int)))
theorem Kh{p0:Nat}{p1:Int}{fuel:Nat}{r:Bool}(K:f103 fuel p0 p1=some r):As J 103 [.int .u16 ((p0:Nat):Int),iV p1] E [] (fun w E' B'=>w= .bool r∧B'= []):=by
 refine As.en func103 rfl rfl fun Q ah cs H O U=>?_;unfold f103 at K;obtain⟨W,Z,aa⟩:=bs K;refine zg 8 rfl ?_;refine JL.Y (v:= .int .u16 ((W:Nat):Int)) rfl (fun ρ h=>Yl.Th (h _ _ rfl) (h _ _ rfl) Z) ?_;obtain⟨ab,ae,ag⟩:=bs aa;refine JL.Y (v:= .int .u16 ((ab:Nat):Int)) rfl (fun ρ h=>Yl.Ki (h _ _ rfl) (h _ _ rfl) ae) ?_;refine zg 3 rfl ?_;obtain rfl:=oi ag;refine JL.rt func103 rfl rfl ?_;exact U _ _ _ _ (Le.refl _) rfl ⟨rfl,rfl⟩ O
def f90(fuel:Nat)(p0:Nat)(p1:Int):Option (Nat):=
 (HP p1).bind fun K=>
 (GC (p0) (K)).bind fun O=>
 some O
theorem Jf{p0:Nat}{p1:Int}{fuel:Nat}{r:Nat}(K:f90 fuel p0 p1=some r):As J 90 [.int .u16 ((p0:Nat):Int),iV p1] E [] (fun w E' B'=>w= .int .u16 ((r:Nat):Int)∧B'= []):=by
 refine As.en func90 rfl rfl fun Q ah cs H O U=>?_;unfold f90 at K;obtain⟨W,Z,aa⟩:=bs K;refine zg 8 rfl ?_;refine JL.Y (v:= .int .u16 ((W:Nat):Int)) rfl (fun ρ h=>Yl.Ti (h _ _ rfl) (h _ _ rfl) Z) ?_;obtain⟨ab,ae,ag⟩:=bs aa;refine JL.Y (v:= .int .u16 ((ab:Nat):Int)) rfl (fun ρ h=>Yl.HI (h _ _ rfl) (h _ _ rfl) ae) ?_;refine zg 2 rfl ?_;obtain rfl:=oi ag;refine JL.rt func90 rfl rfl ?_;exact U _ _ _ _ (Le.refl _) rfl ⟨rfl,rfl⟩ O
def I5(fuel:Nat)(p0:Nat)(K:(List Int)×Int):Option (A8 ((List Int)×Int) ((List Int))):=
 if K.2<16 then(
  (f103 fuel p0 K.2).bind fun O=>
  Option.bind (
   if O=true then(
    (room K.1 K.2).bind fun U=>
    some U
   ) else(
    some K.1
   )
  ) fun W=>
  (Ay (K.2+1)).bind fun Z=>
  some (.more (W,Z))
 ) else(
  some (.done K.1)
 )
def f89(fuel:Nat)(p0:Nat):Option ((List Int)):=
 Option.bind (iter (I5 fuel p0) fuel ([],0)) fun K=>
 some K
theorem Gr{p0:Nat}{fuel:Nat}{r:(List Int)}(av:f89 fuel p0=some r):As J 89 [.int .u16 ((p0:Nat):Int)] E [] (fun w E' B'=>∃(aw:Ar) (ay:Nat),w= .slice aw (r).length ay∧B'= []∧Ao rI E' aw ay (r)):=by
 refine As.en func89 rfl rfl fun Q bd cs H aF aG=>?_;unfold f89 at av;obtain⟨az,aH,aI⟩:=bs av;refine zg 13 rfl ?_;refine JL.join (fun L s=>∃(aj:LH) (Z:Ar) (aa:Nat) (ak:Seg),Jn E H aj [ak] [(3,.slice Z (az).length aa)] L s (OL 3 rI aj Z aa ak (az))) ?_ ?_
 ·rintro _ _ ⟨aj,Z,aa,ak,rfl,rfl,aJ,aK,aL⟩;refine zg 5 rfl ?_;refine JS.BO 0 aL aK rfl fun bf aM aN aO=>?_;obtain rfl:=oi aI;refine JL.rt func89 rfl rfl ?_;exact aG _ _ _ _ (aJ.trans aM) rfl ⟨Z,aa,rfl,rfl,aN⟩ aO
 ·intro aP;refine JL.block ?_;refine JL.wk [(0,.int .u16 ((p0:Nat):Int)),(3,.slice none 0 0),(5,iV 0)] rfl ?_;refine JL.Bq aH (fun L s K=>∃(ab:LH) (O:Ar) (U:Nat) (W:Seg),Jn E H ab [W] [(0,.int .u16 ((p0:Nat):Int)),(3,.slice O (K.1).length U),(5,iV K.2)] L s (OL 3 rI ab O U W (K.1))) ⟨E,none,0,[],rfl,rfl,(Le.refl _),aF,OL.nil⟩ ?_;rintro _ _ K ⟨ab,O,U,W,rfl,rfl,aA,aB,al⟩ aQ ⟨bg,am⟩ aR;have an:=am;unfold I5 at an;refine zg 5 rfl ?_;refine JL.ifs (p:=K.2<16) rfl (fun ao=>?_) (fun ao=>?_)
  ·have aS:=ip an ao;obtain⟨aT,aU,aV⟩:=bs aS;refine zg 12 rfl ?_;refine JS.cl (Kh aU) rfl rfl (Aw func103 rfl) aB ?_;rintro _ ap _ aq ⟨rfl,rfl⟩ aC;obtain⟨ar,aD,aW⟩:=bs aV;refine JL.done ?_;refine JL.join (fun L s=>∃(ae:LH) (ag:Ar) (ah:Nat) (ai:Seg),Jn ap H ae [ai] [(0,.int .u16 ((p0:Nat):Int)),(3,.slice ag (ar).length ah),(5,iV K.2)] L s (OL 3 rI ae ag ah ai (ar))) ?_ ?_
   ·rintro _ _ ⟨ae,ag,ah,ai,rfl,rfl,aX,aY,aZ⟩;obtain⟨a0,a1,a2⟩:=bs aW;refine zg 2 rfl ?_;refine JL.Y rfl (fun ρ h=>Yl.A6 (h _ _ rfl) (h _ _ rfl) a1) ?_;refine zg 2 rfl ?_;obtain rfl:=oi a2;exact JL.kw (aR _ _ (ar,a0) ⟨ae,ag,ah,ai,rfl,rfl,((aA.trans aq).trans aX),aY,aZ⟩ am) rfl
   ·intro aE;refine JL.split (t:=aT) rfl (fun au=>?_) (fun au=>?_)
    ·have a3:=ip aD au;obtain⟨bh,a4,a5⟩:=bs a3;refine zg 3 rfl ?_;refine JS.app (pp:=rI) (v:=iV K.2) (a:=O) (c:=U) 0 a4 rfl rfl rfl rfl (fun _=>rfl) rfl (fun _=>rfl) rfl rfl rfl underlying28 underlying28 underlying28 (Ag type3) (CJ type3) (AN type3) rfl (by decide) (by decide) (by decide) (by decide) (al.mono aq) rfl aC rfl fun bi a6 a7 a8 a9 ba=>?_;refine zg 2 rfl ?_;obtain rfl:=oi a5;exact JL.kw (aE _ _ ⟨ap,a6,a7,a8,rfl,rfl,(Le.refl _),ba,a9⟩) rfl
    ·have bb:=ib aD au;refine JL.skip ?_;obtain rfl:=oi bb;exact JL.kw (aE _ _ ⟨ap,O,U,W,rfl,rfl,(Le.refl _),aC,(al.mono aq)⟩) rfl
  ·have bc:=im an ao;refine JL.exit rfl ?_;obtain rfl:=oi bc;obtain rfl:=aQ _ am;exact JL.kw (aP _ _ ⟨ab,O,U,W,rfl,rfl,aA,aB,al⟩) rfl
def IN(fuel:Nat)(p0:List Int)(K:Nat×Int):Option (A8 (Nat×Int) (Nat)):=
 if K.2<((p0).length:Int) then(
  (ix p0 (K.2)).bind fun O=>
  (f90 fuel K.1 O).bind fun U=>
  (Ay (K.2+1)).bind fun W=>
  some (.more (U,W))
 ) else(
  some (.done K.1)
 )
def f120(fuel:Nat)(p0:List Int):Option (Nat):=
 Option.bind (iter (IN fuel p0) fuel (0,0)) fun K=>
 some K
theorem G1{K:Ar}{c2:Nat}{p0:List Int}(ai:Ao rI E K c2 (p0)){fuel:Nat}{r:Nat}(ae:f120 fuel p0=some r):As J 120 [.slice K (p0).length c2] E [] (fun w E' B'=>w= .int .u16 ((r:Nat):Int)∧B'= []):=by
 refine As.en func120 rfl rfl fun Q aK cs H aj ak=>?_;unfold f120 at ae;refine zg 12 rfl ?_;refine JL.Y rfl (fun ρ h=>Yl.len rfl underlying28 (h _ _ rfl)) ?_;obtain⟨al,am,an⟩:=bs ae;refine zg 2 rfl ?_;refine JL.join (fun L s=>∃(ag:LH),Jm E H ag [] [(3,.int .u16 ((al:Nat):Int))] L s) ?_ ?_
 ·rintro _ _ ⟨ag,rfl,rfl,ao,ap⟩;refine zg 5 rfl ?_;obtain rfl:=oi an;refine JL.rt func120 rfl rfl ?_;exact ak _ _ _ _ ao rfl ⟨rfl,rfl⟩ ap
 ·intro aq;refine JL.block ?_;refine JL.wk [(3,.int .u16 ((0:Nat):Int)),(6,.slice K (p0).length c2),(7,iV ((p0).length:Int)),(8,iV 0)] rfl ?_;refine JL.Bq am (fun L s O=>∃(U:LH),Jm E H U [] [(3,.int .u16 ((O.1:Nat):Int)),(6,.slice K (p0).length c2),(7,iV ((p0).length:Int)),(8,iV O.2)] L s) ⟨E,rfl,rfl,(Le.refl _),aj⟩ ?_;rintro _ _ O ⟨U,rfl,rfl,W,ah⟩ ar ⟨aL,Z⟩ au;have aa:=Z;unfold IN at aa;refine zg 5 rfl ?_;refine JL.ifs (p:=O.2<((p0).length:Int)) rfl (fun ab=>?_) (fun ab=>?_)
  ·have av:=ip aa ab;obtain⟨aM,aw,ay⟩:=bs av;refine zg 5 rfl ?_;refine JS.BV (ai.mono W) aw rfl rfl rfl rfl rfl underlying28 (Ag type3) ?_;rintro aN aO _ rfl az;refine JL.ld 0 az (An underlying3) rfl rfl rfl ?_;obtain⟨aA,aB,aC⟩:=bs ay;refine zg 5 rfl ?_;refine JS.cl (Jf aB) rfl rfl (Aw func90 rfl) ah ?_;rintro _ aD _ aE ⟨rfl,rfl⟩ aF;obtain⟨aG,aH,aI⟩:=bs aC;refine zg 4 rfl ?_;refine JL.Y rfl (fun ρ h=>Yl.A6 (h _ _ rfl) (h _ _ rfl) aH) ?_;refine zg 2 rfl ?_;obtain rfl:=oi aI;exact JL.kw (au _ _ (aA,aG) ⟨aD,rfl,rfl,(W.trans aE),aF⟩ Z) rfl
  ·have aJ:=im aa ab;refine JL.exit rfl ?_;obtain rfl:=oi aJ;obtain rfl:=ar _ Z;exact JL.kw (aq _ _ ⟨U,rfl,rfl,W,ah⟩) rfl
def IC(fuel:Nat)(p0:BD)(p1:Int)(p2:List Int)(p3:Bool)(K:Int):Option (A8 (Int) (((Option (Int×Int)))⊕(Unit))):=
 if K<((p2).length:Int) then(
  (ix p2 (K)).bind fun O=>
  (Ay (((p0.1).length:Int) - 1)).bind fun U=>
  (f101 fuel O 0 U).bind fun W=>
  if W=true then(
   some (.done (Sum.inl (some (3,p1))))
  ) else(
   Option.bind (
    if O=p1 then(
     some (!p3)
    ) else(
     some false
    )
   ) fun Z=>
   if Z=true then(
    some (.done (Sum.inl (some (8,p1))))
   ) else(
    Option.bind (
     if 0<K then(
      (Ay (K - 1)).bind fun aa=>
      (ix p2 (aa)).bind fun ab=>
      some (decide (O≤ab))
     ) else(
      some false
     )
    ) fun ae=>
    if ae=true then(
     some (.done (Sum.inl (some (5,p1))))
    ) else(
     (Ay (K+1)).bind fun ag=>
     some (.more ag)
    )
   )
  )
 ) else(
  some (.done (Sum.inr ()))
 )
def f136(fuel:Nat)(p0:BD)(p1:Int)(p2:List Int)(p3:Bool):Option ((Option (Int×Int))):=
 Option.bind (iter (IC fuel p0 p1 p2 p3) fuel 0) fun K=>
 Sum.elim (fun r=>some r) (fun O=>
 some none
 ) K
theorem Nt{al:Ar}{c2:Nat}{am:Ar}{an:Nat}{K:Ar}{O:Nat}{p0:BD}{p1:Int}{p2:List Int}{p3:Bool}(bG:Ao (rL rI) E al c2 (p0.1))(bH:Ao (rL rI) E am an (p0.2))(aE:Ao rI E K O (p2)){fuel:Nat}{r:(Option (Int×Int))}(aF:f136 fuel p0 p1 p2 p3=some r):As J 136 [.agg #[.slice al (p0.1).length c2,.slice am (p0.2).length an],iV p1,.slice K (p2).length O,.bool p3] E [] (fun w E' B'=>∃(aG:Value),w=aG∧B'= []∧Gb 183 aG (r)):=by
 refine As.en func136 rfl rfl fun Q bI cs H aX ag=>?_;unfold f136 at aF;refine zg 2 rfl ?_;refine JS.box (v:= .agg #[.slice al (p0.1).length c2,.slice am (p0.2).length an]) rfl rfl rfl aX rfl fun ah aY=>?_;refine JS.Bo 1 aY rfl fun ao Z aZ a0=>?_;refine zg 6 rfl ?_;refine JL.Y rfl (fun ρ h=>Yl.len rfl underlying28 (h _ _ rfl)) ?_;obtain⟨aH,a1,ai⟩:=bs aF;refine zg 2 rfl ?_;refine JL.join (fun L s=>∃(aI:Unit) (aJ:LH),aH=Sum.inr aI∧Jm ao H aJ [] [] L s) ?_ ?_
 ·rintro _ _ ⟨aI,aJ,rfl,rfl,rfl,a2,a3⟩;have a4:=elim_inr ai;refine zg 4 rfl ?_;obtain rfl:=oi a4;refine JL.rt func136 rfl rfl ?_;exact ag _ _ _ _ (Z.trans a2) rfl ⟨.nilIface,rfl,rfl,rfl⟩ a3
 ·intro a5;refine JL.block ?_;refine JL.wk [(1,iV p1),(2,.slice K (p2).length O),(3,.bool p3),(4,.pointer (some ⟨ah,0,none⟩)),(11,.slice K (p2).length O),(12,iV ((p2).length:Int)),(13,iV 0)] rfl ?_;refine JL.Bq a1 (fun L s W=>∃(ap:LH),Jm ao H ap [] [(1,iV p1),(2,.slice K (p2).length O),(3,.bool p3),(4,.pointer (some ⟨ah,0,none⟩)),(11,.slice K (p2).length O),(12,iV ((p2).length:Int)),(13,iV W)] L s) ⟨ao,rfl,rfl,(Le.refl _),a0⟩ ?_;rintro _ _ W ⟨ap,rfl,rfl,U,aK⟩ aj ⟨bJ,aa⟩ a6;have aq:=aa;unfold IC at aq;refine zg 5 rfl ?_;refine JL.ifs (p:=W<((p2).length:Int)) rfl (fun ar=>?_) (fun ar=>?_)
  ·have a7:=ip aq ar;obtain⟨aL,a8,a9⟩:=bs a7;refine zg 6 rfl ?_;refine JS.BV (aE.mono (Z.trans U)) a8 rfl rfl rfl rfl rfl underlying28 (Ag type3) ?_;rintro bK bL _ rfl ba;refine JL.ld 0 ba (An underlying3) rfl rfl rfl ?_;refine zg 7 rfl ?_;refine JL.fd underlying24 (Ag type22) rfl rfl rfl ?_;refine JL.ld 0 (aZ.mono U) (An underlying22) rfl rfl rfl ?_;refine JL.Y rfl (fun ρ h=>Yl.len rfl underlying22 (h _ _ rfl)) ?_;obtain⟨bM,bb,bc⟩:=bs a9;refine JL.Y rfl (fun ρ h=>Yl.Ba (h _ _ rfl) (h _ _ rfl) bb) ?_;obtain⟨bd,bf,aM⟩:=bs bc;refine JS.cl (Gn bf) rfl rfl (Aw func101 rfl) aK ?_;rintro _ au _ ab ⟨rfl,rfl⟩ av;refine zg 2 rfl ?_;refine JL.split (t:=bd) rfl (fun aw=>?_) (fun aw=>?_)
   ·have bg:=ip aM aw;refine zg 3 rfl ?_;refine JL.Y (v:= .agg #[iV 3,iV p1]) rfl (fun ρ h=>Yl.Ci [(0,1),(1,1)] h (AN type183) underlying183 ⟨rfl,Ag type39,rfl,Ag type3,trivial⟩ rfl rfl) ?_;refine JL.Y (v:= .iface 183 (.agg #[iV 3,iV p1])) rfl (fun ρ h=>Yl.Dt underlying183 (fun _ h=>by cases h) (h _ _ rfl)) ?_;refine zg 2 rfl ?_;obtain rfl:=oi bg;obtain rfl:=aj _ aa;have bh:=elim_inl ai;obtain rfl:=oi bh;refine JL.rt func136 rfl rfl ?_;exact ag _ _ _ _ ((Z.trans U).trans ab) rfl ⟨.iface 183 (.agg #[iV 3,iV p1]),rfl,rfl,rfl⟩ av
   ·have bi:=ib aM aw;obtain⟨aN,aO,aP⟩:=bs bi;refine zg 6 rfl ?_;refine JL.BM [7] (fun L s=>∃(ae:LH),Jm au H ae [] [(1,iV p1),(2,.slice K (p2).length O),(3,.bool p3),(4,.pointer (some ⟨ah,0,none⟩)),(9,iV W),(10,iV aL),(11,.slice K (p2).length O),(12,iV ((p2).length:Int)),(13,iV W),(35,.bool aN)] L s) ?_ ?_
    ·rintro _ _ ⟨ae,rfl,rfl,ak,ay⟩;refine zg 2 rfl ?_;refine JL.split (t:=aN) rfl (fun az=>?_) (fun az=>?_)
     ·have bj:=ip aP az;refine zg 3 rfl ?_;refine JL.Y (v:= .agg #[iV 8,iV p1]) rfl (fun ρ h=>Yl.Ci [(0,1),(1,1)] h (AN type183) underlying183 ⟨rfl,Ag type39,rfl,Ag type3,trivial⟩ rfl rfl) ?_;refine JL.Y (v:= .iface 183 (.agg #[iV 8,iV p1])) rfl (fun ρ h=>Yl.Dt underlying183 (fun _ h=>by cases h) (h _ _ rfl)) ?_;refine zg 2 rfl ?_;obtain rfl:=oi bj;obtain rfl:=aj _ aa;have bk:=elim_inl ai;obtain rfl:=oi bk;refine JL.rt func136 rfl rfl ?_;exact ag _ _ _ _ (((Z.trans U).trans ab).trans ak) rfl ⟨.iface 183 (.agg #[iV 8,iV p1]),rfl,rfl,rfl⟩ ay
     ·have bl:=ib aP az;obtain⟨aQ,aR,aS⟩:=bs bl;refine zg 5 rfl ?_;refine JL.BM [11] (fun L s=>∃(aA:LH),Jm ae H aA [] [(1,iV p1),(2,.slice K (p2).length O),(3,.bool p3),(4,.pointer (some ⟨ah,0,none⟩)),(11,.slice K (p2).length O),(12,iV ((p2).length:Int)),(13,iV W),(50,.bool aQ)] L s) ?_ ?_
      ·rintro _ _ ⟨aA,rfl,rfl,aT,aU⟩;refine zg 2 rfl ?_;refine JL.split (t:=aQ) rfl (fun aB=>?_) (fun aB=>?_)
       ·have bm:=ip aS aB;refine zg 3 rfl ?_;refine JL.Y (v:= .agg #[iV 5,iV p1]) rfl (fun ρ h=>Yl.Ci [(0,1),(1,1)] h (AN type183) underlying183 ⟨rfl,Ag type39,rfl,Ag type3,trivial⟩ rfl rfl) ?_;refine JL.Y (v:= .iface 183 (.agg #[iV 5,iV p1])) rfl (fun ρ h=>Yl.Dt underlying183 (fun _ h=>by cases h) (h _ _ rfl)) ?_;refine zg 2 rfl ?_;obtain rfl:=oi bm;obtain rfl:=aj _ aa;have bn:=elim_inl ai;obtain rfl:=oi bn;refine JL.rt func136 rfl rfl ?_;exact ag _ _ _ _ ((((Z.trans U).trans ab).trans ak).trans aT) rfl ⟨.iface 183 (.agg #[iV 5,iV p1]),rfl,rfl,rfl⟩ aU
       ·have bo:=ib aS aB;obtain⟨bp,bq,br⟩:=bs bo;refine zg 4 rfl ?_;refine JL.Y rfl (fun ρ h=>Yl.A6 (h _ _ rfl) (h _ _ rfl) bq) ?_;refine zg 2 rfl ?_;obtain rfl:=oi br;exact JL.kw (a6 _ _ bp ⟨aA,rfl,rfl,(((U.trans ab).trans ak).trans aT),aU⟩ aa) rfl
      ·intro aV;refine JL.Cm (q:=0<W) (i:=42) rfl (fun aC=>?_) (fun aC=>?_)
       ·have bu:=ip aR aC;obtain⟨bN,bv,bw⟩:=bs bu;refine zg 3 rfl ?_;refine JL.Y rfl (fun ρ h=>Yl.Ba (h _ _ rfl) (h _ _ rfl) bv) ?_;obtain⟨bO,bx,bz⟩:=bs bw;refine JS.BV (aE.mono (((Z.trans U).trans ab).trans ak)) bx rfl rfl rfl rfl rfl underlying28 (Ag type3) ?_;rintro bP bQ _ rfl bA;refine JL.ld 0 bA (An underlying3) rfl rfl rfl ?_;refine zg 2 rfl ?_;obtain rfl:=oi bz;exact JL.kw (aV _ _ ⟨ae,rfl,rfl,(Le.refl _),ay⟩) rfl
       ·have bB:=im aR aC;refine zg 8 rfl ?_;obtain rfl:=oi bB;exact JL.kw (aV _ _ ⟨ae,rfl,rfl,(Le.refl _),ay⟩) rfl
    ·intro aW;refine JL.Cm (q:=aL=p1) (i:=32) rfl (fun aD=>?_) (fun aD=>?_)
     ·have bC:=ip aO aD;refine zg 1 rfl ?_;refine JL.Y (v:= .bool (!p3)) rfl (fun ρ h=>Yl.not (h _ _ rfl)) ?_;refine zg 1 rfl ?_;obtain rfl:=oi bC;exact JL.kw (aW _ _ ⟨au,rfl,rfl,(Le.refl _),av⟩) rfl
     ·have bD:=im aO aD;refine zg 3 rfl ?_;obtain rfl:=oi bD;exact JL.kw (aW _ _ ⟨au,rfl,rfl,(Le.refl _),av⟩) rfl
  ·have bE:=im aq ar;refine JL.exit rfl ?_;obtain rfl:=oi bE;have bF:aH=(Sum.inr ()):=(aj _ aa).symm;exact JL.kw (a5 _ _ ⟨(),ap,bF,rfl,rfl,U,aK⟩) rfl
def IM(fuel:Nat)(p0:BD)(K:Int):Option (A8 (Int) (((Option (Int×Int)))⊕(Unit))):=
 if K<((p0.1).length:Int) then(
  (ix p0.1 (K)).bind fun O=>
  if((O).length:Int)=0 then(
   some (.done (Sum.inl (some (7,K))))
  ) else(
   if 3<((O).length:Int) then(
    some (.done (Sum.inl (some (6,K))))
   ) else(
    (f136 fuel p0 K O true).bind fun U=>
    if U.isSome=true then(
     some (.done (Sum.inl U))
    ) else(
     (ix p0.2 (K)).bind fun Z=>
     if 3<((Z).length:Int) then(
      some (.done (Sum.inl (some (6,K))))
     ) else(
      (ix p0.2 (K)).bind fun aa=>
      (f136 fuel p0 K aa false).bind fun W=>
      if W.isSome=true then(
       some (.done (Sum.inl W))
      ) else(
       (Ay (K+1)).bind fun ab=>
       some (.more ab)
      )
     )
    )
   )
  )
 ) else(
  some (.done (Sum.inr ()))
 )
def f113(fuel:Nat)(p0:BD):Option ((Option (Int×Int))):=
 if((p0.1).length:Int)=0 then(
  some (some (7,0))
 ) else(
  if 8<((p0.1).length:Int) then(
   some (some (6,0))
  ) else(
   if((p0.2).length:Int)≠((p0.1).length:Int) then(
    some (some (9,0))
   ) else(
    Option.bind (iter (IM fuel p0) fuel 0) fun K=>
    Sum.elim (fun r=>some r) (fun O=>
    some none
    ) K
   )
  )
 )
theorem Nh{ah:Ar}{c2:Nat}{al:Ar}{am:Nat}{p0:BD}(an:Ao (rL rI) E ah c2 (p0.1))(ai:Ao (rL rI) E al am (p0.2)){fuel:Nat}{r:(Option (Int×Int))}(ao:f113 fuel p0=some r):As J 113 [.agg #[.slice ah (p0.1).length c2,.slice al (p0.2).length am]] E [] (fun w E' B'=>∃(aF:Value),w=aF∧B'= []∧Gb 183 aF (r)):=by
 refine As.en func113 rfl rfl fun Q bN cs H aY Z=>?_;unfold f113 at ao;refine zg 2 rfl ?_;refine JS.box (v:= .agg #[.slice ah (p0.1).length c2,.slice al (p0.2).length am]) rfl rfl rfl aY rfl fun aG aZ=>?_;refine JS.Bo 1 aZ rfl fun ap O ab aj=>?_;refine zg 5 rfl ?_;refine JL.fd underlying24 (Ag type22) rfl rfl rfl ?_;refine JL.ld 0 ab (An underlying22) rfl rfl rfl ?_;refine JL.Y rfl (fun ρ h=>Yl.len rfl underlying22 (h _ _ rfl)) ?_;refine zg 9 rfl ?_;refine JL.ifs (p:=((p0.1).length:Int)=0) rfl (fun aq=>?_) (fun aq=>?_)
 ·have a0:=ip ao aq;refine zg 2 rfl ?_;refine JL.Y (v:= .agg #[iV 7,iV 0]) rfl (fun ρ h=>Yl.Ci [(0,1),(1,1)] h (AN type183) underlying183 ⟨rfl,Ag type39,rfl,Ag type3,trivial⟩ rfl rfl) ?_;refine JL.Y (v:= .iface 183 (.agg #[iV 7,iV 0])) rfl (fun ρ h=>Yl.Dt underlying183 (fun _ h=>by cases h) (h _ _ rfl)) ?_;refine zg 2 rfl ?_;obtain rfl:=oi a0;refine JL.rt func113 rfl rfl ?_;exact Z _ _ _ _ O rfl ⟨.iface 183 (.agg #[iV 7,iV 0]),rfl,rfl,rfl⟩ aj
 ·have aH:=im ao aq;refine zg 6 rfl ?_;refine JL.ifs (p:=8<((p0.1).length:Int)) rfl (fun ar=>?_) (fun ar=>?_)
  ·have a1:=ip aH ar;refine zg 2 rfl ?_;refine JL.Y (v:= .agg #[iV 6,iV 0]) rfl (fun ρ h=>Yl.Ci [(0,1),(1,1)] h (AN type183) underlying183 ⟨rfl,Ag type39,rfl,Ag type3,trivial⟩ rfl rfl) ?_;refine JL.Y (v:= .iface 183 (.agg #[iV 6,iV 0])) rfl (fun ρ h=>Yl.Dt underlying183 (fun _ h=>by cases h) (h _ _ rfl)) ?_;refine zg 2 rfl ?_;obtain rfl:=oi a1;refine JL.rt func113 rfl rfl ?_;exact Z _ _ _ _ O rfl ⟨.iface 183 (.agg #[iV 6,iV 0]),rfl,rfl,rfl⟩ aj
  ·have aI:=im aH ar;refine zg 2 rfl ?_;refine JL.fd underlying24 (Ag type22) rfl rfl rfl ?_;refine JL.ld 1 ab (An underlying22) rfl rfl rfl ?_;refine JL.Y rfl (fun ρ h=>Yl.len rfl underlying22 (h _ _ rfl)) ?_;refine zg 4 rfl ?_;refine JL.ifs (p:=((p0.2).length:Int)≠((p0.1).length:Int)) rfl (fun au=>?_) (fun au=>?_)
   ·have a2:=ip aI au;refine zg 2 rfl ?_;refine JL.Y (v:= .agg #[iV 9,iV 0]) rfl (fun ρ h=>Yl.Ci [(0,1),(1,1)] h (AN type183) underlying183 ⟨rfl,Ag type39,rfl,Ag type3,trivial⟩ rfl rfl) ?_;refine JL.Y (v:= .iface 183 (.agg #[iV 9,iV 0])) rfl (fun ρ h=>Yl.Dt underlying183 (fun _ h=>by cases h) (h _ _ rfl)) ?_;refine zg 2 rfl ?_;obtain rfl:=oi a2;refine JL.rt func113 rfl rfl ?_;exact Z _ _ _ _ O rfl ⟨.iface 183 (.agg #[iV 9,iV 0]),rfl,rfl,rfl⟩ aj
   ·have a3:=im aI au;refine zg 5 rfl ?_;refine JL.fd underlying24 (Ag type22) rfl rfl rfl ?_;refine JL.ld 0 ab (An underlying22) rfl rfl rfl ?_;refine JL.Y rfl (fun ρ h=>Yl.len rfl underlying22 (h _ _ rfl)) ?_;obtain⟨aJ,a4,ae⟩:=bs a3;refine zg 2 rfl ?_;refine JL.join (fun L s=>∃(aK:Unit) (aL:LH),aJ=Sum.inr aK∧Jm ap H aL [] [] L s) ?_ ?_
    ·rintro _ _ ⟨aK,aL,rfl,rfl,rfl,a5,a6⟩;have a7:=elim_inr ae;refine zg 4 rfl ?_;obtain rfl:=oi a7;refine JL.rt func113 rfl rfl ?_;exact Z _ _ _ _ (O.trans a5) rfl ⟨.nilIface,rfl,rfl,rfl⟩ a6
    ·intro a8;refine JL.block ?_;refine JL.wk [(1,.pointer (some ⟨aG,0,none⟩)),(30,.slice ah (p0.1).length c2),(31,iV ((p0.1).length:Int)),(32,iV 0)] rfl ?_;refine JL.Bq a4 (fun L s U=>∃(av:LH),Jm ap H av [] [(1,.pointer (some ⟨aG,0,none⟩)),(30,.slice ah (p0.1).length c2),(31,iV ((p0.1).length:Int)),(32,iV U)] L s) ⟨ap,rfl,rfl,(Le.refl _),aj⟩ ?_;rintro _ _ U ⟨av,rfl,rfl,K,ak⟩ ag ⟨bO,aa⟩ a9;have aw:=aa;unfold IM at aw;refine zg 5 rfl ?_;refine JL.ifs (p:=U<((p0.1).length:Int)) rfl (fun ay=>?_) (fun ay=>?_)
     ·have ba:=ip aw ay;obtain⟨aM,bb,aN⟩:=bs ba;refine zg 6 rfl ?_;refine JS.BV (an.mono (O.trans K)) bb rfl rfl rfl rfl rfl underlying22 (Ag type28) ?_;rintro bP bQ _ ⟨bR,bS,rfl,bc⟩ bd;refine JL.ld 0 bd (An underlying28) rfl rfl rfl ?_;refine zg 7 rfl ?_;refine JL.Y rfl (fun ρ h=>Yl.len rfl underlying28 (h _ _ rfl)) ?_;refine zg 2 rfl ?_;refine JL.ifs (p:=((aM).length:Int)=0) rfl (fun az=>?_) (fun az=>?_)
      ·have bf:=ip aN az;refine zg 3 rfl ?_;refine JL.Y (v:= .agg #[iV 7,iV U]) rfl (fun ρ h=>Yl.Ci [(0,1),(1,1)] h (AN type183) underlying183 ⟨rfl,Ag type39,rfl,Ag type3,trivial⟩ rfl rfl) ?_;refine JL.Y (v:= .iface 183 (.agg #[iV 7,iV U])) rfl (fun ρ h=>Yl.Dt underlying183 (fun _ h=>by cases h) (h _ _ rfl)) ?_;refine zg 2 rfl ?_;obtain rfl:=oi bf;obtain rfl:=ag _ aa;have bg:=elim_inl ae;obtain rfl:=oi bg;refine JL.rt func113 rfl rfl ?_;exact Z _ _ _ _ (O.trans K) rfl ⟨.iface 183 (.agg #[iV 7,iV U]),rfl,rfl,rfl⟩ ak
      ·have aO:=im aN az;refine zg 5 rfl ?_;refine JL.Y rfl (fun ρ h=>Yl.len rfl underlying28 (h _ _ rfl)) ?_;refine zg 2 rfl ?_;refine JL.ifs (p:=3<((aM).length:Int)) rfl (fun aA=>?_) (fun aA=>?_)
       ·have bh:=ip aO aA;refine zg 3 rfl ?_;refine JL.Y (v:= .agg #[iV 6,iV U]) rfl (fun ρ h=>Yl.Ci [(0,1),(1,1)] h (AN type183) underlying183 ⟨rfl,Ag type39,rfl,Ag type3,trivial⟩ rfl rfl) ?_;refine JL.Y (v:= .iface 183 (.agg #[iV 6,iV U])) rfl (fun ρ h=>Yl.Dt underlying183 (fun _ h=>by cases h) (h _ _ rfl)) ?_;refine zg 2 rfl ?_;obtain rfl:=oi bh;obtain rfl:=ag _ aa;have bi:=elim_inl ae;obtain rfl:=oi bi;refine JL.rt func113 rfl rfl ?_;exact Z _ _ _ _ (O.trans K) rfl ⟨.iface 183 (.agg #[iV 6,iV U]),rfl,rfl,rfl⟩ ak
       ·have bj:=im aO aA;refine zg 4 rfl ?_;refine JL.Bx (ab.mono K) (An underlying24) (Ag type24) rfl rfl ?_;obtain⟨aP,bk,aQ⟩:=bs bj;refine zg 2 rfl ?_;refine JS.cl (Nt (an.mono (O.trans K)) (ai.mono (O.trans K)) bc bk) rfl rfl (Aw func136 rfl) ak ?_;rintro bl bT _ W ⟨_,rfl,rfl,aR⟩ aB;refine zg 5 rfl ?_;refine JL.Y (v:= .bool aP.isSome) rfl (fun ρ h=>Yl.Kz underlying149 aR (h _ _ rfl) (h _ _ rfl)) ?_;refine JL.done ?_;refine JL.split (t:=aP.isSome) rfl (fun aC=>?_) (fun aC=>?_)
        ·have bm:=ip aQ aC;refine zg 5 rfl ?_;obtain rfl:=oi bm;obtain rfl:=ag _ aa;have bn:=elim_inl ae;obtain rfl:=oi bn;refine JL.rt func113 rfl rfl ?_;exact Z _ _ _ _ ((O.trans K).trans W) rfl ⟨bl,rfl,rfl,aR⟩ aB
        ·have bo:=ib aQ aC;refine zg 4 rfl ?_;refine JL.fd underlying24 (Ag type22) rfl rfl rfl ?_;refine JL.ld 1 (ab.mono (K.trans W)) (An underlying22) rfl rfl rfl ?_;obtain⟨bp,bq,aS⟩:=bs bo;refine zg 1 rfl ?_;refine JS.BV (ai.mono ((O.trans K).trans W)) bq rfl rfl rfl rfl rfl underlying22 (Ag type28) ?_;rintro bU bV _ ⟨bW,bX,rfl,bY⟩ br;refine JL.ld 0 br (An underlying28) rfl rfl rfl ?_;refine JL.Y rfl (fun ρ h=>Yl.len rfl underlying28 (h _ _ rfl)) ?_;refine zg 2 rfl ?_;refine JL.ifs (p:=3<((bp).length:Int)) rfl (fun aD=>?_) (fun aD=>?_)
         ·have bu:=ip aS aD;refine zg 3 rfl ?_;refine JL.Y (v:= .agg #[iV 6,iV U]) rfl (fun ρ h=>Yl.Ci [(0,1),(1,1)] h (AN type183) underlying183 ⟨rfl,Ag type39,rfl,Ag type3,trivial⟩ rfl rfl) ?_;refine JL.Y (v:= .iface 183 (.agg #[iV 6,iV U])) rfl (fun ρ h=>Yl.Dt underlying183 (fun _ h=>by cases h) (h _ _ rfl)) ?_;refine zg 2 rfl ?_;obtain rfl:=oi bu;obtain rfl:=ag _ aa;have bv:=elim_inl ae;obtain rfl:=oi bv;refine JL.rt func113 rfl rfl ?_;exact Z _ _ _ _ ((O.trans K).trans W) rfl ⟨.iface 183 (.agg #[iV 6,iV U]),rfl,rfl,rfl⟩ aB
         ·have bw:=im aS aD;refine zg 2 rfl ?_;refine JG.Dm 7 mixed rfl (by decide+kernel) fun ht=>?_;refine JG.Bx 0 ht (ab.mono (K.trans W)) (An underlying24) (Ag type24) rfl rfl rfl ?_;refine JG.mv 1 ht rfl rfl ?_;refine JG.fd 2 ht underlying24 (Ag type22) rfl rfl rfl rfl ?_;refine JG.ld 3 ht 1 (ab.mono (K.trans W)) (An underlying22) rfl rfl rfl rfl ?_;refine JG.mv 4 ht rfl rfl ?_;obtain⟨bZ,bx,bz⟩:=bs bw;refine JG.idx 5 (ai.mono ((O.trans K).trans W)) bx rfl ht (by decide+kernel) rfl rfl rfl rfl rfl underlying22 (Ag type28) ?_;rintro b0 b1 _ ⟨b2,b3,rfl,bA⟩ bB;refine JG.ld 6 ht 0 bB (An underlying28) rfl rfl rfl rfl ?_;refine Au.leaf (tail:= [7,8]) (by decide+kernel) (fun t=>A7 (by decide+kernel) (A7 (by decide+kernel) BU) t) ?_;obtain⟨aT,bC,aU⟩:=bs bz;refine JS.cl (Nt (an.mono ((O.trans K).trans W)) (ai.mono ((O.trans K).trans W)) bA bC) rfl rfl (Aw func136 rfl) aB ?_;rintro bD bE _ aV ⟨_,rfl,rfl,aW⟩ aX;refine zg 5 rfl ?_;refine JL.Y (v:= .bool aT.isSome) rfl (fun ρ h=>Yl.Kz underlying149 aW (h _ _ rfl) (h _ _ rfl)) ?_;refine JL.done ?_;refine JL.split (t:=aT.isSome) rfl (fun aE=>?_) (fun aE=>?_)
          ·have bF:=ip aU aE;refine zg 5 rfl ?_;obtain rfl:=oi bF;obtain rfl:=ag _ aa;have bG:=elim_inl ae;obtain rfl:=oi bG;refine JL.rt func113 rfl rfl ?_;exact Z _ _ _ _ (((O.trans K).trans W).trans aV) rfl ⟨bD,rfl,rfl,aW⟩ aX
          ·have bH:=ib aU aE;obtain⟨bI,bJ,bK⟩:=bs bH;refine zg 3 rfl ?_;refine JL.Y rfl (fun ρ h=>Yl.A6 (h _ _ rfl) (h _ _ rfl) bJ) ?_;refine zg 2 rfl ?_;obtain rfl:=oi bK;exact JL.kw (a9 _ _ bI ⟨bE,rfl,rfl,((K.trans W).trans aV),aX⟩ aa) rfl
     ·have bL:=im aw ay;refine JL.exit rfl ?_;obtain rfl:=oi bL;have bM:aJ=(Sum.inr ()):=(ag _ aa).symm;exact JL.kw (a8 _ _ ⟨(),av,bM,rfl,rfl,K,ak⟩) rfl
def ID(fuel:Nat)(p0:BD)(p1:AT)(K:Int):Option (A8 (Int) (((Option (Int×Int)))⊕(Unit))):=
 if K<((p1).length:Int) then(
  (ix p1 (K)).bind fun O=>
  (f101 fuel O.1 0 6).bind fun U=>
  if U=true then(
   some (.done (Sum.inl (some (1,K))))
  ) else(
   Option.bind (
    if 0<K then(
     (Ay (K - 1)).bind fun W=>
     (ix p1 (W)).bind fun Z=>
     some (decide (O.1<Z.1))
    ) else(
     some false
    )
   ) fun aa=>
   if aa=true then(
    some (.done (Sum.inl (some (5,K))))
   ) else(
    (Ay (((p0.1).length:Int) - 1)).bind fun ab=>
    (f101 fuel O.2 0 ab).bind fun ae=>
    if ae=true then(
     some (.done (Sum.inl (some (3,K))))
    ) else(
     (Ay (K+1)).bind fun ag=>
     some (.more ag)
    )
   )
  )
 ) else(
  some (.done (Sum.inr ()))
 )
def f116(fuel:Nat)(p0:BD)(p1:AT):Option ((Option (Int×Int))):=
 if 4<((p1).length:Int) then(
  some (some (6,0))
 ) else(
  Option.bind (iter (ID fuel p0 p1) fuel 0) fun K=>
  Sum.elim (fun r=>some r) (fun O=>
  some none
  ) K
 )
theorem Sp{aj:Ar}{c2:Nat}{ak:Ar}{al:Nat}{O:Ar}{U:Nat}{p0:BD}{p1:AT}(bI:Ao (rL rI) E aj c2 (p0.1))(bJ:Ao (rL rI) E ak al (p0.2))(aC:Ao Bl E O U (p1)){fuel:Nat}{r:(Option (Int×Int))}(am:f116 fuel p0 p1=some r):As J 116 [.agg #[.slice aj (p0.1).length c2,.slice ak (p0.2).length al],.slice O (p1).length U] E [] (fun w E' B'=>∃(aD:Value),w=aD∧B'= []∧Gb 183 aD (r)):=by
 refine As.en func116 rfl rfl fun Q bK cs H aS ag=>?_;unfold f116 at am;refine zg 2 rfl ?_;refine JS.box (v:= .agg #[.slice aj (p0.1).length c2,.slice ak (p0.2).length al]) rfl rfl rfl aS rfl fun an aT=>?_;refine JS.Bo 1 aT rfl fun ao aa aU aE=>?_;refine zg 6 rfl ?_;refine JL.Y rfl (fun ρ h=>Yl.len rfl underlying25 (h _ _ rfl)) ?_;refine zg 2 rfl ?_;refine JL.ifs (p:=4<((p1).length:Int)) rfl (fun ap=>?_) (fun ap=>?_)
 ·have aV:=ip am ap;refine zg 2 rfl ?_;refine JL.Y (v:= .agg #[iV 6,iV 0]) rfl (fun ρ h=>Yl.Ci [(0,1),(1,1)] h (AN type183) underlying183 ⟨rfl,Ag type39,rfl,Ag type3,trivial⟩ rfl rfl) ?_;refine JL.Y (v:= .iface 183 (.agg #[iV 6,iV 0])) rfl (fun ρ h=>Yl.Dt underlying183 (fun _ h=>by cases h) (h _ _ rfl)) ?_;refine zg 2 rfl ?_;obtain rfl:=oi aV;refine JL.rt func116 rfl rfl ?_;exact ag _ _ _ _ aa rfl ⟨.iface 183 (.agg #[iV 6,iV 0]),rfl,rfl,rfl⟩ aE
 ·have aW:=im am ap;refine zg 5 rfl ?_;refine JL.Y rfl (fun ρ h=>Yl.len rfl underlying25 (h _ _ rfl)) ?_;obtain⟨aF,aX,ah⟩:=bs aW;refine zg 2 rfl ?_;refine JL.join (fun L s=>∃(aG:Unit) (aH:LH),aF=Sum.inr aG∧Jm ao H aH [] [] L s) ?_ ?_
  ·rintro _ _ ⟨aG,aH,rfl,rfl,rfl,aY,aZ⟩;have a0:=elim_inr ah;refine zg 4 rfl ?_;obtain rfl:=oi a0;refine JL.rt func116 rfl rfl ?_;exact ag _ _ _ _ (aa.trans aY) rfl ⟨.nilIface,rfl,rfl,rfl⟩ aZ
  ·intro a1;refine JL.block ?_;refine JL.wk [(1,.slice O (p1).length U),(2,.pointer (some ⟨an,0,none⟩)),(12,.slice O (p1).length U),(13,iV ((p1).length:Int)),(14,iV 0)] rfl ?_;refine JL.Bq aX (fun L s K=>∃(aq:LH),Jm ao H aq [] [(1,.slice O (p1).length U),(2,.pointer (some ⟨an,0,none⟩)),(12,.slice O (p1).length U),(13,iV ((p1).length:Int)),(14,iV K)] L s) ⟨ao,rfl,rfl,(Le.refl _),aE⟩ ?_;rintro _ _ K ⟨aq,rfl,rfl,W,aI⟩ ai ⟨bL,ab⟩ a2;have ar:=ab;unfold ID at ar;refine zg 5 rfl ?_;refine JL.ifs (p:=K<((p1).length:Int)) rfl (fun au=>?_) (fun au=>?_)
   ·have a3:=ip ar au;obtain⟨aJ,a4,a5⟩:=bs a3;refine zg 6 rfl ?_;refine JS.BV (aC.mono (aa.trans W)) a4 rfl rfl rfl rfl rfl underlying25 (Ag type27) ?_;rintro bM bN _ ⟨_,_,rfl,rfl,rfl⟩ a6;refine JL.Bx a6 (An underlying27) (Ag type27) rfl rfl ?_;refine JS.alloc rfl rfl rfl aI (AN type27) fun a7 a8=>?_;refine zg 1 rfl ?_;refine JS.st (v:= .agg #[iV aJ.1,iV aJ.2]) (off:=0) 0 a8 (Ag type27) rfl rfl rfl rfl fun a9=>?_;refine JS.Bo 0 a9 rfl fun bO ae av ba=>?_;refine zg 4 rfl ?_;refine JL.fd underlying27 (Ag type3) rfl rfl rfl ?_;refine JL.ld 0 av (An underlying3) rfl rfl rfl ?_;obtain⟨bb,bc,aK⟩:=bs a5;refine JS.cl (Gn bc) rfl rfl (Aw func101 rfl) ba ?_;rintro _ bd _ Z ⟨rfl,rfl⟩ aw;refine zg 2 rfl ?_;refine JL.split (t:=bb) rfl (fun ay=>?_) (fun ay=>?_)
    ·have bf:=ip aK ay;refine zg 3 rfl ?_;refine JL.Y (v:= .agg #[iV 1,iV K]) rfl (fun ρ h=>Yl.Ci [(0,1),(1,1)] h (AN type183) underlying183 ⟨rfl,Ag type39,rfl,Ag type3,trivial⟩ rfl rfl) ?_;refine JL.Y (v:= .iface 183 (.agg #[iV 1,iV K])) rfl (fun ρ h=>Yl.Dt underlying183 (fun _ h=>by cases h) (h _ _ rfl)) ?_;refine zg 2 rfl ?_;obtain rfl:=oi bf;obtain rfl:=ai _ ab;have bg:=elim_inl ah;obtain rfl:=oi bg;refine JL.rt func116 rfl rfl ?_;exact ag _ _ _ _ (((aa.trans W).trans ae).trans Z) rfl ⟨.iface 183 (.agg #[iV 1,iV K]),rfl,rfl,rfl⟩ aw
    ·have bh:=ib aK ay;refine JL.seq ?_;refine JG.Dm 13 mixed rfl (by decide+kernel) fun ht=>?_;refine JG.ms ht rfl [0,1,2] rfl ?_;obtain⟨aL,aM,aN⟩:=bs bh;refine Au.join 1 #[true,true,true,true,true,true,true,true,true,true,true,true,true,false] (fun L s=>L= [(1,.slice O (p1).length U),(2,.pointer (some ⟨an,0,none⟩)),(5,iV K),(6,.pointer (some ⟨a7,0,none⟩)),(12,.slice O (p1).length U),(13,iV ((p1).length:Int)),(14,iV K),(39,.bool aL)]∧s=Am bd H [[],[]]) ?_ ?_
     ·rintro _ _ ⟨rfl,rfl⟩;refine Au.leaf (tail:= [13]) (by decide+kernel) (fun t=>A7 (by decide+kernel) BU t) ?_;refine zg 2 rfl ?_;refine JL.split (t:=aL) rfl (fun az=>?_) (fun az=>?_)
      ·have bi:=ip aN az;refine zg 3 rfl ?_;refine JL.Y (v:= .agg #[iV 5,iV K]) rfl (fun ρ h=>Yl.Ci [(0,1),(1,1)] h (AN type183) underlying183 ⟨rfl,Ag type39,rfl,Ag type3,trivial⟩ rfl rfl) ?_;refine JL.Y (v:= .iface 183 (.agg #[iV 5,iV K])) rfl (fun ρ h=>Yl.Dt underlying183 (fun _ h=>by cases h) (h _ _ rfl)) ?_;refine zg 2 rfl ?_;obtain rfl:=oi bi;obtain rfl:=ai _ ab;have bj:=elim_inl ah;obtain rfl:=oi bj;refine JL.rt func116 rfl rfl ?_;exact ag _ _ _ _ (((aa.trans W).trans ae).trans Z) rfl ⟨.iface 183 (.agg #[iV 5,iV K]),rfl,rfl,rfl⟩ aw
      ·have bk:=ib aN az;refine zg 2 rfl ?_;refine JL.fd underlying27 (Ag type3) rfl rfl rfl ?_;refine JL.ld 1 (av.mono Z) (An underlying3) rfl rfl rfl ?_;refine JL.fd underlying24 (Ag type22) rfl rfl rfl ?_;refine JL.ld 0 (aU.mono ((W.trans ae).trans Z)) (An underlying22) rfl rfl rfl ?_;refine JL.Y rfl (fun ρ h=>Yl.len rfl underlying22 (h _ _ rfl)) ?_;obtain⟨bP,bl,bm⟩:=bs bk;refine JL.Y rfl (fun ρ h=>Yl.Ba (h _ _ rfl) (h _ _ rfl) bl) ?_;obtain⟨bn,bo,aO⟩:=bs bm;refine JS.cl (Gn bo) rfl rfl (Aw func101 rfl) aw ?_;rintro _ bp _ aP ⟨rfl,rfl⟩ aQ;refine zg 2 rfl ?_;refine JL.split (t:=bn) rfl (fun aA=>?_) (fun aA=>?_)
       ·have bq:=ip aO aA;refine zg 3 rfl ?_;refine JL.Y (v:= .agg #[iV 3,iV K]) rfl (fun ρ h=>Yl.Ci [(0,1),(1,1)] h (AN type183) underlying183 ⟨rfl,Ag type39,rfl,Ag type3,trivial⟩ rfl rfl) ?_;refine JL.Y (v:= .iface 183 (.agg #[iV 3,iV K])) rfl (fun ρ h=>Yl.Dt underlying183 (fun _ h=>by cases h) (h _ _ rfl)) ?_;refine zg 2 rfl ?_;obtain rfl:=oi bq;obtain rfl:=ai _ ab;have br:=elim_inl ah;obtain rfl:=oi br;refine JL.rt func116 rfl rfl ?_;exact ag _ _ _ _ ((((aa.trans W).trans ae).trans Z).trans aP) rfl ⟨.iface 183 (.agg #[iV 3,iV K]),rfl,rfl,rfl⟩ aQ
       ·have bu:=ib aO aA;obtain⟨bv,bw,bx⟩:=bs bu;refine zg 4 rfl ?_;refine JL.Y rfl (fun ρ h=>Yl.A6 (h _ _ rfl) (h _ _ rfl) bw) ?_;refine zg 2 rfl ?_;obtain rfl:=oi bx;exact JL.kw (a2 _ _ bv ⟨bp,rfl,rfl,(((W.trans ae).trans Z).trans aP),aQ⟩ ab) rfl
     ·intro aR;refine Au.Cm (q:=0<K) (i:=29) rfl (fun aB=>?_) (fun aB=>?_)
      ·have bz:=ip aM aB;refine JG.fd 3 ht underlying27 (Ag type3) rfl rfl rfl rfl ?_;refine JG.ld 4 ht 0 (av.mono Z) (An underlying3) rfl rfl rfl rfl ?_;refine JG.ms ht rfl [5,6] rfl ?_;obtain⟨bQ,bA,bB⟩:=bs bz;refine JG.V 7 ht rfl rfl (fun ρ h s' hs=>Yl.Ba (h _ _ rfl) (h _ _ rfl) bA) ?_;obtain⟨bR,bC,bD⟩:=bs bB;refine JG.idx 8 (aC.mono (((aa.trans W).trans ae).trans Z)) bC rfl ht (by decide+kernel) rfl rfl rfl rfl rfl underlying25 (Ag type27) ?_;rintro bS bT _ ⟨_,_,rfl,rfl,rfl⟩ bE;refine JG.fd 9 ht underlying27 (Ag type3) rfl rfl rfl rfl ?_;refine JG.ld 10 ht 0 bE (An underlying3) rfl rfl rfl rfl ?_;refine JG.ms ht rfl [11,12] rfl ?_;obtain rfl:=oi bD;refine Au.Cc ?_ (aR _ _ ⟨rfl,rfl⟩);exact⟨rfl,rfl,rfl,rfl,rfl,rfl,rfl,rfl,trivial⟩
      ·have bF:=im aM aB;refine JG.ms ht rfl [3,4,5,6,7,8,9,10,11,12] rfl ?_;obtain rfl:=oi bF;refine Au.Cc ?_ (aR _ _ ⟨rfl,rfl⟩);exact⟨rfl,rfl,rfl,rfl,rfl,rfl,rfl,rfl,trivial⟩
   ·have bG:=im ar au;refine JL.exit rfl ?_;obtain rfl:=oi bG;have bH:aF=(Sum.inr ()):=(ai _ ab).symm;exact JL.kw (a1 _ _ ⟨(),aq,bH,rfl,rfl,W,aI⟩) rfl
end Pal
namespace Pal
open Go Go.Conc Go.Proofs
open Go.Proofs.Tryz
variable {J:Judge Tryz.prog}{E:LH}
def f135(fuel:Nat):Option (Bool):=
 some false
theorem Sq{O:Value}{fuel:Nat}{r:Bool}(K:f135 fuel=some r):As J 135 [.nilIface,O] E [] (fun w E' B'=>w= .bool r∧B'= []):=by
 refine As.en func135 rfl rfl fun Q Z cs H U W=>?_;unfold f135 at K;refine zg 8 rfl ?_;refine JL.Y (v:= .bool true) rfl (fun ρ h=>Yl.Sz underlying149 (show Gb 0 .nilIface none from rfl) (h _ _ rfl) (h _ _ rfl)) ?_;refine zg 6 rfl ?_;obtain rfl:=oi K;refine JL.rt func135 rfl rfl ?_;exact W _ _ _ _ (Le.refl _) rfl ⟨rfl,rfl⟩ U
def f112(fuel:Nat):Option (Int):=
 (f135 fuel).bind fun K=>
 if K=true then(
  some 0
 ) else(
  some 0
 )
theorem Si{fuel:Nat}{r:Int}(U:f112 fuel=some r):As J 112 [.nilIface] E [] (fun w E' B'=>w=iV r∧B'= []):=by
 refine As.en func112 rfl rfl fun Q an cs H ab W=>?_;unfold f112 at U;refine zg 6 rfl ?_;refine JS.alloc rfl rfl rfl ab (AN type183) fun ae ag=>?_;refine zg 5 rfl ?_;refine JL.Y (v:=(.iface 185 (.pointer (some ⟨ae,0,none⟩)))) rfl (fun ρ h=>Yl.Dt underlying185 (fun _ h=>by cases h) (h _ _ rfl)) ?_;obtain⟨ah,ai,Z⟩:=bs U;refine JS.cl (Sq ai) rfl rfl (Aw func135 rfl) ag ?_;rintro _ ao _ aa ⟨rfl,rfl⟩ K;refine JL.done ?_;refine JL.split (t:=ah) rfl (fun O=>?_) (fun O=>?_)
 ·have aj:=ip Z O;refine zg 2 rfl ?_;refine JL.fd underlying183 (Ag type39) rfl rfl rfl ?_;refine JL.Y (v:=iV 0) rfl (fun ρ h=>Yl.load (An underlying39) (h _ _ rfl) (CH (j:=1) (off:=0) K rfl rfl)) ?_;refine zg 2 rfl ?_;refine JS.drop 1 K rfl fun ak=>?_;obtain rfl:=oi aj;refine JL.rt func112 rfl rfl ?_;exact W _ _ _ _ aa rfl ⟨rfl,rfl⟩ ak
 ·have al:=ib Z O;refine zg 5 rfl ?_;refine JS.drop 1 K rfl fun am=>?_;obtain rfl:=oi al;refine JL.rt func112 rfl rfl ?_;exact W _ _ _ _ aa rfl ⟨rfl,rfl⟩ am
def Ha(fuel:Nat)(p0:Option (Int×Int)):Option Int:=match p0 with
 | none=>f112 fuel
 | some _=>none
theorem Kl{v:Value}{p0:Option (Int×Int)}(h:Gb 183 v p0){fuel:Nat}{r:Int}(K:Ha fuel p0=some r):As J 112 [v] E [] (fun w E' B'=>w=iV r∧B'= []):=by
 cases p0 with
 | none=>obtain rfl:v= .nilIface:=h;exact Si K
 | some _=>cases K
end Pal
namespace Pal
open Go Go.Conc Go.Proofs
open Go.Proofs.Tryz
variable {J:Judge Tryz.prog}{E:LH}
def f67(fuel:Nat)(p0:BD):Option (Int):=
 (f113 fuel p0).bind fun K=>
 (Ha fuel K).bind fun O=>
 some O
theorem SV{K:Ar}{c2:Nat}{O:Ar}{U:Nat}{p0:BD}(aa:Ao (rL rI) E K c2 (p0.1))(ab:Ao (rL rI) E O U (p0.2)){fuel:Nat}{r:Int}(Z:f67 fuel p0=some r):As J 67 [.agg #[.slice K (p0.1).length c2,.slice O (p0.2).length U]] E [] (fun w E' B'=>w=iV r∧B'= []):=by
 refine As.en func67 rfl rfl fun Q av cs H ae ag=>?_;unfold f67 at Z;refine zg 2 rfl ?_;refine JS.box (v:= .agg #[.slice K (p0.1).length c2,.slice O (p0.2).length U]) rfl rfl rfl ae rfl fun aw ah=>?_;refine JS.Bo 1 ah rfl fun ay W ai aj=>?_;refine zg 4 rfl ?_;refine JL.Bx ai (An underlying24) (Ag type24) rfl rfl ?_;obtain⟨az,ak,al⟩:=bs Z;refine JS.cl (Nh (aa.mono W) (ab.mono W) ak) rfl rfl (Aw func113 rfl) aj ?_;rintro aA aB _ am ⟨_,rfl,rfl,an⟩ ao;obtain⟨aC,ap,aq⟩:=bs al;refine JS.cl (Kl an ap) rfl rfl (Aw func112 rfl) ao ?_;rintro _ aD _ ar ⟨rfl,rfl⟩ au;refine zg 2 rfl ?_;obtain rfl:=oi aq;refine JL.rt func67 rfl rfl ?_;exact ag _ _ _ _ ((W.trans am).trans ar) rfl ⟨rfl,rfl⟩ au
def f69(fuel:Nat)(p0:BD)(p1:AT):Option (Int):=
 (f113 fuel p0).bind fun K=>
 if K.isSome=true then(
  (Ha fuel K).bind fun O=>
  some O
 ) else(
  (f116 fuel p0 p1).bind fun U=>
  (Ha fuel U).bind fun W=>
  some W
 )
theorem HS{U:Ar}{c2:Nat}{W:Ar}{Z:Nat}{ab:Ar}{ae:Nat}{p0:BD}{p1:AT}(ag:Ao (rL rI) E U c2 (p0.1))(ah:Ao (rL rI) E W Z (p0.2))(ap:Ao Bl E ab ae (p1)){fuel:Nat}{r:Int}(ai:f69 fuel p0 p1=some r):As J 69 [.agg #[.slice U (p0.1).length c2,.slice W (p0.2).length Z],.slice ab (p1).length ae] E [] (fun w E' B'=>w=iV r∧B'= []):=by
 refine As.en func69 rfl rfl fun Q aM cs H aq aj=>?_;unfold f69 at ai;refine zg 2 rfl ?_;refine JS.box (v:= .agg #[.slice U (p0.1).length c2,.slice W (p0.2).length Z]) rfl rfl rfl aq rfl fun aN ar=>?_;refine JS.Bo 1 ar rfl fun aO K ak au=>?_;refine zg 5 rfl ?_;refine JL.Bx ak (An underlying24) (Ag type24) rfl rfl ?_;obtain⟨al,av,am⟩:=bs ai;refine JS.cl (Nh (ag.mono K) (ah.mono K) av) rfl rfl (Aw func113 rfl) au ?_;rintro aP aQ _ O ⟨_,rfl,rfl,an⟩ ao;refine zg 5 rfl ?_;refine JL.Y (v:= .bool al.isSome) rfl (fun ρ h=>Yl.Kz underlying149 an (h _ _ rfl) (h _ _ rfl)) ?_;refine JL.done ?_;refine JL.split (t:=al.isSome) rfl (fun aa=>?_) (fun aa=>?_)
 ·have aw:=ip am aa;obtain⟨aR,ay,az⟩:=bs aw;refine zg 3 rfl ?_;refine JS.cl (Kl an ay) rfl rfl (Aw func112 rfl) ao ?_;rintro _ aS _ aA ⟨rfl,rfl⟩ aB;refine zg 2 rfl ?_;obtain rfl:=oi az;refine JL.rt func69 rfl rfl ?_;exact aj _ _ _ _ ((K.trans O).trans aA) rfl ⟨rfl,rfl⟩ aB
 ·have aC:=ib am aa;refine zg 3 rfl ?_;refine JL.Bx (ak.mono O) (An underlying24) (Ag type24) rfl rfl ?_;obtain⟨aT,aD,aE⟩:=bs aC;refine zg 1 rfl ?_;refine JS.cl (Sp (ag.mono (K.trans O)) (ah.mono (K.trans O)) (ap.mono (K.trans O)) aD) rfl rfl (Aw func116 rfl) ao ?_;rintro aU aV _ aF ⟨_,rfl,rfl,aG⟩ aH;obtain⟨aW,aI,aJ⟩:=bs aE;refine JS.cl (Kl aG aI) rfl rfl (Aw func112 rfl) aH ?_;rintro _ aX _ aK ⟨rfl,rfl⟩ aL;refine zg 2 rfl ?_;obtain rfl:=oi aJ;refine JL.rt func69 rfl rfl ?_;exact aj _ _ _ _ (((K.trans O).trans aF).trans aK) rfl ⟨rfl,rfl⟩ aL
def M5(fuel:Nat)(p0:Br)(O:(List Int))(K:Nat×Int):Option (A8 (Nat×Int) (Nat)):=
 if K.2<((O).length:Int) then(
  (ix O (K.2)).bind fun U=>
  (ix p0.1 (U)).bind fun W=>
  (f120 fuel W).bind fun Z=>
  (GC (K.1) (Z)).bind fun aa=>
  (Ay (K.2+1)).bind fun ab=>
  some (.more (aa,ab))
 ) else(
  some (.done K.1)
 )
def f121(fuel:Nat)(p0:Br)(p1:Nat):Option (Nat):=
 (f89 fuel p1).bind fun K=>
 Option.bind (iter (M5 fuel p0 K) fuel (0,0)) fun O=>
 some O
theorem RS{k1:Nat}{U:Nat}{ai:Ar}{aj:Nat}{ak:Ar}{al:Nat}{am:List Value}{p0:Br}{p1:Nat}(av:At E k1 U (([.slice ai (p0.1).length aj,.slice ak (p0.2.1).length al]:List Value)++am))(aw:Ao (rL rI) E ai aj (p0.1))(a5:Ao (rL rI) E ak al (p0.2.1))(a6:(rA 13 (rN .u16)).r E am (p0.2.2)){fuel:Nat}{r:Nat}(an:f121 fuel p0 p1=some r):As J 121 [.pointer (some ⟨k1,U,none⟩),.int .u16 ((p1:Nat):Int)] E [] (fun w E' B'=>w= .int .u16 ((r:Nat):Int)∧B'= []):=by
 refine As.en func121 rfl rfl fun Q a7 cs H ay az=>?_;unfold f121 at an;obtain⟨K,aA,aB⟩:=bs an;refine zg 12 rfl ?_;refine JS.cl (Gr aA) rfl rfl (Aw func89 rfl) ay ?_;rintro _ Z _ aa ⟨ao,ap,rfl,rfl,aC⟩ aD;refine JL.Y rfl (fun ρ h=>Yl.len rfl underlying28 (h _ _ rfl)) ?_;obtain⟨aE,aF,aG⟩:=bs aB;refine zg 2 rfl ?_;refine JL.join (fun L s=>∃(aq:LH),Jm Z H aq [] [(5,.int .u16 ((aE:Nat):Int))] L s) ?_ ?_
 ·rintro _ _ ⟨aq,rfl,rfl,aH,aI⟩;refine zg 5 rfl ?_;obtain rfl:=oi aG;refine JL.rt func121 rfl rfl ?_;exact az _ _ _ _ (aa.trans aH) rfl ⟨rfl,rfl⟩ aI
 ·intro aJ;refine JL.block ?_;refine JL.wk [(0,.pointer (some ⟨k1,U,none⟩)),(5,.int .u16 ((0:Nat):Int)),(9,.slice ao (K).length ap),(10,iV ((K).length:Int)),(11,iV 0)] rfl ?_;refine JL.Bq aF (fun L s W=>∃(ab:LH),Jm Z H ab [] [(0,.pointer (some ⟨k1,U,none⟩)),(5,.int .u16 ((W.1:Nat):Int)),(9,.slice ao (K).length ap),(10,iV ((K).length:Int)),(11,iV W.2)] L s) ⟨Z,rfl,rfl,(Le.refl _),aD⟩ ?_;rintro _ _ W ⟨ab,rfl,rfl,O,ar⟩ aK ⟨a8,ae⟩ aL;have ag:=ae;unfold M5 at ag;refine zg 5 rfl ?_;refine JL.ifs (p:=W.2<((K).length:Int)) rfl (fun ah=>?_) (fun ah=>?_)
  ·have aM:=ip ag ah;obtain⟨a9,aN,aO⟩:=bs aM;refine zg 5 rfl ?_;refine JS.BV (aC.mono O) aN rfl rfl rfl rfl rfl underlying28 (Ag type3) ?_;rintro ba bb _ rfl aP;refine JL.ld 0 aP (An underlying3) rfl rfl rfl ?_;refine zg 6 rfl ?_;refine JL.fd underlying141 (Ag type24) rfl rfl rfl ?_;refine JL.fd underlying24 (Ag type22) rfl rfl rfl ?_;refine JL.ld 0 (av.mono (aa.trans O)) (An underlying22) rfl rfl rfl ?_;obtain⟨bc,aQ,aR⟩:=bs aO;refine zg 1 rfl ?_;refine JS.BV (aw.mono (aa.trans O)) aQ rfl rfl rfl rfl rfl underlying22 (Ag type28) ?_;rintro bd bf _ ⟨bg,bh,rfl,aS⟩ aT;refine JL.ld 0 aT (An underlying28) rfl rfl rfl ?_;obtain⟨bi,aU,aV⟩:=bs aR;refine JS.cl (G1 aS aU) rfl rfl (Aw func120 rfl) ar ?_;rintro _ aW _ aX ⟨rfl,rfl⟩ aY;obtain⟨au,aZ,a0⟩:=bs aV;refine JL.Y (v:= .int .u16 ((au:Nat):Int)) rfl (fun ρ h=>Yl.HI (h _ _ rfl) (h _ _ rfl) aZ) ?_;obtain⟨a1,a2,a3⟩:=bs a0;refine zg 4 rfl ?_;refine JL.Y rfl (fun ρ h=>Yl.A6 (h _ _ rfl) (h _ _ rfl) a2) ?_;refine zg 2 rfl ?_;obtain rfl:=oi a3;exact JL.kw (aL _ _ (au,a1) ⟨aW,rfl,rfl,(O.trans aX),aY⟩ ae) rfl
  ·have a4:=im ag ah;refine JL.exit rfl ?_;obtain rfl:=oi a4;obtain rfl:=aK _ ae;exact JL.kw (aJ _ _ ⟨ab,rfl,rfl,O,ar⟩) rfl
def f130(fuel:Nat)(p0:Bz):Option (Int):=
 (f89 fuel p0.2.2).bind fun K=>
 some ((K).length:Int)
theorem Rv{K:Ar}{c2:Nat}{p0:Bz}(ak:Ao rI E K c2 (p0.2.1)){fuel:Nat}{r:Int}(O:f130 fuel p0=some r):As J 130 [.agg #[iV p0.1,.slice K (p0.2.1).length c2,.int .u16 ((p0.2.2:Nat):Int)]] E [] (fun w E' B'=>w=iV r∧B'= []):=by
 refine As.en func130 rfl rfl fun Q al cs H U W=>?_;unfold f130 at O;refine zg 2 rfl ?_;refine JS.box (v:= .agg #[iV p0.1,.slice K (p0.2.1).length c2,.int .u16 ((p0.2.2:Nat):Int)]) rfl rfl rfl U rfl fun am Z=>?_;refine JS.Bo 1 Z rfl fun an aa ab ae=>?_;refine zg 4 rfl ?_;refine JL.fd underlying104 (Ag type102) rfl rfl rfl ?_;refine JL.ld 2 ab (An underlying102) rfl rfl rfl ?_;obtain⟨ao,ag,ah⟩:=bs O;refine JS.cl (Gr ag) rfl rfl (Aw func89 rfl) ae ?_;rintro _ ap _ ai ⟨aq,ar,rfl,rfl,au⟩ aj;refine JL.Y rfl (fun ρ h=>Yl.len rfl underlying28 (h _ _ rfl)) ?_;refine zg 2 rfl ?_;obtain rfl:=oi ah;refine JL.rt func130 rfl rfl ?_;exact W _ _ _ _ (aa.trans ai) rfl ⟨rfl,rfl⟩ aj
def M9(fuel:Nat)(p0:List (Bz))(K:Nat×Int):Option (A8 (Nat×Int) (Nat)):=
 if K.2<((p0).length:Int) then(
  (ix p0 (K.2)).bind fun O=>
  (f90 fuel K.1 O.1).bind fun U=>
  (Ay (K.2+1)).bind fun W=>
  some (.more (U,W))
 ) else(
  some (.done K.1)
 )
def f87(fuel:Nat)(p0:List (Bz)):Option (Nat):=
 Option.bind (iter (M9 fuel p0) fuel (0,0)) fun K=>
 some K
theorem Sy{K:Ar}{c2:Nat}{p0:List (Bz)}(aj:Ao Cj E K c2 (p0)){fuel:Nat}{r:Nat}(ag:f87 fuel p0=some r):As J 87 [.slice K (p0).length c2] E [] (fun w E' B'=>w= .int .u16 ((r:Nat):Int)∧B'= []):=by
 refine As.en func87 rfl rfl fun Q aS cs H ak al=>?_;unfold f87 at ag;refine zg 12 rfl ?_;refine JL.Y rfl (fun ρ h=>Yl.len rfl underlying95 (h _ _ rfl)) ?_;obtain⟨am,an,ao⟩:=bs ag;refine zg 2 rfl ?_;refine JL.join (fun L s=>∃(ah:LH),Jm E H ah [] [(3,.int .u16 ((am:Nat):Int))] L s) ?_ ?_
 ·rintro _ _ ⟨ah,rfl,rfl,ap,aq⟩;refine zg 5 rfl ?_;obtain rfl:=oi ao;refine JL.rt func87 rfl rfl ?_;exact al _ _ _ _ ap rfl ⟨rfl,rfl⟩ aq
 ·intro ar;refine JL.block ?_;refine JL.wk [(3,.int .u16 ((0:Nat):Int)),(6,.slice K (p0).length c2),(7,iV ((p0).length:Int)),(8,iV 0)] rfl ?_;refine JL.Bq an (fun L s O=>∃(U:LH),Jm E H U [] [(3,.int .u16 ((O.1:Nat):Int)),(6,.slice K (p0).length c2),(7,iV ((p0).length:Int)),(8,iV O.2)] L s) ⟨E,rfl,rfl,(Le.refl _),ak⟩ ?_;rintro _ _ O ⟨U,rfl,rfl,W,ai⟩ au ⟨aT,Z⟩ av;have aa:=Z;unfold M9 at aa;refine zg 5 rfl ?_;refine JL.ifs (p:=O.2<((p0).length:Int)) rfl (fun ab=>?_) (fun ab=>?_)
  ·have aw:=ip aa ab;obtain⟨ae,ay,az⟩:=bs aw;refine zg 5 rfl ?_;refine JS.BV (aj.mono W) ay rfl rfl rfl rfl rfl underlying95 (Ag type104) ?_;rintro aU aV _ ⟨_,_,rfl,rfl,⟨_,_,rfl,⟨aA,aB,rfl,aW⟩,rfl⟩⟩ aC;refine JL.Bx aC (An underlying104) (Ag type104) rfl rfl ?_;refine JS.alloc rfl rfl rfl ai (AN type104) fun aX aD=>?_;refine JS.st (v:= .agg #[iV ae.1,.slice aA (ae.2.1).length aB,.int .u16 ((ae.2.2:Nat):Int)]) (off:=0) 0 aD (Ag type104) rfl rfl rfl rfl fun aE=>?_;refine JS.Bo 0 aE rfl fun aY aF aG aH=>?_;refine zg 3 rfl ?_;refine JL.fd underlying104 (Ag type3) rfl rfl rfl ?_;refine JL.ld 0 aG (An underlying3) rfl rfl rfl ?_;obtain⟨aI,aJ,aK⟩:=bs az;refine JS.cl (Jf aJ) rfl rfl (Aw func90 rfl) aH ?_;rintro _ aL _ aM ⟨rfl,rfl⟩ aN;obtain⟨aO,aP,aQ⟩:=bs aK;refine zg 4 rfl ?_;refine JL.Y rfl (fun ρ h=>Yl.A6 (h _ _ rfl) (h _ _ rfl) aP) ?_;refine zg 2 rfl ?_;obtain rfl:=oi aQ;exact JL.kw (av _ _ (aI,aO) ⟨aL,rfl,rfl,((W.trans aF).trans aM),aN⟩ Z) rfl
  ·have aR:=im aa ab;refine JL.exit rfl ?_;obtain rfl:=oi aR;obtain rfl:=au _ Z;exact JL.kw (ar _ _ ⟨U,rfl,rfl,W,ai⟩) rfl
def Ni(fuel:Nat)(p0:Br)(O:Int)(K:Nat×Int):Option (A8 (Nat×Int) (Nat)):=
 if K.2<O then(
  (f121 fuel p0 K.1).bind fun U=>
  (Ay (K.2+1)).bind fun W=>
  some (.more (U,W))
 ) else(
  some (.done K.1)
 )
def f88(fuel:Nat)(p0:Br)(p1:Bz)(p2:Int):Option (Nat):=
 (Ay (((p1.2.1).length:Int) - 1)).bind fun K=>
 if p2≤K then(
  (ix p1.2.1 (p2)).bind fun O=>
  (f120 fuel ([O]:List Int)).bind fun U=>
  some U
 ) else(
  (ix p1.2.1 (K)).bind fun W=>
  (f120 fuel ([W]:List Int)).bind fun Z=>
  (Ay (p2 - K)).bind fun aa=>
  Option.bind (iter (Ni fuel p0 aa) fuel (Z,0)) fun ab=>
  some ab
 )
theorem SL{k1:Nat}{Z:Nat}{ao:Ar}{ap:Nat}{aq:Ar}{ar:Nat}{au:List Value}{ab:Ar}{ae:Nat}{p0:Br}{p1:Bz}{p2:Int}(aF:At E k1 Z (([.slice ao (p0.1).length ap,.slice aq (p0.2.1).length ar]:List Value)++au))(aG:Ao (rL rI) E ao ap (p0.1))(aH:Ao (rL rI) E aq ar (p0.2.1))(aI:(rA 13 (rN .u16)).r E au (p0.2.2))(av:Ao rI E ab ae (p1.2.1)){fuel:Nat}{r:Nat}(aw:f88 fuel p0 p1 p2=some r):As J 88 [.pointer (some ⟨k1,Z,none⟩),.agg #[iV p1.1,.slice ab (p1.2.1).length ae,.int .u16 ((p1.2.2:Nat):Int)],iV p2] E [] (fun w E' B'=>w= .int .u16 ((r:Nat):Int)∧B'= []):=by
 refine As.en func88 rfl rfl fun Q bB cs H aJ ay=>?_;unfold f88 at aw;refine zg 2 rfl ?_;refine JS.box (v:= .agg #[iV p1.1,.slice ab (p1.2.1).length ae,.int .u16 ((p1.2.2:Nat):Int)]) rfl rfl rfl aJ rfl fun bC aK=>?_;refine JS.Bo 1 aK rfl fun bD K ag az=>?_;refine zg 4 rfl ?_;refine JL.fd underlying104 (Ag type28) rfl rfl rfl ?_;refine JL.ld 1 ag (An underlying28) rfl rfl rfl ?_;refine JL.Y rfl (fun ρ h=>Yl.len rfl underlying28 (h _ _ rfl)) ?_;obtain⟨aL,aM,aA⟩:=bs aw;refine JL.Y rfl (fun ρ h=>Yl.Ba (h _ _ rfl) (h _ _ rfl) aM) ?_;refine zg 9 rfl ?_;refine JL.ifs (p:=p2≤aL) rfl (fun ah=>?_) (fun ah=>?_)
 ·have aN:=ip aA ah;refine zg 2 rfl ?_;refine JL.fd underlying104 (Ag type28) rfl rfl rfl ?_;refine JL.ld 1 ag (An underlying28) rfl rfl rfl ?_;obtain⟨aB,aO,aP⟩:=bs aN;refine zg 1 rfl ?_;refine JS.BV (av.mono K) aO rfl rfl rfl rfl rfl underlying28 (Ag type3) ?_;rintro bE bF _ rfl aQ;refine JL.ld 0 aQ (An underlying3) rfl rfl rfl ?_;refine JS.lit (pp:=rI) [iV aB] [aB] rfl rfl rfl underlying28 (Ag type3) (AN type3) (by decide) rfl rfl rfl ⟨rfl,trivial⟩ az fun bG bH aR aS=>?_;refine JS.BO 2 aR aS rfl fun bI aT aU aV=>?_;obtain⟨bJ,aW,aX⟩:=bs aP;refine JS.cl (G1 aU aW) rfl rfl (Aw func120 rfl) aV ?_;rintro _ bK _ aY ⟨rfl,rfl⟩ aZ;refine zg 2 rfl ?_;obtain rfl:=oi aX;refine JL.rt func88 rfl rfl ?_;exact ay _ _ _ _ ((K.trans aT).trans aY) rfl ⟨rfl,rfl⟩ aZ
 ·have a0:=im aA ah;refine zg 3 rfl ?_;refine JL.fd underlying104 (Ag type28) rfl rfl rfl ?_;refine JL.ld 1 ag (An underlying28) rfl rfl rfl ?_;obtain⟨aC,a1,a2⟩:=bs a0;refine zg 1 rfl ?_;refine JS.BV (av.mono K) a1 rfl rfl rfl rfl rfl underlying28 (Ag type3) ?_;rintro bL bM _ rfl a3;refine JL.ld 0 a3 (An underlying3) rfl rfl rfl ?_;refine JS.lit (pp:=rI) [iV aC] [aC] rfl rfl rfl underlying28 (Ag type3) (AN type3) (by decide) rfl rfl rfl ⟨rfl,trivial⟩ az fun bN bO a4 a5=>?_;refine JS.BO 2 a4 a5 rfl fun bP U a6 a7=>?_;obtain⟨a8,a9,ba⟩:=bs a2;refine JS.cl (G1 a6 a9) rfl rfl (Aw func120 rfl) a7 ?_;rintro _ ai _ W ⟨rfl,rfl⟩ bb;obtain⟨aj,bc,bd⟩:=bs ba;refine zg 7 rfl ?_;refine JL.Y rfl (fun ρ h=>Yl.Ba (h _ _ rfl) (h _ _ rfl) bc) ?_;obtain⟨bf,bg,bh⟩:=bs bd;refine zg 2 rfl ?_;refine JL.join (fun L s=>∃(aD:LH),Jm ai H aD [] [(8,.int .u16 ((bf:Nat):Int))] L s) ?_ ?_
  ·rintro _ _ ⟨aD,rfl,rfl,bi,bj⟩;refine zg 5 rfl ?_;obtain rfl:=oi bh;refine JL.rt func88 rfl rfl ?_;exact ay _ _ _ _ (((K.trans U).trans W).trans bi) rfl ⟨rfl,rfl⟩ bj
  ·intro bk;refine JL.block ?_;refine JL.wk [(0,.pointer (some ⟨k1,Z,none⟩)),(8,.int .u16 ((a8:Nat):Int)),(32,iV aj),(33,iV 0)] rfl ?_;refine JL.Bq bg (fun L s aa=>∃(ak:LH),Jm ai H ak [] [(0,.pointer (some ⟨k1,Z,none⟩)),(8,.int .u16 ((aa.1:Nat):Int)),(32,iV aj),(33,iV aa.2)] L s) ⟨ai,rfl,rfl,(Le.refl _),bb⟩ ?_;rintro _ _ aa ⟨ak,rfl,rfl,O,aE⟩ bl ⟨bQ,al⟩ bm;have am:=al;unfold Ni at am;refine zg 5 rfl ?_;refine JL.ifs (p:=aa.2<aj) rfl (fun an=>?_) (fun an=>?_)
   ·have bn:=ip am an;obtain⟨bo,bp,bq⟩:=bs bn;refine zg 6 rfl ?_;refine JS.cl (RS (aF.mono (((K.trans U).trans W).trans O)) (aG.mono (((K.trans U).trans W).trans O)) (aH.mono (((K.trans U).trans W).trans O)) (Rp.mono _ (((K.trans U).trans W).trans O) aI) bp) rfl rfl (Aw func121 rfl) aE ?_;rintro _ br _ bu ⟨rfl,rfl⟩ bv;obtain⟨bw,bx,bz⟩:=bs bq;refine zg 4 rfl ?_;refine JL.Y rfl (fun ρ h=>Yl.A6 (h _ _ rfl) (h _ _ rfl) bx) ?_;refine zg 2 rfl ?_;obtain rfl:=oi bz;exact JL.kw (bm _ _ (bo,bw) ⟨br,rfl,rfl,(O.trans bu),bv⟩ al) rfl
   ·have bA:=im am an;refine JL.exit rfl ?_;obtain rfl:=oi bA;obtain rfl:=bl _ al;exact JL.kw (bk _ _ ⟨ak,rfl,rfl,O,aE⟩) rfl
end Pal
namespace Pal
open Go Go.Conc Go.Proofs
open Go.Proofs.Tryz
variable {J:Judge Tryz.prog}{E:LH}
def Iz(fuel:Nat)(p0:Br)(O:(List Int))(K:Nat×Int):Option (A8 (Nat×Int) (Nat)):=
 if K.2<((O).length:Int) then(
  (ix O (K.2)).bind fun U=>
  (ix p0.1 (U)).bind fun W=>
  (f120 fuel W).bind fun Z=>
  (GC (K.1) (Z)).bind fun aa=>
  (Ay (K.2+1)).bind fun ab=>
  some (.more (aa,ab))
 ) else(
  some (.done K.1)
 )
def HH(fuel:Nat)(p0:Br)(p1:Nat):Option (Nat×(Br)):=
 (f89 fuel p1).bind fun K=>
 Option.bind (iter (Iz fuel p0 K) fuel (0,0)) fun O=>
 some (O,p0)
theorem QA{K:Nat}{O:Ar}{c2:Nat}{U:Ar}{W:Nat}{Z:List Value}{p0:Br}{p1:Nat}(ao:Ao (rL rI) E O c2 (p0.1))(aC:Ao (rL rI) E U W (p0.2.1))(aD:(rA 13 (rN .u16)).r E Z (p0.2.2)){fuel:Nat}{r:Nat×(Br)}(ap:HH fuel p0 p1=some r):As J 121 [.pointer (some ⟨K,0,none⟩),.int .u16 ((p1:Nat):Int)] E [(K,.cells (([.slice O (p0.1).length c2,.slice U (p0.2.1).length W]:List Value)++Z).toArray 141 (0,0))] (fun w E' B'=>∃(aq:Ar) (ar:Nat) (au:Ar) (av:Nat) (aw:List Value),w= .int .u16 ((r.1:Nat):Int)∧B'= [(K,.cells (([.slice aq (r.2.1).length ar,.slice au (r.2.2.1).length av]:List Value)++aw).toArray 141 (0,0))]∧Ao (rL rI) E' aq ar (r.2.1)∧Ao (rL rI) E' au av (r.2.2.1)∧(rA 13 (rN .u16)).r E' aw (r.2.2.2)):=by
 refine As.en func121 rfl rfl fun Q ba cs H aE aF=>?_;unfold HH at ap;obtain⟨aa,aG,aH⟩:=bs ap;refine zg 12 rfl ?_;refine JS.cl (Gr aG) rfl rfl (Aw func89 rfl) aE ?_;rintro _ ai _ ab ⟨ay,az,rfl,rfl,aI⟩ aJ;refine JL.Y rfl (fun ρ h=>Yl.len rfl underlying28 (h _ _ rfl)) ?_;obtain⟨aK,aL,aM⟩:=bs aH;refine zg 2 rfl ?_;refine JL.join (fun L s=>∃(aA:LH),Jm ai H aA [[(K,.cells (([.slice O (p0.1).length c2,.slice U (p0.2.1).length W]:List Value)++Z).toArray 141 (0,0))]] [(5,.int .u16 ((aK:Nat):Int))] L s) ?_ ?_
 ·rintro _ _ ⟨aA,rfl,rfl,ae,aN⟩;refine zg 5 rfl ?_;obtain rfl:=oi aM;refine JL.rt func121 rfl rfl ?_;exact aF _ _ _ _ (ab.trans ae) rfl ⟨O,c2,U,W,Z,rfl,rfl,(ao.mono (ab.trans ae)),(aC.mono (ab.trans ae)),(Rp.mono _ (ab.trans ae) aD)⟩ aN
 ·intro aO;refine JL.block ?_;refine JL.wk [(0,.pointer (some ⟨K,0,none⟩)),(5,.int .u16 ((0:Nat):Int)),(9,.slice ay (aa).length az),(10,iV ((aa).length:Int)),(11,iV 0)] rfl ?_;refine JL.Bq aL (fun L s ag=>∃(aj:LH),Jm ai H aj [[(K,.cells (([.slice O (p0.1).length c2,.slice U (p0.2.1).length W]:List Value)++Z).toArray 141 (0,0))]] [(0,.pointer (some ⟨K,0,none⟩)),(5,.int .u16 ((ag.1:Nat):Int)),(9,.slice ay (aa).length az),(10,iV ((aa).length:Int)),(11,iV ag.2)] L s) ⟨ai,rfl,rfl,(Le.refl _),aJ⟩ ?_;rintro _ _ ag ⟨aj,rfl,rfl,ah,ak⟩ aP ⟨bb,al⟩ aQ;have am:=al;unfold Iz at am;refine zg 5 rfl ?_;refine JL.ifs (p:=ag.2<((aa).length:Int)) rfl (fun an=>?_) (fun an=>?_)
  ·have aR:=ip am an;obtain⟨bc,aS,aT⟩:=bs aR;refine zg 5 rfl ?_;refine JS.BV (aI.mono ah) aS rfl rfl rfl rfl rfl underlying28 (Ag type3) ?_;rintro bd bf _ rfl aU;refine JL.ld 0 aU (An underlying3) rfl rfl rfl ?_;refine zg 6 rfl ?_;refine JL.fd underlying141 (Ag type24) rfl rfl rfl ?_;refine JL.fd underlying24 (Ag type22) rfl rfl rfl ?_;refine JL.Y (v:= .slice O (p0.1).length c2) rfl (fun ρ h=>Yl.load (An underlying22) (h _ _ rfl) (PU (o:=0) (l:= [.slice O (p0.1).length c2,.slice U (p0.2.1).length W]) 0 ak rfl rfl)) ?_;obtain⟨bg,aV,aW⟩:=bs aT;refine zg 1 rfl ?_;refine JS.BV (ao.mono (ab.trans ah)) aV rfl rfl rfl rfl rfl underlying22 (Ag type28) ?_;rintro bh bi _ ⟨bj,bk,rfl,aX⟩ aY;refine JL.ld 0 aY (An underlying28) rfl rfl rfl ?_;obtain⟨bl,aZ,a0⟩:=bs aW;refine JS.cl (G1 aX aZ) rfl rfl (Aw func120 rfl) ak ?_;rintro _ a1 _ a2 ⟨rfl,rfl⟩ a3;obtain⟨aB,a4,a5⟩:=bs a0;refine JL.Y (v:= .int .u16 ((aB:Nat):Int)) rfl (fun ρ h=>Yl.HI (h _ _ rfl) (h _ _ rfl) a4) ?_;obtain⟨a6,a7,a8⟩:=bs a5;refine zg 4 rfl ?_;refine JL.Y rfl (fun ρ h=>Yl.A6 (h _ _ rfl) (h _ _ rfl) a7) ?_;refine zg 2 rfl ?_;obtain rfl:=oi a8;exact JL.kw (aQ _ _ (aB,a6) ⟨a1,rfl,rfl,(ah.trans a2),a3⟩ al) rfl
  ·have a9:=im am an;refine JL.exit rfl ?_;obtain rfl:=oi a9;obtain rfl:=aP _ al;exact JL.kw (aO _ _ ⟨aj,rfl,rfl,ah,ak⟩) rfl
end Pal
namespace Pal
open Go Go.Conc Go.Proofs
open Go.Proofs.Tryz
variable {J:Judge Tryz.prog}{E:LH}
theorem Rw:Oi Tryz.prog 138 .u16:=⟨_,underlying138,by decide+kernel,by decide,underlying102,rfl⟩
def Hx(fuel:Nat)(K:(List (List Int))×(List (List Int))×(List Nat)×(List Nat)×Int):Option (A8 ((List (List Int))×(List (List Int))×(List Nat)×(List Nat)×Int) ((List (List Int))×(List (List Int))×(List Nat)×(List Nat))):=
 if K.2.2.2.2<12 then(
  (Ay (K.2.2.2.2+1)).bind fun U=>
  (ix K.2.2.1 (K.2.2.2.2)).bind fun W=>
  (HH fuel (K.1,K.2.1,K.2.2.1) W).bind fun O=>
  (ix K.2.2.2.1 (U)).bind fun aa=>
  (Ay (K.2.2.2.2+1)).bind fun Z=>
  some (.more (O.2.1,O.2.2.1,O.2.2.2,(K.2.2.2.1.set (Int.toNat U) O.1),Z))
 ) else(
  some (.done (K.1,K.2.1,K.2.2.1,K.2.2.2.1))
 )
def IY(fuel:Nat)(O:Br):Option (A8 (Br) (((Option (Br)))⊕Unit)):=
 Option.bind (iter (Hx fuel) fuel (O.1,O.2.1,O.2.2,O.2.2,0)) fun K=>
 if K.2.2.2≠K.2.2.1 then(
  some (.more (K.1,K.2.1,K.2.2.2))
 ) else(
  some (.done (Sum.inl (some (K.1,K.2.1,K.2.2.1))))
 )
def f92(fuel:Nat)(p0:BD):Option ((Option (Br))):=
 (ix (List.replicate 13 (0:Nat)) (0)).bind fun O=>
 Option.bind (iter (IY fuel) fuel (p0.1,p0.2,((List.replicate 13 (0:Nat)).set (Int.toNat 0) 1))) fun K=>
 Sum.elim (fun r=>some r) (fun U=>none) K
theorem Jd{aj:Ar}{c2:Nat}{ak:Ar}{al:Nat}{p0:BD}(bk:Ao (rL rI) E aj c2 (p0.1))(bl:Ao (rL rI) E ak al (p0.2)){fuel:Nat}{r:(Option (Br))}(aZ:f92 fuel p0=some r):As J 92 [.agg #[.slice aj (p0.1).length c2,.slice ak (p0.2).length al]] E [] (fun w E' B'=>∃(a0:Value),w=a0∧B'= []∧Hi (rP (rL (rL rI)) (rP (rL (rL rI)) (rA 13 (rN .u16)))) E' a0 (r)):=by
 refine As.en func92 rfl rfl fun Q cd cs H bm bn=>?_;unfold f92 at aZ;refine zg 2 rfl ?_;refine JS.box (v:= .agg #[.slice aj (p0.1).length c2,.slice ak (p0.2).length al]) rfl rfl rfl bm rfl fun ce bo=>?_;refine JS.Bo 1 bo rfl fun av aQ bp bq=>?_;refine zg 5 rfl ?_;refine JL.Bx bp (An underlying24) (Ag type24) rfl rfl ?_;refine JL.Y (v:= .agg (([.slice aj (p0.1).length c2,.slice ak (p0.2).length al]:List Value)++(List.replicate 13 (.int .u16 ((0:Nat):Int)):List Value)).toArray) rfl (fun ρ h=>Yl.Ci [(0,2),(2,13)] h (AN type141) underlying141 ⟨rfl,Ag type24,rfl,Ag type139,trivial⟩ rfl rfl) ?_;refine JS.box (v:= .agg (([.slice aj (p0.1).length c2,.slice ak (p0.2).length al]:List Value)++(List.replicate 13 (.int .u16 ((0:Nat):Int)):List Value)).toArray) rfl rfl rfl bq rfl fun U br=>?_;refine zg 6 rfl ?_;refine JL.fd underlying141 (Ag type139) rfl rfl rfl ?_;obtain⟨cf,aR,bu⟩:=bs aZ;obtain⟨_,rfl,_,_,cg⟩:=FU (kk:=13) (pp:=(rN .u16)) (G3 (E:=av) (pp:=(rN .u16)) rfl) aR;refine JL.Y (v:= .pointer (some ⟨U,2+Int.toNat (0)*1,none⟩)) rfl (fun ρ h=>Yl.G7 (kk:=13) (pp:=(rN .u16)) (G3 (E:=av) (pp:=(rN .u16)) rfl) aR underlying139 (Ag type138) (h _ _ rfl) (h _ _ rfl)) ?_;refine JL.fd underlying138 (Ag type102) rfl rfl rfl ?_;have aJ:=Ko (us:= [.int .u16 ((1:Nat):Int)]) (y:=1) (G3 (E:=av) (pp:=(rN .u16)) rfl) aR rfl;refine JS.HF (v:= .int .u16 ((1:Nat):Int)) (l:= [.slice aj (p0.1).length c2,.slice ak (p0.2).length al]) (ws:=(List.replicate 13 (.int .u16 ((0:Nat):Int)):List Value)) (us:= [.int .u16 ((1:Nat):Int)]) (o:=Int.toNat (0)*1) 2 rfl rfl rfl br rfl rfl rfl (Ag type102) (by simp [Value.cells,BJ]) rfl aJ.2 fun a1=>?_;replace aJ:=aJ.1;generalize bv:Fs (List.replicate 13 (.int .u16 ((0:Nat):Int)):List Value) (Int.toNat (0)*1) [.int .u16 ((1:Nat):Int)]=a2 at a1 ⊢;have bw:(rA 13 (rN .u16)).r av a2 ((List.replicate 13 (0:Nat)).set (Int.toNat 0) 1):=by rw [← bv];exact aJ
 refine zg 2 rfl ?_;refine JL.label ?_;obtain⟨ci,bx,bz⟩:=bs bu;refine JL.wk [(3,.pointer (some ⟨U,0,none⟩))] rfl ?_;refine JL.SX bx (fun L s aa=>∃(W:LH) (az:Ar) (aA:Nat) (aB:Ar) (aC:Nat) (ab:List Value),Jn av H W [[(U,.cells (([.slice az (aa.1).length aA,.slice aB (aa.2.1).length aC]:List Value)++ab).toArray 141 (0,0))]] [(3,.pointer (some ⟨U,0,none⟩))] L s (Ao (rL rI) W az aA (aa.1)∧Ao (rL rI) W aB aC (aa.2.1)∧(rA 13 (rN .u16)).r W ab (aa.2.2))) ⟨av,aj,c2,ak,al,a2,rfl,rfl,(Le.refl _),a1,(bk.mono aQ),(bl.mono aQ),bw⟩ ?_;rintro _ _ aa ⟨W,az,aA,aB,aC,ab,rfl,rfl,a3,a4,bA,bB,am⟩ bC ⟨ck,aS⟩ bD;have a5:=aS;unfold IY at a5;refine zg 4 rfl ?_;refine JL.fd underlying141 (Ag type139) rfl rfl rfl ?_;refine JL.Y (v:= .agg ab.toArray) rfl (fun ρ h=>Yl.HU (kk:=13) (pp:=(rN .u16)) am (An underlying139) (Ag type139) (h _ _ rfl) (IB (l:= [.slice az (aa.1).length aA,.slice aB (aa.2.1).length aC]) 0 a4 rfl)) ?_;refine JS.alloc rfl rfl rfl a4 (AN type139) fun an bE=>?_;refine JS.HF (v:= .agg ab.toArray) (l:= []) (ws:=(List.replicate 13 (.int .u16 ((0:Nat):Int)):List Value)) (us:=ab) (o:=0) 1 rfl rfl rfl bE rfl rfl rfl (by rw [Ef (kk:=13) (pp:=(rN .u16)) am];exact Ag type139) ((rA 13 (rN .u16)).one am) rfl (by rw [Ef (kk:=13) (pp:=(rN .u16)) am,Ef (kk:=13) (pp:=(rN .u16)) (G3 (E:=W) (pp:=(rN .u16)) rfl)];omega) fun a6=>?_;rw [Mv (by rw [Ef (kk:=13) (pp:=(rN .u16)) am,Ef (kk:=13) (pp:=(rN .u16)) (G3 (E:=W) (pp:=(rN .u16)) rfl)])] at a6 ⊢;obtain⟨K,bF,a7⟩:=bs a5;refine zg 6 rfl ?_;refine JL.join (fun L s=>∃(ao:LH) (ap:Ar) (aq:Nat) (ae:Ar) (ag:Nat) (ar:List Value) (ah:List Value),Jn W H ao [[(U,.cells (([.slice ap (K.1).length aq,.slice ae (K.2.1).length ag]:List Value)++ar).toArray 141 (0,0))],[(an,.cells (([]:List Value)++ah).toArray 139 (0,0))]] [(3,.pointer (some ⟨U,0,none⟩)),(4,.pointer (some ⟨an,0,none⟩))] L s (Ao (rL rI) ao ap aq (K.1)∧Ao (rL rI) ao ae ag (K.2.1)∧(rA 13 (rN .u16)).r ao ar (K.2.2.1)∧(rA 13 (rN .u16)).r ao ah (K.2.2.2))) ?_ ?_
 ·rintro _ _ ⟨ao,ap,aq,ae,ag,ar,ah,rfl,rfl,a8,aw,a9,ba,aD,ai⟩;refine zg 2 rfl ?_;refine JG.Cn 5 [an,U] ⟨⟨1,_,rfl⟩,⟨0,_,rfl⟩,trivial⟩ aw mixed rfl (by decide+kernel) fun ht=>?_;refine JG.V (v:= .agg ah.toArray) 0 ht rfl rfl (fun ρ h s' hs=>Yl.HU (kk:=13) (pp:=(rN .u16)) ai (An underlying139) (Ag type139) (h _ _ rfl) (J2 (l:= []) 1 aw rfl (by simp [AA]) hs)) ?_;refine JG.ms ht rfl [1,2] rfl ?_;refine JG.fd 3 ht underlying141 (Ag type139) rfl rfl rfl rfl ?_;refine JG.V (v:= .agg ar.toArray) 4 ht rfl rfl (fun ρ h s' hs=>Yl.HU (kk:=13) (pp:=(rN .u16)) aD (An underlying139) (Ag type139) (h _ _ rfl) (J2 (l:= [.slice ap (K.1).length aq,.slice ae (K.2.1).length ag]) 0 aw rfl (by simp [AA]) hs)) ?_;refine Au.leaf (tail:= [5]) (by decide+kernel) (fun t=>A7 (by decide+kernel) BU t) ?_;refine JL.Y (v:= .bool (decide (K.2.2.2≠K.2.2.1))) rfl (fun ρ h=>Yl.SI underlying139 (by decide+kernel) Rw (Ag type138) ai aD (h _ _ rfl) (h _ _ rfl)) ?_;refine JL.done ?_;refine JL.ifs (p:=K.2.2.2≠K.2.2.1) rfl (fun aT=>?_) (fun aT=>?_)
  ·have bG:=ip a7 aT;refine zg 3 rfl ?_;refine JL.Y (v:= .agg ah.toArray) rfl (fun ρ h=>Yl.HU (kk:=13) (pp:=(rN .u16)) ai (An underlying139) (Ag type139) (h _ _ rfl) (IB (l:= []) 1 aw rfl)) ?_;refine zg 1 rfl ?_;refine JL.fd underlying141 (Ag type139) rfl rfl rfl ?_;refine JS.HF (v:= .agg ah.toArray) (l:= [.slice ap (K.1).length aq,.slice ae (K.2.1).length ag]) (ws:=ar) (us:=ah) (o:=0) 0 rfl rfl rfl aw rfl rfl rfl (by rw [Ef (kk:=13) (pp:=(rN .u16)) ai];exact Ag type139) ((rA 13 (rN .u16)).one ai) rfl (by rw [Ef (kk:=13) (pp:=(rN .u16)) ai,Ef (kk:=13) (pp:=(rN .u16)) aD];omega) fun bb=>?_;rw [Mv (by rw [Ef (kk:=13) (pp:=(rN .u16)) ai,Ef (kk:=13) (pp:=(rN .u16)) aD])] at bb ⊢;refine JL.done ?_;refine JL.goto rfl ?_;refine zg 2 rfl ?_;refine JS.drop 1 bb rfl fun bH=>?_;obtain rfl:=oi bG;exact JL.kw (bD _ _ (K.1,K.2.1,K.2.2.2) ⟨ao,ap,aq,ae,ag,ah,rfl,rfl,(a3.trans a8),bH,a9,ba,ai⟩ aS) rfl
  ·have bI:=im a7 aT;refine zg 6 rfl ?_;refine JS.Bo 0 aw rfl fun cm aK bJ bK=>?_;refine JS.drop 1 bK rfl fun bL=>?_;obtain rfl:=oi bI;obtain rfl:=bC _ aS;have bM:=elim_inl bz;obtain rfl:=oi bM;refine JL.rt func92 rfl rfl ?_;exact bn _ _ _ _ (((aQ.trans a3).trans a8).trans aK) rfl ⟨.pointer (some ⟨U,0,none⟩),rfl,rfl,⟨_,_,_,rfl,bJ,⟨[.slice ap (K.1).length aq],(([.slice ae (K.2.1).length ag]:List Value)++ar),rfl,⟨_,_,rfl,(a9.mono aK)⟩,⟨[.slice ae (K.2.1).length ag],ar,rfl,⟨_,_,rfl,(ba.mono aK)⟩,(Rp.mono _ aK aD)⟩⟩⟩⟩ bL
 ·intro bN;refine JL.block ?_;refine JL.wk [(3,.pointer (some ⟨U,0,none⟩)),(4,.pointer (some ⟨an,0,none⟩)),(18,iV 0)] rfl ?_;refine JL.Bq bF (fun L s O=>∃(au:LH) (aE:Ar) (aF:Nat) (aG:Ar) (aH:Nat) (aL:List Value) (ay:List Value),Jn W H au [[(U,.cells (([.slice aE (O.1).length aF,.slice aG (O.2.1).length aH]:List Value)++aL).toArray 141 (0,0))],[(an,.cells (([]:List Value)++ay).toArray 139 (0,0))]] [(3,.pointer (some ⟨U,0,none⟩)),(4,.pointer (some ⟨an,0,none⟩)),(18,iV O.2.2.2.2)] L s (Ao (rL rI) au aE aF (O.1)∧Ao (rL rI) au aG aH (O.2.1)∧(rA 13 (rN .u16)).r au aL (O.2.2.1)∧(rA 13 (rN .u16)).r au ay (O.2.2.2.1))) ⟨W,az,aA,aB,aC,ab,ab,rfl,rfl,(Le.refl _),a6,bA,bB,am,am⟩ ?_;rintro _ _ O ⟨au,aE,aF,aG,aH,aL,ay,rfl,rfl,bc,aU,bd,bf,aM,aN⟩ bO ⟨cn,aV⟩ bP;have aW:=aV;unfold Hx at aW;refine zg 5 rfl ?_;refine JL.ifs (p:=O.2.2.2.2<12) rfl (fun aX=>?_) (fun aX=>?_)
  ·have bQ:=ip aW aX;obtain⟨aI,bR,bS⟩:=bs bQ;refine zg 10 rfl ?_;refine JL.Y rfl (fun ρ h=>Yl.A6 (h _ _ rfl) (h _ _ rfl) bR) ?_;refine zg 4 rfl ?_;refine JL.fd underlying141 (Ag type139) rfl rfl rfl ?_;obtain⟨bT,bg,bU⟩:=bs bS;obtain⟨_,rfl,_,_,bV⟩:=FU (kk:=13) (pp:=(rN .u16)) aM bg;refine JL.Y (v:= .pointer (some ⟨U,2+Int.toNat (O.2.2.2.2)*1,none⟩)) rfl (fun ρ h=>Yl.G7 (kk:=13) (pp:=(rN .u16)) aM bg underlying139 (Ag type138) (h _ _ rfl) (h _ _ rfl)) ?_;refine JL.fd underlying138 (Ag type102) rfl rfl rfl ?_;refine JL.Y (v:= .int .u16 ((bT:Nat):Int)) rfl (fun ρ h=>Yl.load (An underlying102) (h _ _ rfl) (PL (l:= [.slice aE (O.1).length aF,.slice aG (O.2.1).length aH]) 0 aU rfl (bV 0 _ rfl))) ?_;obtain⟨Z,bW,bX⟩:=bs bU;refine JS.Bu 0 (QA bd bf aM bW) rfl rfl (Aw func121 rfl) aU rfl ?_;rintro _ bh _ aO ⟨bY,bZ,b0,b1,Hc,rfl,rfl,b2,b3,b4⟩ b5;obtain⟨co,aY,b6⟩:=bs bX;obtain⟨_,rfl,_,_,cp⟩:=FU (kk:=13) (pp:=(rN .u16)) (Rp.mono _ aO aN) aY;refine JL.Y (v:= .pointer (some ⟨an,0+Int.toNat (aI)*1,none⟩)) rfl (fun ρ h=>Yl.G7 (kk:=13) (pp:=(rN .u16)) (Rp.mono _ aO aN) aY underlying139 (Ag type138) (h _ _ rfl) (h _ _ rfl)) ?_;refine JL.fd underlying138 (Ag type102) rfl rfl rfl ?_;have aP:=Ko (us:= [.int .u16 ((Z.1:Nat):Int)]) (y:=Z.1) (Rp.mono _ aO aN) aY rfl;refine JS.HF (v:= .int .u16 ((Z.1:Nat):Int)) (l:= []) (ws:=ay) (us:= [.int .u16 ((Z.1:Nat):Int)]) (o:=Int.toNat (aI)*1) 1 rfl rfl rfl b5 rfl rfl rfl (Ag type102) (by simp [Value.cells,BJ]) rfl aP.2 fun bi=>?_;replace aP:=aP.1;generalize b7:Fs ay (Int.toNat (aI)*1) [.int .u16 ((Z.1:Nat):Int)]=bj at bi ⊢;have b8:(rA 13 (rN .u16)).r bh bj (O.2.2.2.1.set (Int.toNat aI) Z.1):=by rw [← b7];exact aP
   obtain⟨b9,ca,cb⟩:=bs b6;refine zg 3 rfl ?_;refine JL.Y rfl (fun ρ h=>Yl.A6 (h _ _ rfl) (h _ _ rfl) ca) ?_;refine zg 2 rfl ?_;obtain rfl:=oi cb;exact JL.kw (bP _ _ (Z.2.1,Z.2.2.1,Z.2.2.2,(O.2.2.2.1.set (Int.toNat aI) Z.1),b9) ⟨bh,bY,bZ,b0,b1,Hc,bj,rfl,rfl,(bc.trans aO),bi,b2,b3,b4,b8⟩ aV) rfl
  ·have cc:=im aW aX;refine JL.exit rfl ?_;obtain rfl:=oi cc;obtain rfl:=bO _ aV;exact JL.kw (bN _ _ ⟨au,aE,aF,aG,aH,aL,ay,rfl,rfl,bc,aU,bd,bf,aM,aN⟩) rfl
end Pal
namespace Pal
open Go Go.Conc Go.Proofs
open Go.Proofs.Tryz
variable {J:Judge Tryz.prog}{E:LH}
def M1(fuel:Nat)(p1:List Int)(K:Int):Option (A8 (Int) (((Option (Br))×Int)⊕(Unit))):=
 if K<((p1).length:Int) then(
  (ix p1 (K)).bind fun O=>
  (f101 fuel O 0 12).bind fun U=>
  if U=true then(
   some (.done (Sum.inl (none,1)))
  ) else(
   (Ay (K+1)).bind fun W=>
   some (.more W)
  )
 ) else(
  some (.done (Sum.inr ()))
 )
def f106(fuel:Nat)(p0:BD)(p1:List Int):Option ((Option (Br))×Int):=
 (f67 fuel p0).bind fun K=>
 if K≠0 then(
  some (none,K)
 ) else(
  Option.bind (iter (M1 fuel p1) fuel 0) fun O=>
  Sum.elim (fun r=>some r) (fun W=>
  (f92 fuel p0).bind fun U=>
  some (U,0)
  ) O
 )
theorem No{ae:Ar}{c2:Nat}{ag:Ar}{ah:Nat}{U:Ar}{W:Nat}{p0:BD}{p1:List Int}(ar:Ao (rL rI) E ae c2 (p0.1))(au:Ao (rL rI) E ag ah (p0.2))(aK:Ao rI E U W (p1)){fuel:Nat}{r:(Option (Br))×Int}(av:f106 fuel p0 p1=some r):As J 106 [.agg #[.slice ae (p0.1).length c2,.slice ag (p0.2).length ah],.slice U (p1).length W] E [] (fun w E' B'=>∃(aw:Value),w= .tuple #[aw,iV r.2]∧B'= []∧Hi (rP (rL (rL rI)) (rP (rL (rL rI)) (rA 13 (rN .u16)))) E' aw (r.1)):=by
 refine As.en func106 rfl rfl fun Q bj cs H aL ai=>?_;unfold f106 at av;refine zg 2 rfl ?_;refine JS.box (v:= .agg #[.slice ae (p0.1).length c2,.slice ag (p0.2).length ah]) rfl rfl rfl aL rfl fun aj aM=>?_;refine JS.Bo 1 aM rfl fun bk K ay aN=>?_;refine zg 6 rfl ?_;refine JL.Bx ay (An underlying24) (Ag type24) rfl rfl ?_;obtain⟨aO,aP,az⟩:=bs av;refine JS.cl (SV (ar.mono K) (au.mono K) aP) rfl rfl (Aw func67 rfl) aN ?_;rintro _ ak _ O ⟨rfl,rfl⟩ aA;refine zg 7 rfl ?_;refine JL.ifs (p:=aO≠0) rfl (fun al=>?_) (fun al=>?_)
 ·have aQ:=ip az al;refine zg 6 rfl ?_;obtain rfl:=oi aQ;refine JL.rt func106 rfl rfl ?_;exact ai _ _ _ _ (K.trans O) rfl ⟨.pointer none,rfl,rfl,rfl⟩ aA
 ·have aR:=im az al;refine zg 5 rfl ?_;refine JL.Y rfl (fun ρ h=>Yl.len rfl underlying28 (h _ _ rfl)) ?_;obtain⟨aB,aS,aC⟩:=bs aR;refine zg 2 rfl ?_;refine JL.join (fun L s=>∃(aD:Unit) (aE:LH),aB=Sum.inr aD∧Jm ak H aE [] [(2,.pointer (some ⟨aj,0,none⟩))] L s) ?_ ?_
  ·rintro _ _ ⟨aD,aE,rfl,rfl,rfl,Z,aT⟩;have aU:=elim_inr aC;refine zg 2 rfl ?_;refine JL.Bx (ay.mono (O.trans Z)) (An underlying24) (Ag type24) rfl rfl ?_;obtain⟨bl,aV,aW⟩:=bs aU;refine JS.cl (Jd (ar.mono ((K.trans O).trans Z)) (au.mono ((K.trans O).trans Z)) aV) rfl rfl (Aw func92 rfl) aT ?_;rintro aX bm _ aY ⟨_,rfl,rfl,aZ⟩ a0;refine zg 3 rfl ?_;obtain rfl:=oi aW;refine JL.rt func106 rfl rfl ?_;exact ai _ _ _ _ (((K.trans O).trans Z).trans aY) rfl ⟨aX,rfl,rfl,aZ⟩ a0
  ·intro a1;refine JL.block ?_;refine JL.wk [(2,.pointer (some ⟨aj,0,none⟩)),(14,.slice U (p1).length W),(15,iV ((p1).length:Int)),(16,iV 0)] rfl ?_;refine JL.Bq aS (fun L s am=>∃(an:LH),Jm ak H an [] [(2,.pointer (some ⟨aj,0,none⟩)),(14,.slice U (p1).length W),(15,iV ((p1).length:Int)),(16,iV am)] L s) ⟨ak,rfl,rfl,(Le.refl _),aA⟩ ?_;rintro _ _ am ⟨an,rfl,rfl,aa,aF⟩ aG ⟨bn,ab⟩ a2;have ao:=ab;unfold M1 at ao;refine zg 5 rfl ?_;refine JL.ifs (p:=am<((p1).length:Int)) rfl (fun ap=>?_) (fun ap=>?_)
   ·have a3:=ip ao ap;obtain⟨bo,a4,a5⟩:=bs a3;refine zg 5 rfl ?_;refine JS.BV (aK.mono ((K.trans O).trans aa)) a4 rfl rfl rfl rfl rfl underlying28 (Ag type3) ?_;rintro bp bq _ rfl a6;refine JL.ld 0 a6 (An underlying3) rfl rfl rfl ?_;obtain⟨a7,a8,aH⟩:=bs a5;refine zg 5 rfl ?_;refine JS.cl (Gn a8) rfl rfl (Aw func101 rfl) aF ?_;rintro _ a9 _ aI ⟨rfl,rfl⟩ aJ;refine JL.done ?_;refine JL.split (t:=a7) rfl (fun aq=>?_) (fun aq=>?_)
    ·have ba:=ip aH aq;refine zg 5 rfl ?_;obtain rfl:=oi ba;obtain rfl:=aG _ ab;have bb:=elim_inl aC;obtain rfl:=oi bb;refine JL.rt func106 rfl rfl ?_;exact ai _ _ _ _ (((K.trans O).trans aa).trans aI) rfl ⟨.pointer none,rfl,rfl,rfl⟩ aJ
    ·have bc:=ib aH aq;obtain⟨bd,bf,bg⟩:=bs bc;refine zg 3 rfl ?_;refine JL.Y rfl (fun ρ h=>Yl.A6 (h _ _ rfl) (h _ _ rfl) bf) ?_;refine zg 2 rfl ?_;obtain rfl:=oi bg;exact JL.kw (a2 _ _ bd ⟨a9,rfl,rfl,(aa.trans aI),aJ⟩ ab) rfl
   ·have bh:=im ao ap;refine JL.exit rfl ?_;obtain rfl:=oi bh;have bi:aB=(Sum.inr ()):=(aG _ ab).symm;exact JL.kw (a1 _ _ ⟨(),an,bi,rfl,rfl,aa,aF⟩) rfl
def f51(fuel:Nat)(p0:BD)(p1:Int):Option ((List Int)×Int):=
 (f106 fuel p0 ([p1]:List Int)).bind fun K=>
 if K.2≠0 then(
  some ([],K.2)
 ) else(
  (K.1).bind fun O=>
  (ix O.2.2 (p1)).bind fun U=>
  (f89 fuel U).bind fun W=>
  some (W,0)
 )
theorem SJ{U:Ar}{c2:Nat}{W:Ar}{Z:Nat}{p0:BD}{p1:Int}(an:Ao (rL rI) E U c2 (p0.1))(ao:Ao (rL rI) E W Z (p0.2)){fuel:Nat}{r:(List Int)×Int}(ab:f51 fuel p0 p1=some r):As J 51 [.agg #[.slice U (p0.1).length c2,.slice W (p0.2).length Z],iV p1] E [] (fun w E' B'=>∃(ae:Ar) (ag:Nat),w= .tuple #[.slice ae (r.1).length ag,iV r.2]∧B'= []∧Ao rI E' ae ag (r.1)):=by
 refine As.en func51 rfl rfl fun Q aX cs H ap ah=>?_;unfold f51 at ab;refine zg 2 rfl ?_;refine JS.box (v:= .agg #[.slice U (p0.1).length c2,.slice W (p0.2).length Z]) rfl rfl rfl ap rfl fun aY aq=>?_;refine JS.Bo 1 aq rfl fun aZ K ar au=>?_;refine zg 5 rfl ?_;refine JL.Bx ar (An underlying24) (Ag type24) rfl rfl ?_;refine zg 1 rfl ?_;refine JS.lit (pp:=rI) [iV p1] [p1] rfl rfl rfl underlying28 (Ag type3) (AN type3) (by decide) rfl rfl rfl ⟨rfl,trivial⟩ au fun a0 a1 av aw=>?_;refine JS.BO 2 av aw rfl fun a2 O ay az=>?_;obtain⟨aA,aB,ai⟩:=bs ab;refine JS.cl (No (an.mono (K.trans O)) (ao.mono (K.trans O)) ay aB) rfl rfl (Aw func106 rfl) az ?_;rintro _ a3 _ aj ⟨a4,rfl,rfl,aC⟩ ak;refine zg 12 rfl ?_;refine JL.ifs (p:=aA.2≠0) rfl (fun aa=>?_) (fun aa=>?_)
 ·have aD:=ip ai aa;refine zg 6 rfl ?_;obtain rfl:=oi aD;refine JL.rt func51 rfl rfl ?_;exact ah _ _ _ _ ((K.trans O).trans aj) rfl ⟨none,0,rfl,rfl,Ao.nil⟩ ak
 ·have aE:=im ai aa;obtain⟨al,aF,aG⟩:=bs aE;have am:=aC;refine zg 5 rfl ?_;rw [aF] at am;obtain⟨a5,a6,_,rfl,aH,⟨_,_,rfl,⟨aI,aJ,rfl,a7⟩,⟨_,a8,rfl,⟨aK,aL,rfl,a9⟩,aM⟩⟩⟩:=am;refine zg 1 rfl ?_;refine JL.fd underlying141 (Ag type139) rfl rfl rfl ?_;obtain⟨ba,aN,aO⟩:=bs aG;refine JS.KX (l:= [.slice aI (al.1).length aJ,.slice aK (al.2.1).length aL]) aH aM aN rfl rfl rfl rfl rfl underlying139 (Ag type138) ?_;rintro bb _ rfl aP;refine JL.fd underlying138 (Ag type102) rfl rfl rfl ?_;refine JL.ld 0 aP (An underlying102) rfl rfl rfl ?_;obtain⟨bc,aQ,aR⟩:=bs aO;refine JS.cl (Gr aQ) rfl rfl (Aw func89 rfl) ak ?_;rintro _ bd _ aS ⟨aT,aU,rfl,rfl,aV⟩ aW;refine zg 3 rfl ?_;obtain rfl:=oi aR;refine JL.rt func51 rfl rfl ?_;exact ah _ _ _ _ (((K.trans O).trans aj).trans aS) rfl ⟨aT,aU,rfl,rfl,aV⟩ aW
def MI(fuel:Nat)(p0:Br)(O:Nat)(U:(List Int))(K:Int):Option (A8 (Int) ((Bool)⊕(Unit))):=
 if K<((U).length:Int) then(
  (ix U (K)).bind fun W=>
  (f103 fuel O W).bind fun Z=>
  Option.bind (
   if Z=true then(
    some true
   ) else(
    (ix p0.2.1 (W)).bind fun aa=>
    (f120 fuel aa).bind fun ab=>
    (Hh (O) (ab)).bind fun ae=>
    some (decide ((((ae):Nat):Int)≠(((0):Nat):Int)))
   )
  ) fun ag=>
  if ag=true then(
   some (.done (Sum.inl true))
  ) else(
   (Ay (K+1)).bind fun ah=>
   some (.more ah)
  )
 ) else(
  some (.done (Sum.inr ()))
 )
def f109(fuel:Nat)(p0:Br)(p1:Int)(p2:Int):Option (Bool):=
 (ix p0.2.2 (p2)).bind fun K=>
 (ix p0.2.2 (p1)).bind fun O=>
 (f89 fuel O).bind fun U=>
 Option.bind (iter (MI fuel p0 K U) fuel 0) fun W=>
 Sum.elim (fun r=>some r) (fun Z=>
 some false
 ) W
theorem RB{k1:Nat}{U:Nat}{W:Ar}{Z:Nat}{aa:Ar}{ab:Nat}{aw:List Value}{p0:Br}{p1:Int}{p2:Int}(aj:At E k1 U (([.slice W (p0.1).length Z,.slice aa (p0.2.1).length ab]:List Value)++aw))(bE:Ao (rL rI) E W Z (p0.1))(aP:Ao (rL rI) E aa ab (p0.2.1))(ay:(rA 13 (rN .u16)).r E aw (p0.2.2)){fuel:Nat}{r:Bool}(az:f109 fuel p0 p1 p2=some r):As J 109 [.pointer (some ⟨k1,U,none⟩),iV p1,iV p2] E [] (fun w E' B'=>w= .bool r∧B'= []):=by
 refine As.en func109 rfl rfl fun Q bF cs H aQ aA=>?_;unfold f109 at az;refine zg 9 rfl ?_;refine JL.fd underlying141 (Ag type139) rfl rfl rfl ?_;obtain⟨ak,aR,aS⟩:=bs az;refine JS.KX (l:= [.slice W (p0.1).length Z,.slice aa (p0.2.1).length ab]) aj ay aR rfl rfl rfl rfl rfl underlying139 (Ag type138) ?_;rintro bG _ rfl aT;refine JL.fd underlying138 (Ag type102) rfl rfl rfl ?_;refine JL.ld 0 aT (An underlying102) rfl rfl rfl ?_;refine zg 8 rfl ?_;refine JL.fd underlying141 (Ag type139) rfl rfl rfl ?_;obtain⟨bH,aU,aV⟩:=bs aS;refine JS.KX (l:= [.slice W (p0.1).length Z,.slice aa (p0.2.1).length ab]) aj ay aU rfl rfl rfl rfl rfl underlying139 (Ag type138) ?_;rintro bI _ rfl aW;refine JL.fd underlying138 (Ag type102) rfl rfl rfl ?_;refine JL.ld 0 aW (An underlying102) rfl rfl rfl ?_;obtain⟨K,aX,aY⟩:=bs aV;refine JS.cl (Gr aX) rfl rfl (Aw func89 rfl) aQ ?_;rintro _ al _ ae ⟨am,an,rfl,rfl,aZ⟩ a0;refine JL.Y rfl (fun ρ h=>Yl.len rfl underlying28 (h _ _ rfl)) ?_;obtain⟨aB,a1,aC⟩:=bs aY;refine zg 2 rfl ?_;refine JL.join (fun L s=>∃(aD:Unit) (aE:LH),aB=Sum.inr aD∧Jm al H aE [] [] L s) ?_ ?_
 ·rintro _ _ ⟨aD,aE,rfl,rfl,rfl,a2,a3⟩;have a4:=elim_inr aC;refine zg 4 rfl ?_;obtain rfl:=oi a4;refine JL.rt func109 rfl rfl ?_;exact aA _ _ _ _ (ae.trans a2) rfl ⟨rfl,rfl⟩ a3
 ·intro a5;refine JL.block ?_;refine JL.wk [(0,.pointer (some ⟨k1,U,none⟩)),(7,.int .u16 ((ak:Nat):Int)),(24,.slice am (K).length an),(25,iV ((K).length:Int)),(26,iV 0)] rfl ?_;refine JL.Bq a1 (fun L s ag=>∃(ao:LH),Jm al H ao [] [(0,.pointer (some ⟨k1,U,none⟩)),(7,.int .u16 ((ak:Nat):Int)),(24,.slice am (K).length an),(25,iV ((K).length:Int)),(26,iV ag)] L s) ⟨al,rfl,rfl,(Le.refl _),a0⟩ ?_;rintro _ _ ag ⟨ao,rfl,rfl,O,aF⟩ aG ⟨bJ,ah⟩ a6;have ap:=ah;unfold MI at ap;refine zg 5 rfl ?_;refine JL.ifs (p:=ag<((K).length:Int)) rfl (fun aq=>?_) (fun aq=>?_)
  ·have a7:=ip ap aq;obtain⟨bK,a8,a9⟩:=bs a7;refine zg 5 rfl ?_;refine JS.BV (aZ.mono O) a8 rfl rfl rfl rfl rfl underlying28 (Ag type3) ?_;rintro bL bM _ rfl ba;refine JL.ld 0 ba (An underlying3) rfl rfl rfl ?_;obtain⟨bb,bc,bd⟩:=bs a9;refine zg 6 rfl ?_;refine JS.cl (Kh bc) rfl rfl (Aw func103 rfl) aF ?_;rintro _ aH _ ai ⟨rfl,rfl⟩ aI;obtain⟨aJ,aK,aL⟩:=bs bd;refine zg 1 rfl ?_;refine JL.BM [] (fun L s=>∃(ar:LH),Jm aH H ar [] [(0,.pointer (some ⟨k1,U,none⟩)),(7,.int .u16 ((ak:Nat):Int)),(24,.slice am (K).length an),(25,iV ((K).length:Int)),(26,iV ag),(46,.bool aJ)] L s) ?_ ?_
   ·rintro _ _ ⟨ar,rfl,rfl,aM,aN⟩;refine JL.done ?_;refine JL.split (t:=aJ) rfl (fun au=>?_) (fun au=>?_)
    ·have bf:=ip aL au;refine zg 4 rfl ?_;obtain rfl:=oi bf;obtain rfl:=aG _ ah;have bg:=elim_inl aC;obtain rfl:=oi bg;refine JL.rt func109 rfl rfl ?_;exact aA _ _ _ _ (((ae.trans O).trans ai).trans aM) rfl ⟨rfl,rfl⟩ aN
    ·have bh:=ib aL au;obtain⟨bi,bj,bk⟩:=bs bh;refine zg 3 rfl ?_;refine JL.Y rfl (fun ρ h=>Yl.A6 (h _ _ rfl) (h _ _ rfl) bj) ?_;refine zg 2 rfl ?_;obtain rfl:=oi bk;exact JL.kw (a6 _ _ bi ⟨ar,rfl,rfl,((O.trans ai).trans aM),aN⟩ ah) rfl
   ·intro aO;refine JL.Cb (c:=bb) (i:=33) rfl (fun av=>?_) (fun av=>?_)
    ·have bl:=ip aK av;refine zg 13 rfl ?_;obtain rfl:=oi bl;exact JL.kw (aO _ _ ⟨aH,rfl,rfl,(Le.refl _),aI⟩) rfl
    ·have bm:=ib aK av;refine zg 3 rfl ?_;refine JL.fd underlying141 (Ag type24) rfl rfl rfl ?_;refine JL.fd underlying24 (Ag type22) rfl rfl rfl ?_;refine JL.ld 1 (aj.mono ((ae.trans O).trans ai)) (An underlying22) rfl rfl rfl ?_;obtain⟨bN,bn,bo⟩:=bs bm;refine zg 1 rfl ?_;refine JS.BV (aP.mono ((ae.trans O).trans ai)) bn rfl rfl rfl rfl rfl underlying22 (Ag type28) ?_;rintro bO bP _ ⟨bQ,bR,rfl,bp⟩ bq;refine JL.ld 0 bq (An underlying28) rfl rfl rfl ?_;obtain⟨bS,br,bu⟩:=bs bo;refine JS.cl (G1 bp br) rfl rfl (Aw func120 rfl) aI ?_;rintro _ bv _ bw ⟨rfl,rfl⟩ bx;obtain⟨bz,bA,bB⟩:=bs bu;refine JL.Y (v:= .int .u16 ((bz:Nat):Int)) rfl (fun ρ h=>Yl.Ki (h _ _ rfl) (h _ _ rfl) bA) ?_;refine zg 2 rfl ?_;obtain rfl:=oi bB;exact JL.kw (aO _ _ ⟨bv,rfl,rfl,bw,bx⟩) rfl
  ·have bC:=im ap aq;refine JL.exit rfl ?_;obtain rfl:=oi bC;have bD:aB=(Sum.inr ()):=(aG _ ah).symm;exact JL.kw (a5 _ _ ⟨(),ao,bD,rfl,rfl,O,aF⟩) rfl
def Nm(fuel:Nat)(p1:Int)(O:Br)(K:Int):Option (A8 (Int) (Int)):=
 (f109 fuel O p1 K).bind fun U=>
 if(!U)=true then(
  (Ay (K+1)).bind fun W=>
  some (.more W)
 ) else(
  some (.done K)
 )
def f57(fuel:Nat)(p0:BD)(p1:Int):Option (Int×Int):=
 (f106 fuel p0 ([p1]:List Int)).bind fun K=>
 if K.2≠0 then(
  some (0,K.2)
 ) else(
  (K.1).bind fun O=>
  Option.bind (iter (Nm fuel p1 O) fuel 0) fun U=>
  some (U,0)
 )
theorem SM{W:Ar}{c2:Nat}{Z:Ar}{aa:Nat}{p0:BD}{p1:Int}(aC:Ao (rL rI) E W c2 (p0.1))(aD:Ao (rL rI) E Z aa (p0.2)){fuel:Nat}{r:Int×Int}(ai:f57 fuel p0 p1=some r):As J 57 [.agg #[.slice W (p0.1).length c2,.slice Z (p0.2).length aa],iV p1] E [] (fun w E' B'=>w= .tuple #[iV r.1,iV r.2]∧B'= []):=by
 refine As.en func57 rfl rfl fun Q bc cs H aE aj=>?_;unfold f57 at ai;refine zg 2 rfl ?_;refine JS.box (v:= .agg #[.slice W (p0.1).length c2,.slice Z (p0.2).length aa]) rfl rfl rfl aE rfl fun bd aF=>?_;refine JS.Bo 1 aF rfl fun bf O aG aH=>?_;refine zg 5 rfl ?_;refine JL.Bx aG (An underlying24) (Ag type24) rfl rfl ?_;refine zg 1 rfl ?_;refine JS.lit (pp:=rI) [iV p1] [p1] rfl rfl rfl underlying28 (Ag type3) (AN type3) (by decide) rfl rfl rfl ⟨rfl,trivial⟩ aH fun bg bh aI aJ=>?_;refine JS.BO 2 aI aJ rfl fun bi U aK aL=>?_;obtain⟨aM,aN,ak⟩:=bs ai;refine JS.cl (No (aC.mono (O.trans U)) (aD.mono (O.trans U)) aK aN) rfl rfl (Aw func106 rfl) aL ?_;rintro _ ab _ al ⟨bj,rfl,rfl,aO⟩ am;refine zg 12 rfl ?_;refine JL.ifs (p:=aM.2≠0) rfl (fun ae=>?_) (fun ae=>?_)
 ·have aP:=ip ak ae;refine zg 6 rfl ?_;obtain rfl:=oi aP;refine JL.rt func57 rfl rfl ?_;exact aj _ _ _ _ ((O.trans U).trans al) rfl ⟨rfl,rfl⟩ am
 ·have aQ:=im ak ae;obtain⟨bk,aR,aS⟩:=bs aQ;have an:=aO;refine zg 6 rfl ?_;rw [aR] at an;obtain⟨ao,ap,_,rfl,aT,⟨_,_,rfl,⟨bl,bm,rfl,aU⟩,⟨_,bn,rfl,⟨bo,bp,rfl,aV⟩,aW⟩⟩⟩:=an;obtain⟨aX,aY,aZ⟩:=bs aS;refine JL.join (fun L s=>∃(aq:LH),Jm ab H aq [] [(8,iV aX)] L s) ?_ ?_
  ·rintro _ _ ⟨aq,rfl,rfl,a0,a1⟩;refine zg 6 rfl ?_;obtain rfl:=oi aZ;refine JL.rt func57 rfl rfl ?_;exact aj _ _ _ _ (((O.trans U).trans al).trans a0) rfl ⟨rfl,rfl⟩ a1
  ·intro a2;refine JL.block ?_;refine JL.wk [(1,iV p1),(6,.pointer (some ⟨ao,ap,none⟩)),(8,iV 0)] rfl ?_;refine JL.Bq aY (fun L s ar=>∃(au:LH),Jm ab H au [] [(1,iV p1),(6,.pointer (some ⟨ao,ap,none⟩)),(8,iV ar)] L s) ⟨ab,rfl,rfl,(Le.refl _),am⟩ ?_;rintro _ _ ar ⟨au,rfl,rfl,K,a3⟩ a4 ⟨bq,ag⟩ a5;have av:=ag;unfold Nm at av;obtain⟨aw,a6,ay⟩:=bs av;refine zg 6 rfl ?_;refine JS.cl (RB (aT.mono K) (aU.mono K) (aV.mono K) (Rp.mono _ K aW) a6) rfl rfl (Aw func109 rfl) a3 ?_;rintro _ az _ aA ⟨rfl,rfl⟩ aB;refine JL.Y (v:= .bool (!aw)) rfl (fun ρ h=>Yl.not (h _ _ rfl)) ?_;refine JL.done ?_;refine JL.split (t:=(!aw)) rfl (fun ah=>?_) (fun ah=>?_)
   ·have a7:=ip ay ah;obtain⟨a8,a9,ba⟩:=bs a7;refine zg 4 rfl ?_;refine JL.Y rfl (fun ρ h=>Yl.A6 (h _ _ rfl) (h _ _ rfl) a9) ?_;refine zg 3 rfl ?_;obtain rfl:=oi ba;exact JL.kw (a5 _ _ a8 ⟨az,rfl,rfl,(K.trans aA),aB⟩ ag) rfl
   ·have bb:=ib ay ah;refine JL.exit rfl ?_;obtain rfl:=oi bb;obtain rfl:=a4 _ ag;exact JL.kw (a2 _ _ ⟨az,rfl,rfl,(K.trans aA),aB⟩) rfl
end Pal
namespace Pal
open Go Go.Conc Go.Proofs
open Go.Proofs.Tryz
variable {J:Judge Tryz.prog}{E:LH}
def IK(fuel:Nat)(p0:List Int)(p1:Int)(K:Int):Option (A8 (Int) ((Int)⊕(Unit))):=
 if K<((p0).length:Int) then(
  (ix p0 (K)).bind fun O=>
  if p1=O then(
   some (.done (Sum.inl K))
  ) else(
   (Ay (K+1)).bind fun U=>
   some (.more U)
  )
 ) else(
  some (.done (Sum.inr ()))
 )
def f201(fuel:Nat)(p0:List Int)(p1:Int):Option (Int):=
 Option.bind (iter (IK fuel p0 p1) fuel 0) fun K=>
 Sum.elim (fun r=>some r) (fun O=>
 some (-1)
 ) K
theorem R6{K:Ar}{c2:Nat}{p0:List Int}{p1:Int}(ap:Ao rI E K c2 (p0)){fuel:Nat}{r:Int}(ah:f201 fuel p0 p1=some r):As J 201 [.slice K (p0).length c2,iV p1] E [] (fun w E' B'=>w=iV r∧B'= []):=by
 refine As.en func201 rfl rfl fun Q aM cs H aq ai=>?_;unfold f201 at ah;refine zg 8 rfl ?_;refine JL.Y rfl (fun ρ h=>Yl.len rfl underlying28 (h _ _ rfl)) ?_;obtain⟨aj,ar,ak⟩:=bs ah;refine zg 2 rfl ?_;refine JL.join (fun L s=>∃(al:Unit) (am:LH),aj=Sum.inr al∧Jm E H am [] [] L s) ?_ ?_
 ·rintro _ _ ⟨al,am,rfl,rfl,rfl,au,av⟩;have aw:=elim_inr ak;refine zg 4 rfl ?_;obtain rfl:=oi aw;refine JL.rt func201 rfl rfl ?_;exact ai _ _ _ _ au rfl ⟨rfl,rfl⟩ av
 ·intro ay;refine JL.block ?_;refine JL.wk [(0,.slice K (p0).length c2),(1,iV p1),(7,iV ((p0).length:Int)),(8,iV 0)] rfl ?_;refine JL.Bq ar (fun L s Z=>∃(O:LH),Jm E H O [] [(0,.slice K (p0).length c2),(1,iV p1),(7,iV ((p0).length:Int)),(8,iV Z)] L s) ⟨E,rfl,rfl,(Le.refl _),aq⟩ ?_;rintro _ _ Z ⟨O,rfl,rfl,U,aa⟩ an ⟨aN,W⟩ az;have ab:=W;unfold IK at ab;refine zg 5 rfl ?_;refine JL.ifs (p:=Z<((p0).length:Int)) rfl (fun ae=>?_) (fun ae=>?_)
  ·have aA:=ip ab ae;obtain⟨aB,aC,ao⟩:=bs aA;refine zg 13 rfl ?_;refine JS.BV (ap.mono U) aC rfl rfl rfl rfl rfl underlying28 (Ag type3) ?_;rintro aO aP _ rfl aD;refine JL.ld 0 aD (An underlying3) rfl rfl rfl ?_;refine zg 2 rfl ?_;refine JL.ifs (p:=p1=aB) rfl (fun ag=>?_) (fun ag=>?_)
   ·have aE:=ip ao ag;refine zg 5 rfl ?_;obtain rfl:=oi aE;obtain rfl:=an _ W;have aF:=elim_inl ak;obtain rfl:=oi aF;refine JL.rt func201 rfl rfl ?_;exact ai _ _ _ _ U rfl ⟨rfl,rfl⟩ aa
   ·have aG:=im ao ag;obtain⟨aH,aI,aJ⟩:=bs aG;refine zg 3 rfl ?_;refine JL.Y rfl (fun ρ h=>Yl.A6 (h _ _ rfl) (h _ _ rfl) aI) ?_;refine zg 2 rfl ?_;obtain rfl:=oi aJ;exact JL.kw (az _ _ aH ⟨O,rfl,rfl,U,aa⟩ W) rfl
  ·have aK:=im ab ae;refine JL.exit rfl ?_;obtain rfl:=oi aK;have aL:aj=(Sum.inr ()):=(an _ W).symm;exact JL.kw (ay _ _ ⟨(),O,aL,rfl,rfl,U,aa⟩) rfl
def f199(fuel:Nat)(p0:List Int)(p1:Int):Option (Bool):=
 (f201 fuel p0 p1).bind fun K=>
 some (decide (0≤K))
theorem Sj{K:Ar}{c2:Nat}{p0:List Int}{p1:Int}(U:Ao rI E K c2 (p0)){fuel:Nat}{r:Bool}(O:f199 fuel p0 p1=some r):As J 199 [.slice K (p0).length c2,iV p1] E [] (fun w E' B'=>w= .bool r∧B'= []):=by
 refine As.en func199 rfl rfl fun Q ah cs H W Z=>?_;unfold f199 at O;obtain⟨ai,aa,ab⟩:=bs O;refine zg 8 rfl ?_;refine JS.cl (R6 U aa) rfl rfl (Aw func201 rfl) W ?_;rintro _ aj _ ae ⟨rfl,rfl⟩ ag;refine zg 3 rfl ?_;obtain rfl:=oi ab;refine JL.rt func199 rfl rfl ?_;exact Z _ _ _ _ ae rfl ⟨rfl,rfl⟩ ag
def f192(fuel:Nat)(p0:Br)(p1:Int)(p2:Int):Option ((Option (Int×Option Int))):=
 if p1=p2 then(
  some (some (p1,none))
 ) else(
  (ix p0.2.1 (p1)).bind fun K=>
  (f199 fuel K p2).bind fun O=>
  if O=true then(
   some (some (p1,some p2))
  ) else(
   some none
  )
 )
theorem RY{k1:Nat}{Z:Nat}{aa:Ar}{ab:Nat}{ae:Ar}{ag:Nat}{ah:List Value}{p0:Br}{p1:Int}{p2:Int}(an:At E k1 Z (([.slice aa (p0.1).length ab,.slice ae (p0.2.1).length ag]:List Value)++ah))(aC:Ao (rL rI) E aa ab (p0.1))(ao:Ao (rL rI) E ae ag (p0.2.1))(aD:(rA 13 (rN .u16)).r E ah (p0.2.2)){fuel:Nat}{r:(Option (Int×Option Int))}(K:f192 fuel p0 p1 p2=some r):As J 192 [.pointer (some ⟨k1,Z,none⟩),iV p1,iV p2] E [] (fun w E' B'=>∃(ai:Value),w=ai∧B'= []∧Lc 257 259 ai (r)):=by
 refine As.en func192 rfl rfl fun Q aE cs H aj O=>?_;unfold f192 at K;refine zg 13 rfl ?_;refine JL.ifs (p:=p1=p2) rfl (fun U=>?_) (fun U=>?_)
 ·have ap:=ip K U;refine zg 3 rfl ?_;refine JL.Y (v:= .agg #[iV p1]) rfl (fun ρ h=>Yl.Ci [(0,1)] h (AN type257) underlying257 ⟨rfl,Ag type3,trivial⟩ rfl rfl) ?_;refine JL.Y (v:= .iface 257 (.agg #[iV p1])) rfl (fun ρ h=>Yl.Dt underlying257 (fun _ h=>by cases h) (h _ _ rfl)) ?_;refine zg 2 rfl ?_;obtain rfl:=oi ap;refine JL.rt func192 rfl rfl ?_;exact O _ _ _ _ (Le.refl _) rfl ⟨.iface 257 (.agg #[iV p1]),rfl,rfl,rfl⟩ aj
 ·have aq:=im K U;refine zg 4 rfl ?_;refine JL.fd underlying141 (Ag type24) rfl rfl rfl ?_;refine JL.fd underlying24 (Ag type22) rfl rfl rfl ?_;refine JL.ld 1 an (An underlying22) rfl rfl rfl ?_;obtain⟨aF,ar,au⟩:=bs aq;refine zg 1 rfl ?_;refine JS.BV ao ar rfl rfl rfl rfl rfl underlying22 (Ag type28) ?_;rintro aG aH _ ⟨aI,aJ,rfl,av⟩ aw;refine JL.ld 0 aw (An underlying28) rfl rfl rfl ?_;obtain⟨ay,az,ak⟩:=bs au;refine zg 1 rfl ?_;refine JS.cl (Sj av az) rfl rfl (Aw func199 rfl) aj ?_;rintro _ aK _ al ⟨rfl,rfl⟩ am;refine zg 2 rfl ?_;refine JL.split (t:=ay) rfl (fun W=>?_) (fun W=>?_)
  ·have aA:=ip ak W;refine zg 4 rfl ?_;refine JL.Y (v:= .agg #[iV p1,iV p2]) rfl (fun ρ h=>Yl.Ci [(0,1),(1,1)] h (AN type259) underlying259 ⟨rfl,Ag type3,rfl,Ag type3,trivial⟩ rfl rfl) ?_;refine JL.Y (v:= .iface 259 (.agg #[iV p1,iV p2])) rfl (fun ρ h=>Yl.Dt underlying259 (fun _ h=>by cases h) (h _ _ rfl)) ?_;refine zg 2 rfl ?_;obtain rfl:=oi aA;refine JL.rt func192 rfl rfl ?_;exact O _ _ _ _ al rfl ⟨.iface 259 (.agg #[iV p1,iV p2]),rfl,rfl,rfl⟩ am
  ·have aB:=ib ak W;refine zg 6 rfl ?_;obtain rfl:=oi aB;refine JL.rt func192 rfl rfl ?_;exact O _ _ _ _ al rfl ⟨.nilIface,rfl,rfl,rfl⟩ am
end Pal
namespace Pal
open Go Go.Conc Go.Proofs
open Go.Proofs.Tryz
variable {J:Judge Tryz.prog}{E:LH}
def HO(fuel:Nat)(p0:(Br)×(AT)×Bz):Option (Int):=
 if((p0.2.1).length:Int)=0 then(
  some 0
 ) else(
  (Ay (((p0.2.1).length:Int) - 1)).bind fun K=>
  (ix p0.2.1 (K)).bind fun O=>
  some O.1
 )
theorem Q0{W:Nat}{k1:Nat}{Z:Nat}{ah:Ar}{ai:Nat}{aj:Ar}{ak:Nat}{al:List Value}{K:Ar}{O:Nat}{aa:Ar}{ab:Nat}{p0:(Br)×(AT)×Bz}(ay:At E k1 Z (([.slice ah (p0.1.1).length ai,.slice aj (p0.1.2.1).length ak]:List Value)++al))(az:Ao (rL rI) E ah ai (p0.1.1))(aA:Ao (rL rI) E aj ak (p0.1.2.1))(aB:(rA 13 (rN .u16)).r E al (p0.1.2.2))(an:Ao Bl E K O (p0.2.1))(aC:Ao rI E aa ab (p0.2.2.2.1)){fuel:Nat}{r:Int}(ae:HO fuel p0=some r):As J 154 [.pointer (some ⟨W,0,none⟩)] E [(W,.cells #[.pointer (some ⟨k1,Z,none⟩),.slice K (p0.2.1).length O,iV p0.2.2.1,.slice aa (p0.2.2.2.1).length ab,.int .u16 ((p0.2.2.2.2:Nat):Int)] 175 (0,0))] (fun w E' B'=>w=iV r∧B'= [(W,.cells #[.pointer (some ⟨k1,Z,none⟩),.slice K (p0.2.1).length O,iV p0.2.2.1,.slice aa (p0.2.2.2.1).length ab,.int .u16 ((p0.2.2.2.2:Nat):Int)] 175 (0,0))]):=by
 refine As.en func154 rfl rfl fun Q aD cs H U am=>?_;unfold HO at ae;refine zg 9 rfl ?_;refine JL.fd underlying175 (Ag type25) rfl rfl rfl ?_;refine JL.Y (v:= .slice K (p0.2.1).length O) rfl (fun ρ h=>Yl.load (An underlying25) (h _ _ rfl) (CH (j:=0) (off:=1) U rfl rfl)) ?_;refine JL.Y rfl (fun ρ h=>Yl.len rfl underlying25 (h _ _ rfl)) ?_;refine zg 2 rfl ?_;refine JL.ifs (p:=((p0.2.1).length:Int)=0) rfl (fun ag=>?_) (fun ag=>?_)
 ·have ao:=ip ae ag;refine zg 4 rfl ?_;obtain rfl:=oi ao;refine JL.rt func154 rfl rfl ?_;exact am _ _ _ _ (Le.refl _) rfl ⟨rfl,rfl⟩ U
 ·have ap:=im ae ag;refine zg 2 rfl ?_;refine JG.Cn 10 [W] ⟨⟨0,_,rfl⟩,trivial⟩ U mixed rfl (by decide+kernel) fun ht=>?_;refine JG.ms ht rfl [0,1] rfl ?_;refine JG.fd 2 ht underlying175 (Ag type25) rfl rfl rfl rfl ?_;refine JG.V (v:= .slice K (p0.2.1).length O) 3 ht rfl rfl (fun ρ h s' hs=>Yl.load (An underlying25) (h _ _ rfl) (Bh (o:=1) 0 U rfl (by simp [AA]) hs rfl)) ?_;refine JG.ms ht rfl [4,5] rfl ?_;refine JG.fd 6 ht underlying175 (Ag type25) rfl rfl rfl rfl ?_;refine JG.V (v:= .slice K (p0.2.1).length O) 7 ht rfl rfl (fun ρ h s' hs=>Yl.load (An underlying25) (h _ _ rfl) (Bh (o:=1) 0 U rfl (by simp [AA]) hs rfl)) ?_;refine JG.V 8 ht rfl rfl (fun ρ h s' hs=>Yl.len rfl underlying25 (h _ _ rfl)) ?_;obtain⟨aE,aq,ar⟩:=bs ap;refine JG.V 9 ht rfl rfl (fun ρ h s' hs=>Yl.Ba (h _ _ rfl) (h _ _ rfl) aq) ?_;refine Au.leaf (tail:= [10,11,12,13]) (by decide+kernel) (fun t=>A7 (by decide+kernel) (A7 (by decide+kernel) (A7 (by decide+kernel) (A7 (by decide+kernel) BU))) t) ?_;obtain⟨aF,au,av⟩:=bs ar;refine JS.BV an au rfl rfl rfl rfl rfl underlying25 (Ag type27) ?_;rintro aG aH _ ⟨_,_,rfl,rfl,rfl⟩ aw;refine JL.fd underlying27 (Ag type3) rfl rfl rfl ?_;refine JL.ld 0 aw (An underlying3) rfl rfl rfl ?_;refine zg 2 rfl ?_;obtain rfl:=oi av;refine JL.rt func154 rfl rfl ?_;exact am _ _ _ _ (Le.refl _) rfl ⟨rfl,rfl⟩ U
def Ix(fuel:Nat)(p0:(Br)×(AT)×Bz)(p1:Int)(p2:Int)(K:Nat×Int):Option (A8 (Nat×Int) ((Nat×Bool)⊕(Nat))):=
 if K.2<((p0.2.1).length:Int) then(
  Option.bind (
   (ix p0.2.1 (K.2)).bind fun O=>
   if O.1≠p1 then(
    some (Sum.inr K.1)
   ) else(
    (f192 fuel p0.1 p2 O.2).bind fun U=>
    Option.bind (
     if Gu U=true then(
      some (Sum.inr K.1)
     ) else(
      if Hd U=true then(
       (f90 fuel K.1 K.2).bind fun W=>
       some (Sum.inr W)
      ) else(
       some (Sum.inl (0,false))
      )
     )
    ) fun Z=>Sum.elim (fun r=>some (Sum.inl r)) (fun aa=>
    some (Sum.inr aa)
    ) Z
   )
  ) fun ab=>Sum.elim (fun r=>some (.done (Sum.inl r))) (fun ae=>
  (Ay (K.2+1)).bind fun ag=>
  some (.more (ae,ag))
  ) ab
 ) else(
  some (.done (Sum.inr K.1))
 )
def HV(fuel:Nat)(p0:(Br)×(AT)×Bz)(p1:Int)(p2:Int):Option (Nat×Bool):=
 Option.bind (iter (Ix fuel p0 p1 p2) fuel (0,0)) fun K=>
 Sum.elim (fun r=>some r) (fun O=>
 some (O,true)
 ) K
theorem Qu{K:Nat}{k1:Nat}{Z:Nat}{aA:Ar}{aB:Nat}{aC:Ar}{aD:Nat}{aE:List Value}{O:Ar}{U:Nat}{ab:Ar}{ae:Nat}{p0:(Br)×(AT)×Bz}{p1:Int}{p2:Int}(aY:At E k1 Z (([.slice aA (p0.1.1).length aB,.slice aC (p0.1.2.1).length aD]:List Value)++aE))(aZ:Ao (rL rI) E aA aB (p0.1.1))(a0:Ao (rL rI) E aC aD (p0.1.2.1))(a1:(rA 13 (rN .u16)).r E aE (p0.1.2.2))(a2:Ao Bl E O U (p0.2.1))(bN:Ao rI E ab ae (p0.2.2.2.1)){fuel:Nat}{r:Nat×Bool}(aF:HV fuel p0 p1 p2=some r):As J 174 [.pointer (some ⟨K,0,none⟩),iV p1,iV p2] E [(K,.cells #[.pointer (some ⟨k1,Z,none⟩),.slice O (p0.2.1).length U,iV p0.2.2.1,.slice ab (p0.2.2.2.1).length ae,.int .u16 ((p0.2.2.2.2:Nat):Int)] 175 (0,0))] (fun w E' B'=>w= .tuple #[.int .u16 ((r.1:Nat):Int),.bool r.2]∧B'= [(K,.cells #[.pointer (some ⟨k1,Z,none⟩),.slice O (p0.2.1).length U,iV p0.2.2.1,.slice ab (p0.2.2.2.1).length ae,.int .u16 ((p0.2.2.2.2:Nat):Int)] 175 (0,0))]):=by
 refine As.en func174 rfl rfl fun Q bO cs H aG aH=>?_;unfold HV at aF;refine zg 11 rfl ?_;refine JL.label ?_;refine zg 5 rfl ?_;refine JL.fd underlying175 (Ag type25) rfl rfl rfl ?_;refine JL.Y (v:= .slice O (p0.2.1).length U) rfl (fun ρ h=>Yl.load (An underlying25) (h _ _ rfl) (CH (j:=0) (off:=1) aG rfl rfl)) ?_;refine JL.Y rfl (fun ρ h=>Yl.len rfl underlying25 (h _ _ rfl)) ?_;obtain⟨aI,a3,aJ⟩:=bs aF;refine zg 2 rfl ?_;refine JL.join (fun L s=>∃(ao:Nat) (aK:LH),aI=Sum.inr ao∧Jm E H aK [[(K,.cells #[.pointer (some ⟨k1,Z,none⟩),.slice O (p0.2.1).length U,iV p0.2.2.1,.slice ab (p0.2.2.2.1).length ae,.int .u16 ((p0.2.2.2.2:Nat):Int)] 175 (0,0))]] [(8,.int .u16 ((ao:Nat):Int))] L s) ?_ ?_
 ·rintro _ _ ⟨ao,aK,rfl,rfl,rfl,a4,a5⟩;have a6:=elim_inr aJ;refine zg 6 rfl ?_;obtain rfl:=oi a6;refine JL.rt func174 rfl rfl ?_;exact aH _ _ _ _ a4 rfl ⟨rfl,rfl⟩ a5
 ·intro a7;refine JL.block ?_;refine JL.wk [(0,.pointer (some ⟨K,0,none⟩)),(1,iV p1),(2,iV p2),(8,.int .u16 ((0:Nat):Int)),(14,.slice O (p0.2.1).length U),(15,iV ((p0.2.1).length:Int)),(16,iV 0)] rfl ?_;refine JL.Bq a3 (fun L s W=>∃(aj:LH),Jm E H aj [[(K,.cells #[.pointer (some ⟨k1,Z,none⟩),.slice O (p0.2.1).length U,iV p0.2.2.1,.slice ab (p0.2.2.2.1).length ae,.int .u16 ((p0.2.2.2.2:Nat):Int)] 175 (0,0))]] [(0,.pointer (some ⟨K,0,none⟩)),(1,iV p1),(2,iV p2),(8,.int .u16 ((W.1:Nat):Int)),(14,.slice O (p0.2.1).length U),(15,iV ((p0.2.1).length:Int)),(16,iV W.2)] L s) ⟨E,rfl,rfl,(Le.refl _),aG⟩ ?_;rintro _ _ W ⟨aj,rfl,rfl,aa,aL⟩ aM ⟨bP,ak⟩ a8;have ap:=ak;unfold Ix at ap;refine zg 5 rfl ?_;refine JL.ifs (p:=W.2<((p0.2.1).length:Int)) rfl (fun aq=>?_) (fun aq=>?_)
  ·have a9:=ip ap aq;obtain⟨ba,bb,aN⟩:=bs a9;refine zg 2 rfl ?_;refine JL.join (fun L s=>∃(al:Nat) (ar:LH),ba=Sum.inr al∧Jm aj H ar [[(K,.cells #[.pointer (some ⟨k1,Z,none⟩),.slice O (p0.2.1).length U,iV p0.2.2.1,.slice ab (p0.2.2.2.1).length ae,.int .u16 ((p0.2.2.2.2:Nat):Int)] 175 (0,0))]] [(0,.pointer (some ⟨K,0,none⟩)),(1,iV p1),(2,iV p2),(8,.int .u16 ((al:Nat):Int)),(14,.slice O (p0.2.1).length U),(15,iV ((p0.2.1).length:Int)),(16,iV W.2)] L s) ?_ ?_
   ·rintro _ _ ⟨al,ar,rfl,rfl,rfl,bc,bd⟩;have bf:=elim_inr aN;obtain⟨bg,bh,bi⟩:=bs bf;refine JL.region ?_;refine JL.Y rfl (fun ρ h=>Yl.A6 (h _ _ rfl) (h _ _ rfl) bh) ?_;refine zg 2 rfl ?_;obtain rfl:=oi bi;exact JL.kw (a8 _ _ (al,bg) ⟨ar,rfl,rfl,(aa.trans bc),bd⟩ ak) rfl
   ·intro aO;obtain⟨am,bj,aP⟩:=bs bb;refine zg 4 rfl ?_;refine JS.BV (a2.mono aa) bj rfl rfl rfl rfl rfl underlying25 (Ag type27) ?_;rintro bQ bR _ ⟨_,_,rfl,rfl,rfl⟩ bk;refine JL.Bx bk (An underlying27) (Ag type27) rfl rfl ?_;refine JS.alloc rfl rfl rfl aL (AN type27) fun bS bl=>?_;refine zg 1 rfl ?_;refine JS.st (v:= .agg #[iV am.1,iV am.2]) (off:=0) 1 bl (Ag type27) rfl rfl rfl rfl fun bm=>?_;refine JS.Bo 1 bm rfl fun bn ag aQ ai=>?_;refine zg 4 rfl ?_;refine JL.fd underlying27 (Ag type3) rfl rfl rfl ?_;refine JL.ld 0 aQ (An underlying3) rfl rfl rfl ?_;refine zg 3 rfl ?_;refine JL.ifs (p:=am.1≠p1) rfl (fun au=>?_) (fun au=>?_)
    ·have bo:=ip aP au;refine JL.exit rfl ?_;exact JL.kw (aO _ _ ⟨W.1,bn,(Option.some.inj bo).symm,rfl,rfl,ag,ai⟩) rfl
    ·have bp:=im aP au;refine zg 2 rfl ?_;refine JG.Cn 7 [K] ⟨⟨0,_,rfl⟩,trivial⟩ ai mixed rfl (by decide+kernel) fun ht=>?_;refine JG.ms ht rfl [0,1] rfl ?_;refine JG.fd 2 ht underlying175 (Ag type94) rfl rfl rfl rfl ?_;refine JG.V (v:= .pointer (some ⟨k1,Z,none⟩)) 3 ht rfl rfl (fun ρ h s' hs=>Yl.load (An underlying94) (h _ _ rfl) (Bh (o:=0) 0 ai rfl (by simp [AA]) hs rfl)) ?_;refine JG.mv 4 ht rfl rfl ?_;refine JG.fd 5 ht underlying27 (Ag type3) rfl rfl rfl rfl ?_;refine JG.V (v:=iV am.2) 6 ht rfl rfl (fun ρ h s' hs=>Yl.load (An underlying3) (h _ _ rfl) (At.CU (j:=1) aQ (CS ai hs ⟨⟨0,_,rfl⟩,trivial⟩) rfl)) ?_;refine Au.leaf (tail:= [7]) (by decide+kernel) (fun t=>A7 (by decide+kernel) BU t) ?_;obtain⟨ah,bq,br⟩:=bs bp;refine JS.cl (RY (aY.mono (aa.trans ag)) (aZ.mono (aa.trans ag)) (a0.mono (aa.trans ag)) (Rp.mono _ (aa.trans ag) a1) bq) rfl rfl (Aw func192 rfl) ai ?_;rintro _ aR _ aS ⟨bT,rfl,rfl,aT⟩ av;refine zg 4 rfl ?_;refine JL.Y (v:= .tuple #[(Lg ah),.bool (Gu ah)]) rfl (fun ρ h=>Yl.Rm (t2:=259) underlying257 (AN type257) (by decide) aT (h _ _ rfl)) ?_;obtain⟨bu,aU,aV⟩:=bs br;refine zg 3 rfl ?_;refine JL.join (fun L s=>∃(an:Nat) (aw:LH),bu=Sum.inr an∧Jm aR H aw [[(K,.cells #[.pointer (some ⟨k1,Z,none⟩),.slice O (p0.2.1).length U,iV p0.2.2.1,.slice ab (p0.2.2.2.1).length ae,.int .u16 ((p0.2.2.2.2:Nat):Int)] 175 (0,0))]] [(0,.pointer (some ⟨K,0,none⟩)),(1,iV p1),(2,iV p2),(8,.int .u16 ((an:Nat):Int)),(14,.slice O (p0.2.1).length U),(15,iV ((p0.2.1).length:Int)),(16,iV W.2)] L s) ?_ ?_
     ·rintro _ _ ⟨an,aw,rfl,rfl,rfl,bv,bw⟩;have bx:=elim_inr aV;refine zg 2 rfl ?_;exact JL.kw (aO _ _ ⟨an,aw,(Option.some.inj bx).symm,rfl,rfl,((ag.trans aS).trans bv),bw⟩) rfl
     ·intro aW;refine JL.split (t:=Gu ah) rfl (fun ay=>?_) (fun ay=>?_)
      ·have bz:=ip aU ay;refine JL.skip ?_;exact JL.kw (aW _ _ ⟨W.1,aR,(Option.some.inj bz).symm,rfl,rfl,(Le.refl _),av⟩) rfl
      ·have aX:=ib aU ay;refine zg 2 rfl ?_;refine JL.Y (v:= .tuple #[(Lb ah),.bool (Hd ah)]) rfl (fun ρ h=>Yl.Qw (t1:=257) underlying259 (AN type259) (by decide) aT (h _ _ rfl)) ?_;refine zg 3 rfl ?_;refine JL.split (t:=Hd ah) rfl (fun az=>?_) (fun az=>?_)
       ·have bA:=ip aX az;obtain⟨bB,bC,bD⟩:=bs bA;refine zg 3 rfl ?_;refine JS.cl (Jf bC) rfl rfl (Aw func90 rfl) av ?_;rintro _ bE _ bF ⟨rfl,rfl⟩ bG;refine zg 2 rfl ?_;exact JL.kw (aW _ _ ⟨bB,bE,(Option.some.inj bD).symm,rfl,rfl,bF,bG⟩) rfl
       ·have bH:=ib aX az;refine zg 5 rfl ?_;obtain rfl:=oi bH;have bI:=elim_inl aV;obtain rfl:=oi bI;have bJ:=elim_inl aN;obtain rfl:=oi bJ;obtain rfl:=aM _ ak;have bK:=elim_inl aJ;obtain rfl:=oi bK;refine JL.rt func174 rfl rfl ?_;exact aH _ _ _ _ ((aa.trans ag).trans aS) rfl ⟨rfl,rfl⟩ av
  ·have bL:=im ap aq;refine JL.exit rfl ?_;obtain rfl:=oi bL;have bM:aI=(Sum.inr W.1):=(aM _ ak).symm;exact JL.kw (a7 _ _ ⟨W.1,aj,bM,rfl,rfl,aa,aL⟩) rfl
end Pal
namespace Pal
open Go Go.Conc Go.Proofs
open Go.Proofs.Tryz
variable {J:Judge Tryz.prog}{E:LH}
def HM(fuel:Nat)(p0:List Int):Option ((List Int)):=
 (CF ([]:List Int) p0).bind fun K=>
 some K
theorem Qx{ad:Addr}{c2:Nat}{p0:List Int}(W:Ao rI E (some ad) c2 p0){fuel:Nat}{r:(List Int)}(K:HM fuel p0=some r):As J 175 [.slice (some ad) (p0).length c2] E [] (fun w E' B'=>∃(O:Ar) (U:Nat) (g0:Seg),w= .slice O (r).length U∧B'=g0∧OL 3 rI E' O U g0 (r)):=by
 refine As.en func175 rfl rfl fun Q an cs H Z aa=>?_;unfold HM at K;refine zg 8 rfl ?_;refine JL.Y (v:= .bool false) rfl (fun ρ h=>Yl.I2 (a:=(some ad)) underlying28 (h _ _ rfl) (h _ _ rfl)) ?_;refine zg 5 rfl ?_;refine JS.H4 (pp:=rI) rfl rfl rfl underlying28 (Ag type3) Z fun ao ap ab ae=>?_;obtain⟨aq,ag,ah⟩:=bs K;refine zg 1 rfl ?_;refine JS.Om (pp:=rI) 1 ag rfl rfl rfl rfl rfl rfl rfl underlying28 underlying28 (Ag type3) (CJ type3) (AN type3) rfl (by decide) (by decide) ab W ae rfl fun ai aj ak al am=>?_;refine zg 2 rfl ?_;obtain rfl:=oi ah;refine JL.rt func175 rfl rfl ?_;exact aa _ _ _ _ (Le.refl _) rfl ⟨ai,aj,ak,rfl,(by first | rfl | simp | (simp [Value.cells])),al⟩ am
def N4(fuel:Nat)(p0:List Int):Option ((List Int)):=
 some ([])
theorem Q4{c2:Nat}{p0:List Int}(aa:Ao rI E none c2 p0){fuel:Nat}{r:(List Int)}(K:N4 fuel p0=some r):As J 175 [.slice none (p0).length c2] E [] (fun w E' B'=>∃(O:Ar) (U:Nat) (g0:Seg),w= .slice O (r).length U∧B'=g0∧OL 3 rI E' O U g0 (r)):=by
 refine As.en func175 rfl rfl fun Q ab cs H W Z=>?_;unfold N4 at K;refine zg 8 rfl ?_;refine JL.Y (v:= .bool true) rfl (fun ρ h=>Yl.I2 (a:=none) underlying28 (h _ _ rfl) (h _ _ rfl)) ?_;refine zg 6 rfl ?_;obtain rfl:=oi K;refine JL.rt func175 rfl rfl ?_;exact Z _ _ _ _ (Le.refl _) rfl ⟨none,0,[],rfl,rfl,OL.nil⟩ W
def f175(fuel:Nat)(p0:List Int):Option (List Int):=HM fuel p0
theorem NO{O:Ar}{c2:Nat}{p0:List Int}(U:Ao rI E O c2 p0){fuel:Nat}{r:List Int}(K:f175 fuel p0=some r):As J 175 [.slice O p0.length c2] E [] (fun w E' B'=>∃(W:Ar) (Z:Nat) (g0:Seg),w= .slice W r.length Z∧B'=g0∧OL 3 rI E' W Z g0 r):=by
 cases O with
 | some ad=>exact Qx U K
 | none=>
  have aa:p0= []:=by
   rcases U.2 with h | ⟨_,_,h,_⟩
   ·exact h.1
   ·cases h
  subst aa;have ab:r= []:=by
   have ae:HM fuel []=some []:=rfl;unfold f175 at K;rw [ae] at K;exact(Option.some.inj K).symm
  subst ab;exact Q4 (fuel:=fuel) U rfl
end Pal
namespace Pal
open Go Go.Conc Go.Proofs
open Go.Proofs.Tryz
def F7(fuel:Nat)(le:Int)(all:List (Bz))(tr:(Bz))(O:Int):Option (Int×List (Bz)):=
 Option.bind (
  if((all).length:Int)=0 then(
   some true
  ) else(
   some (decide (O<le))
  )
 ) fun U=>
 Option.bind (
  if U=true then(
   some (O,[])
  ) else(
   some (le,all)
  )
 ) fun K=>
 Option.bind (
  if O=K.1 then(
   (CF K.2 ([tr]:List (Bz))).bind fun W=>
   some W
  ) else(
   some K.2
  )
 ) fun Z=>
 some (K.1,Z)
theorem RO{J:Judge Tryz.prog}{E:LH}{K:Nat}{age:Int}{le:Int}{a:Ar}{c:Nat}{g:Seg}{all:List (Bz)}(aP:OL 104 Cj E a c g all){aa:Ar}{ab:Nat}{tr:(Bz)}(aQ:Ao rI E aa ab tr.2.1){U:Int}{fuel:Nat}{r:Int×List (Bz)}(az:F7 fuel le all tr U=some r):
  As J 122 [.pointer (some ⟨K,1,none⟩),.agg #[iV tr.1,.slice aa tr.2.1.length ab,.int .u16 ((tr.2.2:Nat):Int)],iV U] E ([(K,.cells #[iV age,iV le,.slice a all.length c] 133 (0,0))]++g) (fun w E' B'=>∃aA aB g',w= .tuple #[]∧B'= [(K,.cells #[iV age,iV r.1,.slice aA r.2.length aB] 133 (0,0))]++g'∧OL 104 Cj E' aA aB g' r.2):=by
 refine As.en func122 rfl rfl fun Q bm cs H ao aR=>?_;refine JS.split (S':= [[(K,.cells #[iV age,iV le,.slice a all.length c] 133 (0,0))],g]) (by simp) ao fun ao=>?_;unfold F7 at az;refine zg 2 rfl ?_;refine JS.box (v:= .agg #[iV tr.1,.slice aa (tr.2.1).length ab,.int .u16 ((tr.2.2:Nat):Int)]) rfl rfl rfl ao rfl fun aC aS=>?_;refine JS.Bo 2 aS rfl fun ap aq aT ai=>?_;refine zg 6 rfl ?_;refine JL.fd underlying97 (Ag type95) rfl rfl rfl ?_;refine JL.Y (v:= .slice a (all).length c) rfl (fun ρ h=>Yl.load (An underlying95) (h _ _ rfl) (CH (j:=0) (off:=2) ai rfl rfl)) ?_;refine JL.Y rfl (fun ρ h=>Yl.len rfl underlying95 (h _ _ rfl)) ?_;obtain⟨aD,aE,aU⟩:=bs az;refine zg 2 rfl ?_;refine JL.BM [] (fun L s=>∃(ae:LH),Jm ap H ae [[(K,.cells #[iV age,iV le,.slice a (all).length c] 133 (0,0))],g] [(0,.pointer (some ⟨K,1,none⟩)),(2,iV U),(4,.pointer (some ⟨aC,0,none⟩)),(19,.bool aD)] L s) ?_ ?_
 ·rintro _ _ ⟨ae,rfl,rfl,aj,aF⟩;obtain⟨O,aG,aV⟩:=bs aU;refine JL.done ?_;refine JL.join (fun L s=>∃(W:LH) (ag:Ar) (ah:Nat) (ak:Seg),Jn ae H W [[(K,.cells #[iV age,iV O.1,.slice ag (O.2).length ah] 133 (0,0))],ak] [(0,.pointer (some ⟨K,1,none⟩)),(2,iV U),(4,.pointer (some ⟨aC,0,none⟩))] L s (OL 104 Cj W ag ah ak (O.2))) ?_ ?_
  ·rintro _ _ ⟨W,ag,ah,ak,rfl,rfl,ar,Z,aH⟩;refine zg 5 rfl ?_;refine JL.fd underlying97 (Ag type3) rfl rfl rfl ?_;refine JL.Y (v:=iV O.1) rfl (fun ρ h=>Yl.load (An underlying3) (h _ _ rfl) (CH (j:=0) (off:=1) Z rfl rfl)) ?_;obtain⟨aI,aJ,aW⟩:=bs aV;refine zg 2 rfl ?_;refine JL.join (fun L s=>∃(au:LH) (al:Ar) (am:Nat) (an:Seg),Jn W H au [[(K,.cells #[iV age,iV O.1,.slice al (aI).length am] 133 (0,0))],an] [] L s (OL 104 Cj au al am an (aI))) ?_ ?_
   ·rintro _ _ ⟨au,al,am,an,rfl,rfl,aX,aY,aZ⟩;obtain rfl:=oi aW;refine JL.fin (v:= .tuple #[]) rfl rfl (Bv.list func122 rfl (vs:= []) trivial) ?_;exact aR _ _ _ _ (((aq.trans aj).trans ar).trans aX) rfl ⟨al,am,an,rfl,by simp,aZ⟩ aY
   ·intro aK;refine JL.ifs (p:=U=O.1) rfl (fun av=>?_) (fun av=>?_)
    ·have a0:=ip aJ av;refine JG.Cn 8 [K] ⟨⟨0,_,rfl⟩,trivial⟩ Z mixed rfl (by decide+kernel) fun ht=>?_;refine JG.ms ht rfl [0,1,2] rfl ?_;refine JG.fd 3 ht underlying97 (Ag type95) rfl rfl rfl rfl ?_;refine JG.V (v:= .slice ag (O.2).length ah) 4 ht rfl rfl (fun ρ h s' hs=>Yl.load (An underlying95) (h _ _ rfl) (Bh (o:=2) 0 Z rfl (by simp [AA]) hs rfl)) ?_;refine JG.V 5 ht rfl rfl (fun ρ h s' hs=>Yl.Bp (vs:= [iV tr.1,.slice aa (tr.2.1).length ab,.int .u16 ((tr.2.2:Nat):Int)]) (An underlying104) (Ag type104) (h _ _ rfl) (At.Kn (aT.mono (aj.trans ar)) (CS Z hs ⟨⟨0,_,rfl⟩,trivial⟩))) ?_;obtain⟨a1,a2,a3⟩:=bs a0;refine JG.one (i:=6) rfl (by decide+kernel) ?_;refine Take.lit (pp:=Cj) (jp:=0) [.agg #[iV tr.1,.slice aa (tr.2.1).length ab,.int .u16 ((tr.2.2:Nat):Int)]] ([tr]:List (Bz)) Z rfl rfl rfl rfl underlying95 (Ag type104) (AN type104) (by decide) rfl rfl rfl ⟨⟨_,_,rfl,rfl,⟨_,_,rfl,⟨_,_,rfl,(aQ.mono ((aq.trans aj).trans ar))⟩,rfl⟩⟩,trivial⟩ fun bn bo a4 a5=>?_;refine JG.one (i:=7) rfl (by decide+kernel) ?_;refine Take.app (pp:=Cj) (jp:=0) 1 2 a5 rfl a2 rfl rfl rfl rfl rfl rfl rfl underlying95 underlying95 (Ag type104) (CJ type104) (AN type104) rfl (by decide) (by decide) aH a4 rfl rfl rfl rfl fun aL aM bp a6 a7 a8=>?_;refine Au.leaf (tail:= [8,9,10]) (by decide+kernel) (fun t=>A7 (by decide+kernel) (A7 (by decide+kernel) (A7 (by decide+kernel) BU)) t) ?_;refine JS.part 1 rfl a8 fun a9=>?_;refine JS.drop 1 a9 rfl fun ba=>?_;refine zg 1 rfl ?_;refine JL.fd underlying97 (Ag type95) rfl rfl rfl ?_;refine JS.st (v:= .slice aL (a1).length aM) (off:=2) 0 ba (Ag type95) rfl rfl rfl rfl fun bb=>?_;refine JL.done ?_;refine JS.drop 2 bb rfl fun bc=>?_;obtain rfl:=oi a3;exact JL.kw (aK _ _ ⟨W,aL,aM,a6,rfl,rfl,(Le.refl _),bc,a7⟩) rfl
    ·have bd:=im aJ av;refine JL.skip ?_;obtain rfl:=oi bd;exact JL.kw (aK _ _ ⟨W,ag,ah,ak,rfl,rfl,(Le.refl _),Z,aH⟩) rfl
  ·intro aN;refine JL.split (t:=aD) rfl (fun aw=>?_) (fun aw=>?_)
   ·have bf:=ip aG aw;refine zg 5 rfl ?_;refine JL.fd underlying97 (Ag type3) rfl rfl rfl ?_;refine JS.st (v:=iV U) (off:=1) 0 aF (Ag type3) rfl rfl rfl rfl fun bg=>?_;refine zg 1 rfl ?_;refine JL.fd underlying97 (Ag type95) rfl rfl rfl ?_;refine JS.st (v:= .slice none 0 0) (off:=2) 0 bg (Ag type95) rfl rfl rfl rfl fun bh=>?_;refine JL.done ?_;refine JS.drop 1 bh rfl fun bi=>?_;obtain rfl:=oi bf;exact JL.kw (aN _ _ ⟨ae,none,0,[],rfl,rfl,(Le.refl _),bi,OL.nil⟩) rfl
   ·have bj:=ib aG aw;refine JL.skip ?_;obtain rfl:=oi bj;exact JL.kw (aN _ _ ⟨ae,a,c,g,rfl,rfl,(Le.refl _),aF,(aP.mono (aq.trans aj))⟩) rfl
 ·intro aO;refine JL.Cm (q:=((all).length:Int)=0) (i:=12) rfl (fun ay=>?_) (fun ay=>?_)
  ·have bk:=ip aE ay;refine zg 7 rfl ?_;obtain rfl:=oi bk;exact JL.kw (aO _ _ ⟨ap,rfl,rfl,(Le.refl _),ai⟩) rfl
  ·have bl:=im aE ay;refine zg 3 rfl ?_;refine JL.fd underlying97 (Ag type3) rfl rfl rfl ?_;refine JL.Y (v:=iV le) rfl (fun ρ h=>Yl.load (An underlying3) (h _ _ rfl) (CH (j:=0) (off:=1) ai rfl rfl)) ?_;refine zg 2 rfl ?_;obtain rfl:=oi bl;exact JL.kw (aO _ _ ⟨ap,rfl,rfl,(Le.refl _),ai⟩) rfl
theorem RZ{J:Judge Tryz.prog}{E:LH}{K:Nat}{age:Int}{le:Int}{a:Ar}{c:Nat}{g:Seg}{all:List (Bz)}(aP:OL 104 Cj E a c g all){aa:Ar}{ab:Nat}{tr:(Bz)}(aQ:Ao rI E aa ab tr.2.1){U:Int}{fuel:Nat}{r:Int×List (Bz)}(az:F7 fuel le all tr U=some r):
  As J 122 [.pointer (some ⟨K,0,none⟩),.agg #[iV tr.1,.slice aa tr.2.1.length ab,.int .u16 ((tr.2.2:Nat):Int)],iV U] E ([(K,.cells #[iV le,.slice a all.length c] 97 (0,0))]++g) (fun w E' B'=>∃aA aB g',w= .tuple #[]∧B'= [(K,.cells #[iV r.1,.slice aA r.2.length aB] 97 (0,0))]++g'∧OL 104 Cj E' aA aB g' r.2):=by
 refine As.en func122 rfl rfl fun Q bm cs H ao aR=>?_;refine JS.split (S':= [[(K,.cells #[iV le,.slice a all.length c] 97 (0,0))],g]) (by simp) ao fun ao=>?_;unfold F7 at az;refine zg 2 rfl ?_;refine JS.box (v:= .agg #[iV tr.1,.slice aa (tr.2.1).length ab,.int .u16 ((tr.2.2:Nat):Int)]) rfl rfl rfl ao rfl fun aC aS=>?_;refine JS.Bo 2 aS rfl fun ap aq aT ai=>?_;refine zg 6 rfl ?_;refine JL.fd underlying97 (Ag type95) rfl rfl rfl ?_;refine JL.Y (v:= .slice a (all).length c) rfl (fun ρ h=>Yl.load (An underlying95) (h _ _ rfl) (CH (j:=0) (off:=1) ai rfl rfl)) ?_;refine JL.Y rfl (fun ρ h=>Yl.len rfl underlying95 (h _ _ rfl)) ?_;obtain⟨aD,aE,aU⟩:=bs az;refine zg 2 rfl ?_;refine JL.BM [] (fun L s=>∃(ae:LH),Jm ap H ae [[(K,.cells #[iV le,.slice a (all).length c] 97 (0,0))],g] [(0,.pointer (some ⟨K,0,none⟩)),(2,iV U),(4,.pointer (some ⟨aC,0,none⟩)),(19,.bool aD)] L s) ?_ ?_
 ·rintro _ _ ⟨ae,rfl,rfl,aj,aF⟩;obtain⟨O,aG,aV⟩:=bs aU;refine JL.done ?_;refine JL.join (fun L s=>∃(W:LH) (ag:Ar) (ah:Nat) (ak:Seg),Jn ae H W [[(K,.cells #[iV O.1,.slice ag (O.2).length ah] 97 (0,0))],ak] [(0,.pointer (some ⟨K,0,none⟩)),(2,iV U),(4,.pointer (some ⟨aC,0,none⟩))] L s (OL 104 Cj W ag ah ak (O.2))) ?_ ?_
  ·rintro _ _ ⟨W,ag,ah,ak,rfl,rfl,ar,Z,aH⟩;refine zg 5 rfl ?_;refine JL.fd underlying97 (Ag type3) rfl rfl rfl ?_;refine JL.Y (v:=iV O.1) rfl (fun ρ h=>Yl.load (An underlying3) (h _ _ rfl) (CH (j:=0) (off:=0) Z rfl rfl)) ?_;obtain⟨aI,aJ,aW⟩:=bs aV;refine zg 2 rfl ?_;refine JL.join (fun L s=>∃(au:LH) (al:Ar) (am:Nat) (an:Seg),Jn W H au [[(K,.cells #[iV O.1,.slice al (aI).length am] 97 (0,0))],an] [] L s (OL 104 Cj au al am an (aI))) ?_ ?_
   ·rintro _ _ ⟨au,al,am,an,rfl,rfl,aX,aY,aZ⟩;obtain rfl:=oi aW;refine JL.fin (v:= .tuple #[]) rfl rfl (Bv.list func122 rfl (vs:= []) trivial) ?_;exact aR _ _ _ _ (((aq.trans aj).trans ar).trans aX) rfl ⟨al,am,an,rfl,by simp,aZ⟩ aY
   ·intro aK;refine JL.ifs (p:=U=O.1) rfl (fun av=>?_) (fun av=>?_)
    ·have a0:=ip aJ av;refine JG.Cn 8 [K] ⟨⟨0,_,rfl⟩,trivial⟩ Z mixed rfl (by decide+kernel) fun ht=>?_;refine JG.ms ht rfl [0,1,2] rfl ?_;refine JG.fd 3 ht underlying97 (Ag type95) rfl rfl rfl rfl ?_;refine JG.V (v:= .slice ag (O.2).length ah) 4 ht rfl rfl (fun ρ h s' hs=>Yl.load (An underlying95) (h _ _ rfl) (Bh (o:=1) 0 Z rfl (by simp [AA]) hs rfl)) ?_;refine JG.V 5 ht rfl rfl (fun ρ h s' hs=>Yl.Bp (vs:= [iV tr.1,.slice aa (tr.2.1).length ab,.int .u16 ((tr.2.2:Nat):Int)]) (An underlying104) (Ag type104) (h _ _ rfl) (At.Kn (aT.mono (aj.trans ar)) (CS Z hs ⟨⟨0,_,rfl⟩,trivial⟩))) ?_;obtain⟨a1,a2,a3⟩:=bs a0;refine JG.one (i:=6) rfl (by decide+kernel) ?_;refine Take.lit (pp:=Cj) (jp:=0) [.agg #[iV tr.1,.slice aa (tr.2.1).length ab,.int .u16 ((tr.2.2:Nat):Int)]] ([tr]:List (Bz)) Z rfl rfl rfl rfl underlying95 (Ag type104) (AN type104) (by decide) rfl rfl rfl ⟨⟨_,_,rfl,rfl,⟨_,_,rfl,⟨_,_,rfl,(aQ.mono ((aq.trans aj).trans ar))⟩,rfl⟩⟩,trivial⟩ fun bn bo a4 a5=>?_;refine JG.one (i:=7) rfl (by decide+kernel) ?_;refine Take.app (pp:=Cj) (jp:=0) 1 2 a5 rfl a2 rfl rfl rfl rfl rfl rfl rfl underlying95 underlying95 (Ag type104) (CJ type104) (AN type104) rfl (by decide) (by decide) aH a4 rfl rfl rfl rfl fun aL aM bp a6 a7 a8=>?_;refine Au.leaf (tail:= [8,9,10]) (by decide+kernel) (fun t=>A7 (by decide+kernel) (A7 (by decide+kernel) (A7 (by decide+kernel) BU)) t) ?_;refine JS.part 1 rfl a8 fun a9=>?_;refine JS.drop 1 a9 rfl fun ba=>?_;refine zg 1 rfl ?_;refine JL.fd underlying97 (Ag type95) rfl rfl rfl ?_;refine JS.st (v:= .slice aL (a1).length aM) (off:=1) 0 ba (Ag type95) rfl rfl rfl rfl fun bb=>?_;refine JL.done ?_;refine JS.drop 2 bb rfl fun bc=>?_;obtain rfl:=oi a3;exact JL.kw (aK _ _ ⟨W,aL,aM,a6,rfl,rfl,(Le.refl _),bc,a7⟩) rfl
    ·have bd:=im aJ av;refine JL.skip ?_;obtain rfl:=oi bd;exact JL.kw (aK _ _ ⟨W,ag,ah,ak,rfl,rfl,(Le.refl _),Z,aH⟩) rfl
  ·intro aN;refine JL.split (t:=aD) rfl (fun aw=>?_) (fun aw=>?_)
   ·have bf:=ip aG aw;refine zg 5 rfl ?_;refine JL.fd underlying97 (Ag type3) rfl rfl rfl ?_;refine JS.st (v:=iV U) (off:=0) 0 aF (Ag type3) rfl rfl rfl rfl fun bg=>?_;refine zg 1 rfl ?_;refine JL.fd underlying97 (Ag type95) rfl rfl rfl ?_;refine JS.st (v:= .slice none 0 0) (off:=1) 0 bg (Ag type95) rfl rfl rfl rfl fun bh=>?_;refine JL.done ?_;refine JS.drop 1 bh rfl fun bi=>?_;obtain rfl:=oi bf;exact JL.kw (aN _ _ ⟨ae,none,0,[],rfl,rfl,(Le.refl _),bi,OL.nil⟩) rfl
   ·have bj:=ib aG aw;refine JL.skip ?_;obtain rfl:=oi bj;exact JL.kw (aN _ _ ⟨ae,a,c,g,rfl,rfl,(Le.refl _),aF,(aP.mono (aq.trans aj))⟩) rfl
 ·intro aO;refine JL.Cm (q:=((all).length:Int)=0) (i:=12) rfl (fun ay=>?_) (fun ay=>?_)
  ·have bk:=ip aE ay;refine zg 7 rfl ?_;obtain rfl:=oi bk;exact JL.kw (aO _ _ ⟨ap,rfl,rfl,(Le.refl _),ai⟩) rfl
  ·have bl:=im aE ay;refine zg 3 rfl ?_;refine JL.fd underlying97 (Ag type3) rfl rfl rfl ?_;refine JL.Y (v:=iV le) rfl (fun ρ h=>Yl.load (An underlying3) (h _ _ rfl) (CH (j:=0) (off:=0) ai rfl rfl)) ?_;refine zg 2 rfl ?_;obtain rfl:=oi bl;exact JL.kw (aO _ _ ⟨ap,rfl,rfl,(Le.refl _),ai⟩) rfl
end Pal
namespace Pal
open Go Go.Conc Go.Proofs
open Go.Proofs.Tryz
def HY(fuel:Nat)(O:Br)(U:AT)(age:Int)(ms:List Int)(fl:Nat)(m:Int):Option (Option (List Int×Nat)):=
 (HV fuel (O,U,age,ms,fl) ((ms).length:Int) m).bind fun K=>
 if(!K.2)=true then(
  some none
 ) else(
  (f175 fuel ms).bind fun W=>
  (CF W ([m]:List Int)).bind fun Z=>
  (GC (fl) (K.1)).bind fun aa=>
  some (some (Z,aa))
 )
theorem RM{J:Judge Tryz.prog}{A:Type}{I:A→LH→Seg→Prop}(bb:∀x E E' X,Le E E'→I x E X→I x E' X){E:LH}{K k1 U:Nat}{aS aT W aa:Ar}{aU aV Z ab:Nat}{aW:List Value}{am:Br}{O:AT}{age:Int}{ms:List Int}{fl:Nat}(bc:At E k1 U (([.slice aS (am.1).length aU,.slice aT (am.2.1).length aV]:List Value)++aW))(bd:Ao (rL rI) E aS aU (am.1))(bf:Ao (rL rI) E aT aV (am.2.1))(bg:(rA 13 (rN .u16)).r E aW (am.2.2))(bh:Ao Bl E W Z O)(aB:Ao rI E aa ab ms){aX:Value}{X:Seg}{acc acc':A}(bi:I acc E X){m:Int}{fuel:Nat}{r:Option (List Int×Nat)}(aY:HY fuel am O age ms fl m=some r)
  (bj:r=none→acc'=acc)
  (aZ:∀q,r=some q→∀E' a c,Le E E'→Ao rI E' a c q.1→Df J aX [] E' ([(K,.cells #[.pointer (some ⟨k1,U,none⟩),.slice W O.length Z,iV age,.slice a q.1.length c,.int .u16 ((q.2:Nat):Int)] 175 (0,0))]++X) (fun w bk bl=>∃aq mv ar ah,w= .bool true∧bl= [(K,.cells #[.pointer (some ⟨k1,U,none⟩),.slice W O.length Z,aq,mv,ar] 175 (0,0))]++ah∧I acc' bk ah)):
  As J 155 [.pointer (some ⟨K,0,none⟩),iV m,aX] E ([(K,.cells #[.pointer (some ⟨k1,U,none⟩),.slice W O.length Z,iV age,.slice aa ms.length ab,.int .u16 ((fl:Nat):Int)] 175 (0,0))]++X) (fun w E' B'=>∃ah,w= .bool true∧B'= [(K,.cells #[.pointer (some ⟨k1,U,none⟩),.slice W O.length Z,iV age,.slice aa ms.length ab,.int .u16 ((fl:Nat):Int)] 175 (0,0))]++ah∧I acc' E' ah):=by
 refine As.en func155 rfl rfl fun Q a0 cs H aC aD=>?_;refine JS.split (S':= [[(K,.cells #[.pointer (some ⟨k1,U,none⟩),.slice W O.length Z,iV age,.slice aa ms.length ab,.int .u16 ((fl:Nat):Int)] 175 (0,0))],X]) (by simp) aC fun aC=>?_;unfold HY at aY;refine zg 2 rfl ?_;refine JS.box (v:= .pointer (some ⟨K,0,none⟩)) rfl rfl rfl aC rfl fun an bm=>?_;refine JS.Bo 2 bm rfl fun b6 ae aj au=>?_;refine zg 3 rfl ?_;refine JG.Cn 13 [K] ⟨⟨0,_,rfl⟩,trivial⟩ au mixed rfl (by decide+kernel) fun ht=>?_;refine JG.V (v:= .pointer (some ⟨K,0,none⟩)) 0 ht rfl rfl (fun ρ h s' hs=>Yl.load (An underlying173) (h _ _ rfl) (At.CU (j:=0) aj (CS au hs ⟨⟨0,_,rfl⟩,trivial⟩) rfl)) ?_;refine JG.V (v:= .pointer (some ⟨K,0,none⟩)) 1 ht rfl rfl (fun ρ h s' hs=>Yl.load (An underlying173) (h _ _ rfl) (At.CU (j:=0) aj (CS au hs ⟨⟨0,_,rfl⟩,trivial⟩) rfl)) ?_;refine JG.mv 2 ht rfl rfl ?_;refine JG.fd 3 ht underlying175 (Ag type104) rfl rfl rfl rfl ?_;refine JG.fd 4 ht underlying104 (Ag type28) rfl rfl rfl rfl ?_;refine JG.V (v:= .slice aa (ms).length ab) 5 ht rfl rfl (fun ρ h s' hs=>Yl.load (An underlying28) (h _ _ rfl) (Bh (o:=3) 0 au rfl (by simp [AA]) hs rfl)) ?_;refine JG.V 6 ht rfl rfl (fun ρ h s' hs=>Yl.len rfl underlying28 (h _ _ rfl)) ?_;refine JG.mv 7 ht rfl rfl ?_;obtain⟨a1,bn,a2⟩:=bs aY;refine JG.NT (i:=8) (vs:= [.pointer (some ⟨K,0,none⟩),iV ((ms).length:Int),iV m]) 0 ⟨⟨0,_,rfl⟩,trivial⟩ (Qu (bc.mono ae) (bd.mono ae) (bf.mono ae) (Rp.mono _ ae bg) (bh.mono ae) (aB.mono ae) bn) (fun _ _ _ h=>h.2) (by decide+kernel) rfl rfl rfl (Aw func174 rfl) rfl au rfl ?_;rintro _ b7 ag ⟨rfl,_⟩ aE;refine JG.ms ht rfl [9,10,11,12] rfl ?_;refine Au.leaf (tail:= [13]) (by decide+kernel) (fun t=>A7 (by decide+kernel) BU t) ?_;refine zg 6 rfl ?_;refine JL.Y (v:= .bool (!a1.2)) rfl (fun ρ h=>Yl.not (h _ _ rfl)) ?_;refine JL.done ?_;refine JL.split (t:=(!a1.2)) rfl (fun aF=>?_) (fun aF=>?_)
 ·have bo:=ip a2 aF;refine zg 4 rfl ?_;obtain rfl:=oi bo;refine JL.rt func155 rfl rfl ?_;exact aD _ _ _ _ (ae.trans ag) rfl ⟨X,rfl,by simp,by rw [bj rfl];exact bb _ _ _ _ (ae.trans ag) bi⟩ aE
 ·have bp:=ib a2 aF;refine zg 3 rfl ?_;refine JL.ld 0 (aj.mono ag) (An underlying173) rfl rfl rfl ?_;refine zg 1 rfl ?_;refine JL.fd underlying175 (Ag type104) rfl rfl rfl ?_;refine JL.Y rfl (fun ρ h=>Yl.Bp (vs:= [iV age,.slice aa (ms).length ab,.int .u16 ((fl:Nat):Int)]) (An underlying104) (Ag type104) (h _ _ rfl) (Ec (off:=2) 0 aE rfl rfl)) ?_;refine JS.alloc rfl rfl rfl aE (AN type104) fun ao bq=>?_;refine JS.st (v:= .agg #[iV age,.slice aa (ms).length ab,.int .u16 ((fl:Nat):Int)]) (off:=0) 3 bq (Ag type104) rfl rfl rfl rfl fun br=>?_;refine JS.Bo 3 br rfl fun b8 ai aG bu=>?_;refine JS.norm (S':= [[(K,.cells #[.pointer (some ⟨k1,U,none⟩),.slice W (O).length Z,iV age,.slice aa (ms).length ab,.int .u16 ((fl:Nat):Int)] 175 (0,0))],X,[],[]]) rfl bu fun a3=>?_;refine zg 2 rfl ?_;refine JG.Dm 7 mixed rfl (by decide+kernel) fun ht=>?_;refine JG.ld 0 ht 0 (aj.mono (ag.trans ai)) (An underlying173) rfl rfl rfl rfl ?_;refine JG.fd 1 ht underlying104 (Ag type28) rfl rfl rfl rfl ?_;refine JG.ld 2 ht 1 aG (An underlying28) rfl rfl rfl rfl ?_;refine JG.mv 4 ht rfl rfl ?_;obtain⟨b9,a4,bv⟩:=bs bp;obtain⟨ak,a5,a6⟩:=bs bv;refine JG.two (i:=3) (j:=5) rfl (by decide+kernel) ?_ ?_
  ·refine Take.N8 (vs:= [.slice aa (ms).length ab]) a3 (NO (aB.mono ((ae.trans ag).trans ai)) a4) rfl rfl rfl (Aw func175 rfl) rfl ?_;rintro _ ca _ av ⟨cb,cc,cd,rfl,rfl,bw⟩ bx;refine JG.one (i:=5) rfl (by decide+kernel) ?_;refine Take.H4 (pp:=rI) [iV m] ([m]:List Int) bx rfl rfl rfl underlying28 (Ag type3) (AN type3) (by decide) rfl rfl rfl ⟨rfl,trivial⟩ fun ce a7 bz bA=>?_;refine JG.one (i:=6) rfl (by decide+kernel) ?_;refine Take.app0 (pp:=rI) 4 5 bA a5 rfl rfl rfl rfl rfl rfl rfl underlying28 underlying28 (Ag type3) (CJ type3) (AN type3) rfl (by decide) (by decide) bw bz rfl rfl fun aH aI cf bB bC bD=>?_;refine Au.leaf (tail:= [7,8,9,10]) (by decide+kernel) (fun t=>A7 (by decide+kernel) (A7 (by decide+kernel) (A7 (by decide+kernel) (A7 (by decide+kernel) BU))) t) ?_;refine JS.part 4 rfl bD fun bE=>?_;refine JS.drop 4 bE rfl fun bF=>?_;refine JS.norm (S':= [[(K,.cells #[.pointer (some ⟨k1,U,none⟩),.slice W (O).length Z,iV age,.slice aa (ms).length ab,.int .u16 ((fl:Nat):Int)] 175 (0,0))],X,[],[],[],a7,bB]) rfl bF fun bG=>?_;refine zg 1 rfl ?_;refine JL.fd underlying175 (Ag type104) rfl rfl rfl ?_;refine JL.fd underlying104 (Ag type28) rfl rfl rfl ?_;refine JS.st (v:= .slice aH (ak).length aI) (off:=3) 0 bG (Ag type28) rfl rfl rfl rfl fun a8=>?_;refine zg 3 rfl ?_;refine JL.ld 0 (aj.mono ((ag.trans ai).trans av)) (An underlying173) rfl rfl rfl ?_;refine zg 1 rfl ?_;refine JL.fd underlying175 (Ag type104) rfl rfl rfl ?_;refine JL.fd underlying104 (Ag type102) rfl rfl rfl ?_;refine JL.Y (v:= .int .u16 ((fl:Nat):Int)) rfl (fun ρ h=>Yl.load (An underlying102) (h _ _ rfl) (CH (j:=0) (off:=4) a8 rfl rfl)) ?_;obtain⟨aw,bH,bI⟩:=bs a6;refine zg 1 rfl ?_;refine JL.Y (v:= .int .u16 ((aw:Nat):Int)) rfl (fun ρ h=>Yl.HI (h _ _ rfl) (h _ _ rfl) bH) ?_;refine zg 1 rfl ?_;refine JL.fd underlying175 (Ag type104) rfl rfl rfl ?_;refine JL.fd underlying104 (Ag type102) rfl rfl rfl ?_;refine JS.st (v:= .int .u16 ((aw:Nat):Int)) (off:=4) 0 a8 (Ag type102) rfl rfl rfl rfl fun bJ=>?_;refine zg 2 rfl ?_;refine JS.BO 6 bC bJ rfl fun cg az bK bL=>?_;refine JS.norm (S':= [[(K,.cells #[.pointer (some ⟨k1,U,none⟩),.slice W (O).length Z,iV age,.slice aH (ak).length aI,.int .u16 ((aw:Nat):Int)] 175 (0,0))],X,[],[],[],a7,[]]) rfl bL fun bM=>?_;refine JS.drop 5 bM rfl fun bN=>?_;obtain rfl:=oi bI;refine JL.region ?_;refine JL.Y (v:= .func (.func 176) #[] [.pointer (some ⟨ao,0,none⟩),.pointer (some ⟨an,0,none⟩)].toArray) rfl (fun ρ h=>Yl.Gm (by simp) (by simp [h (.tmp 9) _ rfl,h (.tmp 3) _ rfl])) ?_;refine JL.Nw (vs:= []) (caps:= [.pointer (some ⟨ao,0,none⟩),.pointer (some ⟨an,0,none⟩)]) rfl rfl rfl rfl rfl rfl ?_;refine zg 4 rfl ?_;refine JS.split (S':= [[(K,.cells #[.pointer (some ⟨k1,U,none⟩),.slice W (O).length Z,iV age,.slice aH (ak).length aI,.int .u16 ((aw:Nat):Int)] 175 (0,0))]++X]) (by simp) bN fun aJ=>?_;refine JS.G6 (vs:= []) 0 (aZ (ak,aw) rfl _ _ _ ((((ae.trans ag).trans ai).trans av).trans az) bK) rfl rfl rfl rfl rfl aJ rfl ?_;rintro _ bO _ al ⟨aq,mv,ar,ah,rfl,rfl,aK⟩ aL;refine zg 2 rfl ?_;refine JL.F1 rfl ?_;refine JO.Nl (vs:= []) (caps:= [.pointer (some ⟨ao,0,none⟩),.pointer (some ⟨an,0,none⟩)]) rfl func176 rfl rfl (Nat.le_of_ble_eq_true rfl) fun T aM todo=>?_;refine JS.split (S':= [[(K,.cells #[.pointer (some ⟨k1,U,none⟩),.slice W O.length Z,aq,mv,ar] 175 (0,0))],ah]) (by simp) aL fun aN=>?_;refine JL.region ?_;refine JL.ld 0 (aj.mono ((((ag.trans ai).trans av).trans az).trans al)) (An underlying173) rfl rfl rfl ?_;refine JL.Bx (aG.mono ((av.trans az).trans al)) (An underlying104) (Ag type104) rfl rfl ?_;refine zg 1 rfl ?_;refine JL.fd underlying175 (Ag type104) rfl rfl rfl ?_;refine JS.st (v:= .agg #[iV age,.slice aa ms.length ab,.int .u16 ((fl:Nat):Int)]) (off:=2) 0 aN (Ag type104) rfl rfl rfl rfl fun aO=>?_;refine JS.norm (S':= [[(K,.cells #[.pointer (some ⟨k1,U,none⟩),.slice W O.length Z,iV age,.slice aa ms.length ab,.int .u16 ((fl:Nat):Int)] 175 (0,0))],ah]) rfl aO fun aP=>?_;refine JL.done ?_;refine JL.out rfl ?_;refine JO.leaveD rfl func176 rfl (.inl rfl) ?_;refine(?_:JO J Q (base 155) Tryz.f155.ntmps _ [] (a0::cs) _) T aM todo;refine JO.leave (v:= .bool true) rfl (Bv.list func155 rfl (vs:= [.bool true]) ⟨rfl,trivial⟩) ?_;exact aD _ _ _ _ (((((ae.trans ag).trans ai).trans av).trans az).trans al) rfl ⟨ah,rfl,by simp,aK⟩ aP
  ·refine Take.H4 (pp:=rI) [iV m] ([m]:List Int) a3 rfl rfl rfl underlying28 (Ag type3) (AN type3) (by decide) rfl rfl rfl ⟨rfl,trivial⟩ fun ci a9 bP bQ=>?_;refine JG.one (i:=3) rfl (by decide+kernel) ?_;refine Take.N8 (vs:= [.slice aa (ms).length ab]) bQ (NO (aB.mono ((ae.trans ag).trans ai)) a4) rfl rfl rfl (Aw func175 rfl) rfl ?_;rintro _ ck _ ap ⟨cm,cn,co,rfl,rfl,bR⟩ bS;refine JG.one (i:=6) rfl (by decide+kernel) ?_;refine Take.app0 (pp:=rI) 5 4 bS a5 rfl rfl rfl rfl rfl rfl rfl underlying28 underlying28 (Ag type3) (CJ type3) (AN type3) rfl (by decide) (by decide) bR (bP.mono ap) rfl rfl fun aQ aR cp bT bU bV=>?_;refine Au.leaf (tail:= [7,8,9,10]) (by decide+kernel) (fun t=>A7 (by decide+kernel) (A7 (by decide+kernel) (A7 (by decide+kernel) (A7 (by decide+kernel) BU))) t) ?_;refine JS.part 5 rfl bV fun bW=>?_;refine JS.drop 5 bW rfl fun bX=>?_;refine JS.norm (S':= [[(K,.cells #[.pointer (some ⟨k1,U,none⟩),.slice W (O).length Z,iV age,.slice aa (ms).length ab,.int .u16 ((fl:Nat):Int)] 175 (0,0))],X,[],[],a9,[],bT]) rfl bX fun bY=>?_;refine zg 1 rfl ?_;refine JL.fd underlying175 (Ag type104) rfl rfl rfl ?_;refine JL.fd underlying104 (Ag type28) rfl rfl rfl ?_;refine JS.st (v:= .slice aQ (ak).length aR) (off:=3) 0 bY (Ag type28) rfl rfl rfl rfl fun ba=>?_;refine zg 3 rfl ?_;refine JL.ld 0 (aj.mono ((ag.trans ai).trans ap)) (An underlying173) rfl rfl rfl ?_;refine zg 1 rfl ?_;refine JL.fd underlying175 (Ag type104) rfl rfl rfl ?_;refine JL.fd underlying104 (Ag type102) rfl rfl rfl ?_;refine JL.Y (v:= .int .u16 ((fl:Nat):Int)) rfl (fun ρ h=>Yl.load (An underlying102) (h _ _ rfl) (CH (j:=0) (off:=4) ba rfl rfl)) ?_;obtain⟨ay,bZ,b0⟩:=bs a6;refine zg 1 rfl ?_;refine JL.Y (v:= .int .u16 ((ay:Nat):Int)) rfl (fun ρ h=>Yl.HI (h _ _ rfl) (h _ _ rfl) bZ) ?_;refine zg 1 rfl ?_;refine JL.fd underlying175 (Ag type104) rfl rfl rfl ?_;refine JL.fd underlying104 (Ag type102) rfl rfl rfl ?_;refine JS.st (v:= .int .u16 ((ay:Nat):Int)) (off:=4) 0 ba (Ag type102) rfl rfl rfl rfl fun b1=>?_;refine zg 2 rfl ?_;refine JS.BO 6 bU b1 rfl fun cq aA b2 b3=>?_;refine JS.norm (S':= [[(K,.cells #[.pointer (some ⟨k1,U,none⟩),.slice W (O).length Z,iV age,.slice aQ (ak).length aR,.int .u16 ((ay:Nat):Int)] 175 (0,0))],X,[],[],a9,[],[]]) rfl b3 fun b4=>?_;refine JS.drop 4 b4 rfl fun b5=>?_;obtain rfl:=oi b0;refine JL.region ?_;refine JL.Y (v:= .func (.func 176) #[] [.pointer (some ⟨ao,0,none⟩),.pointer (some ⟨an,0,none⟩)].toArray) rfl (fun ρ h=>Yl.Gm (by simp) (by simp [h (.tmp 9) _ rfl,h (.tmp 3) _ rfl])) ?_;refine JL.Nw (vs:= []) (caps:= [.pointer (some ⟨ao,0,none⟩),.pointer (some ⟨an,0,none⟩)]) rfl rfl rfl rfl rfl rfl ?_;refine zg 4 rfl ?_;refine JS.split (S':= [[(K,.cells #[.pointer (some ⟨k1,U,none⟩),.slice W (O).length Z,iV age,.slice aQ (ak).length aR,.int .u16 ((ay:Nat):Int)] 175 (0,0))]++X]) (by simp) b5 fun aJ=>?_;refine JS.G6 (vs:= []) 0 (aZ (ak,ay) rfl _ _ _ ((((ae.trans ag).trans ai).trans ap).trans aA) b2) rfl rfl rfl rfl rfl aJ rfl ?_;rintro _ bO _ al ⟨aq,mv,ar,ah,rfl,rfl,aK⟩ aL;refine zg 2 rfl ?_;refine JL.F1 rfl ?_;refine JO.Nl (vs:= []) (caps:= [.pointer (some ⟨ao,0,none⟩),.pointer (some ⟨an,0,none⟩)]) rfl func176 rfl rfl (Nat.le_of_ble_eq_true rfl) fun T aM todo=>?_;refine JS.split (S':= [[(K,.cells #[.pointer (some ⟨k1,U,none⟩),.slice W O.length Z,aq,mv,ar] 175 (0,0))],ah]) (by simp) aL fun aN=>?_;refine JL.region ?_;refine JL.ld 0 (aj.mono ((((ag.trans ai).trans ap).trans aA).trans al)) (An underlying173) rfl rfl rfl ?_;refine JL.Bx (aG.mono ((ap.trans aA).trans al)) (An underlying104) (Ag type104) rfl rfl ?_;refine zg 1 rfl ?_;refine JL.fd underlying175 (Ag type104) rfl rfl rfl ?_;refine JS.st (v:= .agg #[iV age,.slice aa ms.length ab,.int .u16 ((fl:Nat):Int)]) (off:=2) 0 aN (Ag type104) rfl rfl rfl rfl fun aO=>?_;refine JS.norm (S':= [[(K,.cells #[.pointer (some ⟨k1,U,none⟩),.slice W O.length Z,iV age,.slice aa ms.length ab,.int .u16 ((fl:Nat):Int)] 175 (0,0))],ah]) rfl aO fun aP=>?_;refine JL.done ?_;refine JL.out rfl ?_;refine JO.leaveD rfl func176 rfl (.inl rfl) ?_;refine(?_:JO J Q (base 155) Tryz.f155.ntmps _ [] (a0::cs) _) T aM todo;refine JO.leave (v:= .bool true) rfl (Bv.list func155 rfl (vs:= [.bool true]) ⟨rfl,trivial⟩) ?_;exact aD _ _ _ _ (((((ae.trans ag).trans ai).trans ap).trans aA).trans al) rfl ⟨ah,rfl,by simp,aK⟩ aP
end Pal
namespace Pal
open Go Go.Conc Go.Proofs
open Go.Proofs.Tryz
def H0(fuel:Nat)(K:Br)(W:AT)(age:Int)(ms:List Int)(fl:Nat)(n:Int):Option (Nat):=
 (ix K.1 (n)).bind fun O=>
 (f120 fuel O).bind fun U=>
 some U
theorem S9{J:Judge Tryz.prog}{E:LH}{O k1 U:Nat}{am ao ag ah:Ar}{an ap ai aj:Nat}{aq:List Value}{W:Br}{Z:AT}{age:Int}{ms:List Int}{fl:Nat}(az:At E k1 U (([.slice am (W.1).length an,.slice ao (W.2.1).length ap]:List Value)++aq))(aA:Ao (rL rI) E am an (W.1))(aV:Ao (rL rI) E ao ap (W.2.1))(aW:(rA 13 (rN .u16)).r E aq (W.2.2))(aX:Ao Bl E ag ai Z)(aY:Ao rI E ah aj ms){aa ab:Nat}(aB:At E aa ab [.pointer (some ⟨O,0,none⟩)]){ak al kf ae:Nat}(aC:At E kf ae [.func (.func 153) #[] [.pointer (some ⟨aa,ab,none⟩),.pointer (some ⟨ak,al,none⟩),.pointer (some ⟨kf,ae,none⟩)].toArray]){ar on:Nat}{n:Int}(aD:At E ar on [iV n]){X:Seg}{fuel:Nat}{r:Nat}(au:H0 fuel W Z age ms fl n=some r){R:Value→LH→Seg→Prop}
  (aE:∀E',Le E E'→As J 153 [.int .u16 ((r:Nat):Int),.pointer (some ⟨aa,ab,none⟩),.pointer (some ⟨ak,al,none⟩),.pointer (some ⟨kf,ae,none⟩)] E' ([(O,.cells #[.pointer (some ⟨k1,U,none⟩),.slice ag Z.length ai,iV age,.slice ah ms.length aj,.int .u16 ((fl:Nat):Int)] 175 (0,0))]++X) R):
  As J 156 [.pointer (some ⟨kf,ae,none⟩),.pointer (some ⟨aa,ab,none⟩),.pointer (some ⟨ar,on,none⟩)] E ([(O,.cells #[.pointer (some ⟨k1,U,none⟩),.slice ag Z.length ai,iV age,.slice ah ms.length aj,.int .u16 ((fl:Nat):Int)] 175 (0,0))]++X) R:=by
 refine As.en func156 rfl rfl fun Q aZ cs H K aF=>?_;refine JS.split (S':= [[(O,.cells #[.pointer (some ⟨k1,U,none⟩),.slice ag Z.length ai,iV age,.slice ah ms.length aj,.int .u16 ((fl:Nat):Int)] 175 (0,0))],X]) (by simp) K fun K=>?_;unfold H0 at au;refine zg 5 rfl ?_;refine JG.Cn 13 [O] ⟨⟨0,_,rfl⟩,trivial⟩ K mixed rfl (by decide+kernel) fun ht=>?_;refine JG.V (v:= .func (.func 153) #[] [.pointer (some ⟨aa,ab,none⟩),.pointer (some ⟨ak,al,none⟩),.pointer (some ⟨kf,ae,none⟩)].toArray) 0 ht rfl rfl (fun ρ h s' hs=>Yl.load (An underlying201) (h _ _ rfl) (At.CU (j:=0) aC (CS K hs ⟨⟨0,_,rfl⟩,trivial⟩) rfl)) ?_;refine JG.V (v:= .pointer (some ⟨O,0,none⟩)) 1 ht rfl rfl (fun ρ h s' hs=>Yl.load (An underlying173) (h _ _ rfl) (At.CU (j:=0) aB (CS K hs ⟨⟨0,_,rfl⟩,trivial⟩) rfl)) ?_;refine JG.mv 2 ht rfl rfl ?_;refine JG.fd 3 ht underlying175 (Ag type94) rfl rfl rfl rfl ?_;refine JG.V (v:= .pointer (some ⟨k1,U,none⟩)) 4 ht rfl rfl (fun ρ h s' hs=>Yl.load (An underlying94) (h _ _ rfl) (Bh (o:=0) 0 K rfl (by simp [AA]) hs rfl)) ?_;refine JG.mv 5 ht rfl rfl ?_;refine JG.fd 6 ht underlying141 (Ag type24) rfl rfl rfl rfl ?_;refine JG.fd 7 ht underlying24 (Ag type22) rfl rfl rfl rfl ?_;refine JG.V (v:= .slice am (W.1).length an) 8 ht rfl rfl (fun ρ h s' hs=>Yl.load (An underlying22) (h _ _ rfl) (At.CU (j:=0) az (CS K hs ⟨⟨0,_,rfl⟩,trivial⟩) rfl)) ?_;refine JG.V (v:=iV n) 9 ht rfl rfl (fun ρ h s' hs=>Yl.load (An underlying3) (h _ _ rfl) (At.CU (j:=0) aD (CS K hs ⟨⟨0,_,rfl⟩,trivial⟩) rfl)) ?_;obtain⟨av,aG,aH⟩:=bs au;refine JG.idx 10 aA aG rfl ht (by decide+kernel) rfl rfl rfl rfl rfl underlying22 (Ag type28) ?_;rintro a0 a1 _ ⟨aw,c4,rfl,aI⟩ aJ;refine JG.V (v:= .slice aw (av).length c4) 11 ht rfl rfl (fun ρ h s' hs=>Yl.load (An underlying28) (h _ _ rfl) (At.CU (j:=0) aJ (CS K hs ⟨⟨0,_,rfl⟩,trivial⟩) rfl)) ?_;obtain⟨aK,aL,aM⟩:=bs aH;refine JG.Ja (i:=12) ⟨⟨0,_,rfl⟩,trivial⟩ (vs:= [.slice aw (av).length c4]) (G1 aI aL) (by decide+kernel) rfl rfl rfl (Aw func120 rfl) rfl K ?_;rintro _ aN _ ay ⟨rfl,rfl⟩ aO;refine Au.leaf (tail:= [13,14]) (by decide+kernel) (fun t=>A7 (by decide+kernel) (A7 (by decide+kernel) BU) t) ?_;obtain rfl:=oi aM;refine JS.split (S':= [[(O,.cells #[.pointer (some ⟨k1,U,none⟩),.slice ag Z.length ai,iV age,.slice ah ms.length aj,.int .u16 ((fl:Nat):Int)] 175 (0,0))]++X]) (by simp) aO fun aP=>?_;have aQ:Df J (.func (.func 153) #[] [.pointer (some ⟨aa,ab,none⟩),.pointer (some ⟨ak,al,none⟩),.pointer (some ⟨kf,ae,none⟩)].toArray) [.int .u16 ((aK:Nat):Int)] aN ([(O,.cells #[.pointer (some ⟨k1,U,none⟩),.slice ag Z.length ai,iV age,.slice ah ms.length aj,.int .u16 ((fl:Nat):Int)] 175 (0,0))]++X) R:=Df.ofFn (caps:= [.pointer (some ⟨aa,ab,none⟩),.pointer (some ⟨ak,al,none⟩),.pointer (some ⟨kf,ae,none⟩)]) (Aw func153 rfl) (aE _ ay);refine JS.G6 0 aQ rfl rfl rfl rfl rfl aP rfl ?_;rintro w a2 aR aS aT aU;refine zg 2 rfl ?_;refine JL.rt func156 rfl rfl ?_;exact aF _ _ _ aR (ay.trans aS) (by simp) aT aU
end Pal
namespace Pal
open Go Go.Conc Go.Proofs
open Go.Proofs.Tryz
def Gv(fuel:Nat)(K:Br)(O:AT)(age:Int)(ms:List Int)(fl:Nat)(sm:Nat):Option (Option (List Int)):=
 (HO fuel (K,O,age,ms,fl)).bind fun U=>
 if U<((ms).length:Int) then(
  some none
 ) else(
  (f89 fuel sm).bind fun W=>
  some (some W)
 )
def KV(rec:Nat→List Int→Nat→List (List Int×Nat)→Option (List (List Int×Nat)))(fuel:Nat)(K:Br)(O:AT)(age:Int)(ms:List Int)(fl:Nat)(ac:List (List Int×Nat))(n:Int):Option (List (List Int×Nat)):=
 (HY fuel K O age ms fl n).bind fun r=>match r with
  | none=>some ac
  | some q=>(H0 fuel K O age q.1 q.2 n).bind fun s'=>rec s' q.1 q.2 ac
def Hg(ok:List (List Int×Nat)→Bool)(rec:Nat→List Int→Nat→List (List Int×Nat)→Option (List (List Int×Nat)))(fuel:Nat)(K:Br)(O:AT)(age:Int)(ms:List Int)(fl:Nat)(ac:List (List Int×Nat)):Option (List Int)→Option (List (List Int×Nat))
 | none=>if ok (ac++ [(ms,fl)])=true then some (ac++ [(ms,fl)]) else none
 | some l=>if l.length≤1000 then Dv (KV rec fuel K O age ms fl) l ac else none
def Ga(ok:List (List Int×Nat)→Bool)(fuel:Nat)(K:Br)(O:AT)(age:Int):Nat→Nat→List Int→Nat→List (List Int×Nat)→Option (List (List Int×Nat))
 | 0,_,_,_,_=>none
 | g+1,sm,ms,fl,ac=>(Gv fuel K O age ms fl sm).bind fun r=>Hg ok (Ga ok fuel K O age g) fuel K O age ms fl ac r
theorem Sk{J:Judge Tryz.prog}{I:List (List Int×Nat)→LH→Seg→Prop}(au:∀x E E' X,Le E E'→I x E X→I x E' X){E:LH}{K k1 ab:Nat}{aS aT ae Z:Ar}{aU aV ag aa:Nat}{aW:List Value}{ak:Br}{U:AT}{age:Int}{ms:List Int}{fl:Nat}(aG:At E k1 ab (([.slice aS (ak.1).length aU,.slice aT (ak.2.1).length aV]:List Value)++aW))(aH:Ao (rL rI) E aS aU (ak.1))(aI:Ao (rL rI) E aT aV (ak.2.1))(aJ:(rA 13 (rN .u16)).r E aW (ak.2.2))(aK:Ao Bl E ae ag U)(aL:Ao rI E Z aa ms){ao ap:Nat}(ay:At E ao ap [.pointer (some ⟨K,0,none⟩)]){aA aB kf aq:Nat}(a9:At E kf aq [.func (.func 153) #[] [.pointer (some ⟨ao,ap,none⟩),.pointer (some ⟨aA,aB,none⟩),.pointer (some ⟨kf,aq,none⟩)].toArray]){aM:Value}(ba:At E aA aB [aM]){X:Seg}{acc acc':List (List Int×Nat)}{ok:List (List Int×Nat)→Bool}(aX:I acc E X){rec:Nat→List Int→Nat→List (List Int×Nat)→Option (List (List Int×Nat))}(bb:∀s' al av ac aC,rec s' al av ac=some aC→∀E' O a c,Le E E'→Ao rI E' a c al→I ac E' O→As J 153 [.int .u16 ((s':Nat):Int),.pointer (some ⟨ao,ap,none⟩),.pointer (some ⟨aA,aB,none⟩),.pointer (some ⟨kf,aq,none⟩)] E' ([(K,.cells #[.pointer (some ⟨k1,ab,none⟩),.slice ae U.length ag,iV age,(.slice a al.length c),(.int .u16 ((av:Nat):Int))] 175 (0,0))]++O) (fun w E' B'=>∃aN mv aO O,w= .bool true∧B'= [(K,.cells #[.pointer (some ⟨k1,ab,none⟩),.slice ae U.length ag,aN,mv,aO] 175 (0,0))]++O∧I aC E' O))(bc:∀(E':LH) (O:Seg) (ac:List (List Int×Nat)) (al:List Int) (av:Nat) (a:Ar) (c:Nat),Le E E'→Ao rI E' a c al→I ac E' O→ok (ac++ [(al,av)])=true→Df J aM [.agg #[iV age,.slice a al.length c,.int .u16 ((av:Nat):Int)]] E' O (fun w aY bd=>w= .bool true∧I (ac++ [(al,av)]) aY bd)){sm:Nat}{fuel:Nat}{r:Option (List Int)}(aZ:Gv fuel ak U age ms fl sm=some r)(ah:Hg ok rec fuel ak U age ms fl acc r=some acc'):
  As J 153 [.int .u16 ((sm:Nat):Int),.pointer (some ⟨ao,ap,none⟩),.pointer (some ⟨aA,aB,none⟩),.pointer (some ⟨kf,aq,none⟩)] E ([(K,.cells #[.pointer (some ⟨k1,ab,none⟩),.slice ae U.length ag,iV age,.slice Z ms.length aa,.int .u16 ((fl:Nat):Int)] 175 (0,0))]++X) (fun w E' B'=>∃aN mv aO O,w= .bool true∧B'= [(K,.cells #[.pointer (some ⟨k1,ab,none⟩),.slice ae U.length ag,aN,mv,aO] 175 (0,0))]++O∧I acc' E' O):=by
 refine As.en func153 rfl rfl fun Q bP cs H ar a0=>?_;refine JS.split (S':= [[(K,.cells #[.pointer (some ⟨k1,ab,none⟩),.slice ae U.length ag,iV age,.slice Z ms.length aa,.int .u16 ((fl:Nat):Int)] 175 (0,0))],X]) (by simp) ar fun ar=>?_;unfold Gv at aZ;refine zg 6 rfl ?_;refine JG.Cn 8 [K] ⟨⟨0,_,rfl⟩,trivial⟩ ar mixed rfl (by decide+kernel) fun ht=>?_;refine JG.V (v:= .pointer (some ⟨K,0,none⟩)) 0 ht rfl rfl (fun ρ h s' hs=>Yl.load (An underlying173) (h _ _ rfl) (At.CU (j:=0) ay (CS ar hs ⟨⟨0,_,rfl⟩,trivial⟩) rfl)) ?_;refine JG.mv 1 ht rfl rfl ?_;refine JG.fd 2 ht underlying175 (Ag type104) rfl rfl rfl rfl ?_;refine JG.fd 3 ht underlying104 (Ag type28) rfl rfl rfl rfl ?_;refine JG.V (v:= .slice Z (ms).length aa) 4 ht rfl rfl (fun ρ h s' hs=>Yl.load (An underlying28) (h _ _ rfl) (Bh (o:=3) 0 ar rfl (by simp [AA]) hs rfl)) ?_;refine JG.V 5 ht rfl rfl (fun ρ h s' hs=>Yl.len rfl underlying28 (h _ _ rfl)) ?_;refine JG.V (v:= .pointer (some ⟨K,0,none⟩)) 6 ht rfl rfl (fun ρ h s' hs=>Yl.load (An underlying173) (h _ _ rfl) (At.CU (j:=0) ay (CS ar hs ⟨⟨0,_,rfl⟩,trivial⟩) rfl)) ?_;obtain⟨bf,bg,a1⟩:=bs aZ;refine JG.NT (i:=7) (vs:= [.pointer (some ⟨K,0,none⟩)]) 0 ⟨⟨0,_,rfl⟩,trivial⟩ (Q0 aG aH aI aJ aK aL bg) (fun _ _ _ h=>h.2) (by decide+kernel) rfl rfl rfl (Aw func154 rfl) rfl ar rfl ?_;rintro _ a2 W ⟨rfl,_⟩ am;refine Au.leaf (tail:= [8]) (by decide+kernel) (fun t=>A7 (by decide+kernel) BU t) ?_;refine zg 2 rfl ?_;refine JL.ifs (p:=bf<((ms).length:Int)) rfl (fun aP=>?_) (fun aP=>?_)
 ·have bh:=ip a1 aP;refine JL.seq ?_;refine JG.Cn 5 [K] ⟨⟨0,_,rfl⟩,trivial⟩ am mixed rfl (by decide+kernel) fun ht=>?_;refine JG.V (v:=aM) 0 ht rfl rfl (fun ρ h s' hs=>Yl.load (An underlying200) (h _ _ rfl) (At.CU (j:=0) (ba.mono W) (CS am hs ⟨⟨0,_,rfl⟩,trivial⟩) rfl)) ?_;refine JG.V (v:= .pointer (some ⟨K,0,none⟩)) 1 ht rfl rfl (fun ρ h s' hs=>Yl.load (An underlying173) (h _ _ rfl) (At.CU (j:=0) (ay.mono W) (CS am hs ⟨⟨0,_,rfl⟩,trivial⟩) rfl)) ?_;refine JG.mv 2 ht rfl rfl ?_;refine JG.fd 3 ht underlying175 (Ag type104) rfl rfl rfl rfl ?_;refine JG.V 4 ht rfl rfl (fun ρ h s' hs=>Yl.Bp (vs:= [iV age,.slice Z (ms).length aa,.int .u16 ((fl:Nat):Int)]) (An underlying104) (Ag type104) (h _ _ rfl) (Pv (o:=2) 0 am rfl (by simp [AA]) hs rfl)) ?_;refine Au.leaf (tail:= [5,6]) (by decide+kernel) (fun t=>A7 (by decide+kernel) (A7 (by decide+kernel) BU) t) ?_;obtain rfl:=oi bh;have a3:ok (acc++ [(ms,fl)])=true∧acc++ [(ms,fl)]=acc':=by
   simp only [Hg] at ah;split at ah
   ·exact⟨by assumption,Option.some.inj ah⟩
   ·cases ah
  obtain⟨bi,a3⟩:=a3;subst acc';refine JS.G6 (vs:= [.agg #[iV age,.slice Z ms.length aa,.int .u16 ((fl:Nat):Int)]]) 1 (bc _ _ _ _ _ _ _ W (aL.mono W) (au _ _ _ _ W aX) bi) rfl rfl rfl rfl rfl am rfl ?_;rintro _ bQ bj bk ⟨rfl,bl⟩ bm;refine zg 2 rfl ?_;refine JL.rt func153 rfl rfl ?_;exact a0 _ _ _ _ (W.trans bk) rfl ⟨iV age,.slice Z ms.length aa,.int .u16 ((fl:Nat):Int),bj,rfl,by simp,bl⟩ bm
 ·have bn:=im a1 aP;obtain⟨aj,bo,bp⟩:=bs bn;refine zg 5 rfl ?_;refine JS.cl (Gr bo) rfl rfl (Aw func89 rfl) am ?_;rintro _ bq _ aQ ⟨a4,a5,rfl,rfl,br⟩ bu;refine JL.Y rfl (fun ρ h=>Yl.len rfl underlying28 (h _ _ rfl)) ?_;refine zg 2 rfl ?_;obtain rfl:=oi bp;have bv:(aj).length≤1000∧Dv (KV rec fuel ak U age ms fl) aj acc=some acc':=by
   simp only [Hg] at ah;split at ah
   ·exact⟨by assumption,ah⟩
   ·cases ah
  obtain⟨hlen,ah⟩:=bv;refine JL.block ?_;refine JL.wk [(1,.pointer (some ⟨ao,ap,none⟩)),(3,.pointer (some ⟨kf,aq,none⟩)),(24,.slice a4 (aj).length a5),(25,iV ((aj).length:Int)),(26,iV 0)] rfl ?_;refine JS.split (S':= [[(K,.cells #[.pointer (some ⟨k1,ab,none⟩),.slice ae U.length ag,iV age,.slice Z ms.length aa,.int .u16 ((fl:Nat):Int)] 175 (0,0))],X]) (by simp) bu fun bw=>?_;refine JL.Qo (l:=aj) ah (fun L s i ac=>∃aD aw,Jn bq H aD [[(K,.cells #[.pointer (some ⟨k1,ab,none⟩),.slice ae U.length ag,iV age,.slice Z ms.length aa,.int .u16 ((fl:Nat):Int)] 175 (0,0))],aw] [(1,.pointer (some ⟨ao,ap,none⟩)),(3,.pointer (some ⟨kf,aq,none⟩)),(24,.slice a4 (aj).length a5),(25,iV ((aj).length:Int)),(26,iV ((i:Nat):Int))] L s (I ac aD aw)) ⟨_,X,rfl,rfl,Le.refl _,bw,au _ _ _ _ (W.trans aQ) aX⟩ ?_ ?_
  ·rintro _ _ i ac n aC ⟨aD,aw,rfl,rfl,az,aR,aE⟩ bx bR bz bA;have bB:=(W.trans aQ).trans az;refine zg 5 rfl ?_;rw [decide_eq_true (show((i:Nat):Int)<((aj).length:Int) by omega)];refine zg 6 rfl ?_;have bC:ix aj ((i:Nat):Int)=some n:=by unfold ix;rw [if_pos (by omega)];exact bx
   refine JS.BV (br.mono az) bC rfl rfl rfl rfl rfl underlying28 (Ag type3) ?_;rintro kk bS _ rfl bD;refine JL.ld 0 bD (An underlying3) rfl rfl rfl ?_;refine JS.alloc rfl rfl rfl aR (AN type3) fun bE bF=>?_;refine JS.st (v:=iV n) (off:=0) 2 bF (Ag type3) rfl rfl rfl rfl fun bG=>?_;refine JS.Bo 2 bG rfl fun bT aF a6 bH=>?_;have an:=bB.trans aF;refine zg 3 rfl ?_;refine JL.ld 0 (ay.mono an) (An underlying173) rfl rfl rfl ?_;refine JL.ld 0 a6 (An underlying3) rfl rfl rfl ?_;refine JL.Y (v:= .func (.func 156) #[] [.pointer (some ⟨kf,aq,none⟩),.pointer (some ⟨ao,ap,none⟩),.pointer (some ⟨bE,0,none⟩)].toArray) rfl (fun ρ h=>Yl.Gm (by simp) (by simp [h (.tmp 3) _ rfl,h (.tmp 1) _ rfl,h (.tmp 7) _ rfl])) ?_;refine JS.split (S':= [[(K,.cells #[.pointer (some ⟨k1,ab,none⟩),.slice ae U.length ag,iV age,.slice Z ms.length aa,.int .u16 ((fl:Nat):Int)] 175 (0,0))]++aw]) (by simp) bH fun am=>?_;obtain⟨q,bI,a7⟩:=Option.bind_eq_some_iff.1 bz;refine JS.Bu 0 (RM au (aG.mono an) (aH.mono an) (aI.mono an) (Rp.mono _ an aJ) (aK.mono an) (aL.mono an) (acc':=aC) (au _ _ _ _ aF aE) bI (fun e=>by subst e;exact(Option.some.inj a7).symm) (fun p e E' a c hle a8=>?_)) rfl rfl (Aw func155 rfl) am rfl ?_
   ·subst e;obtain⟨s',bJ,bK⟩:=Option.bind_eq_some_iff.1 a7;have ai:=an.trans hle;exact Df.ofFn (Aw func156 rfl) (S9 (aG.mono ai) (aH.mono ai) (aI.mono ai) (Rp.mono _ ai aJ) (aK.mono ai) a8 (ay.mono ai) (a9.mono ai) (a6.mono hle) bJ fun aY W=>bb _ _ _ _ _ bK _ _ _ _ (ai.trans W) (a8.mono W) (au _ _ _ _ (hle.trans W) (au _ _ _ _ aF aE)))
   rintro _ a2 _ ai ⟨O,rfl,rfl,bL⟩ bM;refine JL.Y (v:= .bool (!true)) rfl (fun ρ h=>Yl.not (h _ _ rfl)) ?_;refine zg 5 rfl ?_;have bN:Ay (((i:Nat):Int)+1)=some (((i+1:Nat)):Int):=by unfold Ay;rw [if_pos (by omega)];simp
   refine JL.Y rfl (fun ρ h=>Yl.A6 (h _ _ rfl) (h _ _ rfl) bN) ?_;refine zg 2 rfl ?_;refine JS.split (S':= [[(K,.cells #[.pointer (some ⟨k1,ab,none⟩),.slice ae U.length ag,iV age,.slice Z ms.length aa,.int .u16 ((fl:Nat):Int)] 175 (0,0))],O]) (by simp) bM fun bO=>?_;exact JL.kw (bA _ _ ⟨a2,O,rfl,rfl,(az.trans aF).trans ai,bO,bL⟩) rfl
  ·rintro _ _ ⟨aD,aw,rfl,rfl,az,aR,aE⟩;refine zg 5 rfl ?_;rw [decide_eq_false (Int.lt_irrefl _)];refine zg 6 rfl ?_;refine JL.rt func153 rfl rfl ?_;exact a0 _ _ _ _ ((W.trans aQ).trans az) rfl ⟨iV age,.slice Z ms.length aa,.int .u16 ((fl:Nat):Int),aw,rfl,by simp,aE⟩ aR
end Pal
namespace Pal
open Go Go.Conc Go.Proofs
open Go.Proofs.Tryz
theorem QC{J:Judge Tryz.prog}{I:List (List Int×Nat)→LH→Seg→Prop}(aC:∀x E E' X,Le E E'→I x E X→I x E' X){E:LH}{ab k1 ae:Nat}{av aw ag:Ar}{ay az ah:Nat}{aA:List Value}{O:Br}{Z:AT}{age:Int}(aD:At E k1 ae (([.slice av (O.1).length ay,.slice aw (O.2.1).length az]:List Value)++aA))(aE:Ao (rL rI) E av ay (O.1))(aF:Ao (rL rI) E aw az (O.2.1))(aG:(rA 13 (rN .u16)).r E aA (O.2.2))(aH:Ao Bl E ag ah Z){ai aj:Nat}(aI:At E ai aj [.pointer (some ⟨ab,0,none⟩)]){ak al kf am:Nat}(aJ:At E kf am [.func (.func 153) #[] [.pointer (some ⟨ai,aj,none⟩),.pointer (some ⟨ak,al,none⟩),.pointer (some ⟨kf,am,none⟩)].toArray]){aB:Value}(aK:At E ak al [aB]){fuel:Nat}{ok:List (List Int×Nat)→Bool}(aL:∀(E':LH) (aa:Seg) (ac:List (List Int×Nat)) (K:List Int) (U:Nat) (a:Ar) (c:Nat),Le E E'→Ao rI E' a c K→I ac E' aa→ok (ac++ [(K,U)])=true→Df J aB [.agg #[iV age,.slice a K.length c,.int .u16 ((U:Nat):Int)]] E' aa (fun w aM aN=>w= .bool true∧I (ac++ [(K,U)]) aM aN)):
  ∀(g sm:Nat) (ms:List Int) (fl:Nat) (ac W:List (List Int×Nat)),Ga ok fuel O Z age g sm ms fl ac=some W→∀E' X a c,Le E E'→Ao rI E' a c ms→I ac E' X→As J 153 [.int .u16 ((sm:Nat):Int),.pointer (some ⟨ai,aj,none⟩),.pointer (some ⟨ak,al,none⟩),.pointer (some ⟨kf,am,none⟩)] E' ([(ab,.cells #[.pointer (some ⟨k1,ae,none⟩),.slice ag Z.length ah,iV age,(.slice a ms.length c),.int .u16 ((fl:Nat):Int)] 175 (0,0))]++X) (fun w E' B'=>∃aO mv aP aa,w= .bool true∧B'= [(ab,.cells #[.pointer (some ⟨k1,ae,none⟩),.slice ag Z.length ah,aO,mv,aP] 175 (0,0))]++aa∧I W E' aa):=by
 intro g
 induction g with
 | zero=>intro sm ms fl ac W h;cases h
 | succ g aQ=>
  intro sm ms fl ac W h E' X a c hle aR aS;obtain⟨r,aT,aU⟩:=Option.bind_eq_some_iff.1 h;exact Sk aC (aD.mono hle) (aE.mono hle) (aF.mono hle) (Rp.mono _ hle aG) (aH.mono hle) aR (aI.mono hle) (aJ.mono hle) (aK.mono hle) aS (rec:=Ga ok fuel O Z age g) (fun s' K U ac W aV an ao ap c2 aq ar au=>aQ s' K U ac W aV an ao ap c2 (hle.trans aq) ar au) (fun an ao ac K U ap c2 aq ar au aW=>aL an ao ac K U ap c2 (hle.trans aq) ar au aW) aT aU
def Hc(fuel:Nat)(K:Br)(U:AT)(age:Int):Option Nat:=
 (ix K.2.2 (age)).bind fun O=>
 some O
theorem Mf{J:Judge Tryz.prog}{I:List (List Int×Nat)→LH→Seg→Prop}(aB:∀x E E' X,Le E E'→I x E X→I x E' X){E:LH}{U k1 W:Nat}{ap aq ae:Ar}{ar au ag:Nat}{aC:List Value}{ab:Br}{Z:AT}{age:Int}(aD:At E k1 W (([.slice ap (ab.1).length ar,.slice aq (ab.2.1).length au]:List Value)++aC))(aL:Ao (rL rI) E ap ar (ab.1))(aM:Ao (rL rI) E aq au (ab.2.1))(av:(rA 13 (rN .u16)).r E aC (ab.2.2))(aN:Ao Bl E ae ag Z){ah ai:Nat}(aw:At E ah ai [.pointer (some ⟨U,0,none⟩)]){aE aF:Nat}(aG:At E aE aF [iV age]){ak mv al:Value}{ay:Go.Fn}{X:Seg}{acc acc':List (List Int×Nat)}(aO:I acc E X){ok:List (List Int×Nat)→Bool}{fuel:Nat}(aP:∀(E':LH) (aa:Seg) (ac:List (List Int×Nat)) (ao:List Int) (az:Nat) (a:Ar) (c:Nat),Le E E'→Ao rI E' a c ao→I ac E' aa→ok (ac++ [(ao,az)])=true→Df J (.func ay #[] #[]) [.agg #[iV age,.slice a ao.length c,.int .u16 ((az:Nat):Int)]] E' aa (fun w aQ aR=>w= .bool true∧I (ac++ [(ao,az)]) aQ aR)){r:Nat}(aH:Hc fuel ab Z age=some r)(aS:Ga ok fuel ab Z age fuel r [] 0 acc=some acc'):
  As J 152 [.func ay #[] #[],.pointer (some ⟨aE,aF,none⟩),.pointer (some ⟨ah,ai,none⟩)] E ([(U,.cells #[.pointer (some ⟨k1,W,none⟩),.slice ae Z.length ag,ak,mv,al] 175 (0,0))]++X) (fun w E' B'=>∃ak mv al aa,w= .tuple #[]∧B'= [(U,.cells #[.pointer (some ⟨k1,W,none⟩),.slice ae Z.length ag,ak,mv,al] 175 (0,0))]++aa∧I acc' E' aa):=by
 refine As.en func152 rfl rfl fun Q bm cs H aA aT=>?_;refine JS.split (S':= [[(U,.cells #[.pointer (some ⟨k1,W,none⟩),.slice ae Z.length ag,ak,mv,al] 175 (0,0))],X]) (by simp) aA fun aA=>?_;unfold Hc at aH;refine zg 2 rfl ?_;refine JS.box (v:= .func ay #[] #[]) rfl rfl rfl aA rfl fun an aU=>?_;refine JS.Bo 2 aU rfl fun bn K aV aW=>?_;refine zg 3 rfl ?_;refine JL.ld 0 (aw.mono K) (An underlying173) rfl rfl rfl ?_;refine JL.ld 0 (aG.mono K) (An underlying3) rfl rfl rfl ?_;refine JL.Y (v:= .agg #[iV age,.slice none 0 0,.int .u16 ((0:Nat):Int)]) rfl (fun ρ h=>Yl.Ci [(0,1),(1,1),(2,1)] h (AN type104) underlying104 ⟨rfl,Ag type3,rfl,Ag type28,rfl,Ag type102,trivial⟩ rfl rfl) ?_;refine zg 1 rfl ?_;refine JL.fd underlying175 (Ag type104) rfl rfl rfl ?_;refine JS.st (v:= .agg #[iV age,.slice none 0 0,.int .u16 ((0:Nat):Int)]) (off:=2) 0 aW (Ag type104) rfl rfl rfl rfl fun aX=>?_;refine zg 3 rfl ?_;refine JS.alloc rfl rfl rfl aX (AN type201) fun am aY=>?_;refine JS.norm (S':= [[(U,.cells #[.pointer (some ⟨k1,W,none⟩),.slice ae (Z).length ag,iV age,.slice none 0 0,.int .u16 ((0:Nat):Int)] 175 (0,0))],X,[],[(am,.cells #[.nilFunc] 201 (0,0))]]) rfl aY fun aZ=>?_;refine zg 3 rfl ?_;refine JL.Y (v:= .func (.func 153) #[] ([.pointer (some ⟨ah,ai,none⟩),.pointer (some ⟨an,0,none⟩),.pointer (some ⟨am,0,none⟩)]:List Value).toArray) rfl (fun ρ h=>Yl.Gm (by simp) (by simp [h (.tmp 2) _ rfl,h (.tmp 3) _ rfl,h (.tmp 4) _ rfl])) ?_;refine JS.st (v:= .func (.func 153) #[] ([.pointer (some ⟨ah,ai,none⟩),.pointer (some ⟨an,0,none⟩),.pointer (some ⟨am,0,none⟩)]:List Value).toArray) (off:=0) 3 aZ (Ag type201) rfl rfl rfl rfl fun a0=>?_;refine JS.Bo 3 a0 rfl fun a1 O aI aj=>?_;refine JL.done ?_;refine JG.Cn 11 [U] ⟨⟨0,_,rfl⟩,trivial⟩ aj mixed rfl (by decide+kernel) fun ht=>?_;refine JG.V (v:= .func (.func 153) #[] ([.pointer (some ⟨ah,ai,none⟩),.pointer (some ⟨an,0,none⟩),.pointer (some ⟨am,0,none⟩)]:List Value).toArray) 0 ht rfl rfl (fun ρ h s' hs=>Yl.load (An underlying201) (h _ _ rfl) (At.CU (j:=0) aI (CS aj hs ⟨⟨0,_,rfl⟩,trivial⟩) rfl)) ?_;refine JG.V (v:= .pointer (some ⟨U,0,none⟩)) 1 ht rfl rfl (fun ρ h s' hs=>Yl.load (An underlying173) (h _ _ rfl) (At.CU (j:=0) (aw.mono (K.trans O)) (CS aj hs ⟨⟨0,_,rfl⟩,trivial⟩) rfl)) ?_;refine JG.mv 2 ht rfl rfl ?_;refine JG.fd 3 ht underlying175 (Ag type94) rfl rfl rfl rfl ?_;refine JG.V (v:= .pointer (some ⟨k1,W,none⟩)) 4 ht rfl rfl (fun ρ h s' hs=>Yl.load (An underlying94) (h _ _ rfl) (Bh (o:=0) 0 aj rfl (by simp [AA]) hs rfl)) ?_;refine JG.V (v:=iV age) 5 ht rfl rfl (fun ρ h s' hs=>Yl.load (An underlying3) (h _ _ rfl) (At.CU (j:=0) (aG.mono (K.trans O)) (CS aj hs ⟨⟨0,_,rfl⟩,trivial⟩) rfl)) ?_;refine JG.mv 6 ht rfl rfl ?_;refine JG.fd 7 ht underlying141 (Ag type139) rfl rfl rfl rfl ?_;obtain⟨aJ,aK,a2⟩:=bs aH;obtain⟨_,rfl,a3,_,_⟩:=Ob (kk:=13) (pp:=(rN .u16)) (Rp.mono _ (K.trans O) av) (At.tail (l:= [.slice ap (ab.1).length ar,.slice aq (ab.2.1).length au]) (aD.mono (K.trans O))) aK;refine JG.V (v:= .pointer (some ⟨k1,(W+2+Int.toNat (age)*1),none⟩)) 8 ht rfl rfl (fun ρ h s' hs=>Yl.G7 (kk:=13) (pp:=(rN .u16)) (Rp.mono _ (K.trans O) av) aK underlying139 (Ag type138) (h _ _ rfl) (h _ _ rfl)) ?_;refine JG.fd 9 ht underlying138 (Ag type102) rfl rfl rfl rfl ?_;refine JG.V (v:= .int .u16 ((aJ:Nat):Int)) 10 ht rfl rfl (fun ρ h s' hs=>Yl.load (An underlying102) (h _ _ rfl) (At.CU (j:=0) a3 (CS aj hs ⟨⟨0,_,rfl⟩,trivial⟩) rfl)) ?_;refine Au.leaf (tail:= [11]) (by decide+kernel) (fun t=>A7 (by decide+kernel) BU t) ?_;obtain rfl:=oi a2;have a4:Df J (.func (.func 153) #[] [.pointer (some ⟨ah,ai,none⟩),.pointer (some ⟨an,0,none⟩),.pointer (some ⟨am,0,none⟩)].toArray) [.int .u16 ((aJ:Nat):Int)] a1 ([(U,.cells #[.pointer (some ⟨k1,W,none⟩),.slice ae Z.length ag,iV age,.slice none 0 0,.int .u16 ((0:Nat):Int)] 175 (0,0))]++X) (fun w E' B'=>∃ak mv al aa,w= .bool true∧B'= [(U,.cells #[.pointer (some ⟨k1,W,none⟩),.slice ae Z.length ag,ak,mv,al] 175 (0,0))]++aa∧I acc' E' aa):=Df.ofFn (caps:= [.pointer (some ⟨ah,ai,none⟩),.pointer (some ⟨an,0,none⟩),.pointer (some ⟨am,0,none⟩)]) (Aw func153 rfl) (QC aB (aD.mono (K.trans O)) (aL.mono (K.trans O)) (aM.mono (K.trans O)) (Rp.mono _ (K.trans O) av) (aN.mono (K.trans O)) (aw.mono (K.trans O)) aI (aV.mono O) (fun a5 a6 ac a7 a8 a9 c2 ba bb bc bd=>aP a5 a6 ac a7 a8 a9 c2 (((K.trans O)).trans ba) bb bc bd) _ _ _ _ _ _ aS _ _ _ _ (Le.refl _) Ao.nil (aB _ _ _ _ (K.trans O) aO));refine JS.split (S':= [[(U,.cells #[.pointer (some ⟨k1,W,none⟩),.slice ae Z.length ag,iV age,.slice none 0 0,.int .u16 ((0:Nat):Int)] 175 (0,0))]++X]) (by simp) aj fun bf=>?_;refine JS.G6 0 a4 rfl rfl rfl rfl rfl bf rfl ?_;rintro w bo _ bg ⟨bh,bi,bj,aa,rfl,rfl,bk⟩ bl;refine JL.done ?_;refine JL.fin (v:= .tuple #[]) rfl rfl (Bv.list func152 rfl (vs:= []) trivial) ?_;exact aT _ _ _ _ ((K.trans O).trans bg) rfl ⟨bh,bi,bj,aa,rfl,by simp,bk⟩ bl
end Pal
namespace Pal
open Go Go.Conc Go.Proofs
open Go.Proofs.Tryz
noncomputable def F0:Code:=match Tryz.f127.body with | some (.seq _ (.seq _ (.seq (.seq _ (.block _ (.rangeFunc _ _ a _))) _)))=>a | _=> .skip
noncomputable def F2:Code:=match Tryz.f127.body with | some (.seq _ (.seq _ (.seq (.seq _ (.block _ (.rangeFunc _ _ _ b))) _)))=>b | _=> .skip
def add1(fuel:Nat)(age:Int)(q:Int×List (Bz))(x:List Int×Nat):Option (Int×List (Bz)):=
 (f130 fuel (age,x.1,x.2)).bind fun n=>F7 fuel q.1 q.2 (age,x.1,x.2) n
def Fe(fuel:Nat)(age:Int)(ac:List (List Int×Nat)):Option (Int×List (Bz)):=Dv (add1 fuel age) ac (0,[])
def IP(fuel:Nat)(age:Int)(l K O:Nat)(T:Array Value)(ac:List (List Int×Nat))(E:LH)(X:Seg):Prop:=
 ∃q a c g,Fe fuel age ac=some q∧X=(l,.loop ⟨.ready,none,127,T,#[17],F0,F2,O⟩)::([(K,.cells #[iV age,iV q.1,.slice a q.2.length c] 133 (0,0))]++g)∧OL 104 Cj E a c g q.2
theorem IP.mono{fuel:Nat}{age:Int}{l K O:Nat}{T:Array Value}:∀(ac:List (List Int×Nat)) (E E':LH) (X:Seg),Le E E'→IP fuel age l K O T ac E X→IP fuel age l K O T ac E' X:=
 fun ac E E' X hle ⟨q,a,c,g,U,W,Z⟩=>⟨q,a,c,g,U,W,Z.mono hle⟩
theorem LJ{α B:Type}{step:B→α→Option B}:∀{l:List α} {x:α} {b:B},Dv step (l++ [x]) b=(Dv step l b).bind fun K=>step K x
 | [],x,b=>by simp [Dv]
 | y::l,x,b=>by
  simp only [List.cons_append,Dv]
  cases step b y with
  | none=>rfl
  | some K=>exact LJ
theorem MK{J:Judge Tryz.prog}{fuel:Nat}{age:Int}{l K W:Nat}{T:Array Value}(ak:Has Tryz.f127.ntmps [(6,.pointer (some ⟨K,0,none⟩))] T){E:LH}{X:Seg}{ac:List (List Int×Nat)}{ms:List Int}{fl:Nat}{O:Ar}{U:Nat}(ag:Ao rI E O U ms)(al:IP fuel age l K W T ac E X)(am:(Fe fuel age (ac++ [(ms,fl)])).isSome=true):
  Df J (.func (.yield l) #[] #[]) [.agg #[iV age,.slice O ms.length U,.int .u16 ((fl:Nat):Int)]] E X (fun w E' an=>w= .bool true∧IP fuel age l K W T (ac++ [(ms,fl)]) E' an):=by
 obtain⟨q,a,c,g,ah,rfl,ao⟩:=al;obtain⟨r,he⟩:=Option.isSome_iff_exists.1 am;have ai:add1 fuel age q (ms,fl)=some r:=by
  have aa:=he;unfold Fe at aa ah;rw [LJ,ah] at aa;exact aa
 refine Df.yield (i:=0) (t:=17) rfl rfl fun Q ap cs H ab aq=>?_;refine(?_:JL J Q (NY l 127) Tryz.f127.ntmps [(17,.agg #[iV age,.slice O ms.length U,.int .u16 ((fl:Nat):Int)]),(6,.pointer (some ⟨K,0,none⟩))] [] [.code F0,.beginRound,.code F2] (ap::cs) _) _ (ak.put (d:=some 17) rfl _);refine JS.split (S':= [[(l,.loop ⟨.ready,none,127,T,#[17],F0,F2,W⟩)],[(K,.cells #[iV age,iV q.1,.slice a q.2.length c] 133 (0,0))],g]) (by simp) ab fun ab=>?_;unfold add1 at ai;refine JL.region ?_;refine JS.alloc rfl rfl rfl ab (AN type104) fun aI ar=>?_;refine JS.st (v:= .agg #[iV age,.slice O (ms).length U,.int .u16 ((fl:Nat):Int)]) (off:=0) 3 ar (Ag type104) rfl rfl rfl rfl fun au=>?_;refine JS.Bo 3 au rfl fun aJ Z aj av=>?_;refine JL.done ?_;refine JL.beginRound 0 rfl rfl av rfl rfl fun aw=>?_;refine JL.block ?_;refine JG.Dm 4 mixed rfl (by decide+kernel) fun ht=>?_;refine JG.fd 0 ht underlying133 (Ag type97) rfl rfl rfl rfl ?_;refine JG.Bx 1 ht aj (An underlying104) (Ag type104) rfl rfl rfl ?_;refine JG.Bx 2 ht aj (An underlying104) (Ag type104) rfl rfl rfl ?_;obtain⟨aK,ay,az⟩:=bs ai;refine JG.call (i:=3) (vs:= [.agg #[iV age,.slice O (ms).length U,.int .u16 ((fl:Nat):Int)]]) (Rv (p0:=(age,ms,fl)) (ag.mono Z) ay) (by decide+kernel) rfl rfl rfl (Aw func130 rfl) rfl aw ?_;rintro _ aL _ ae ⟨rfl,rfl⟩ aA;refine Au.leaf (tail:= [4]) (by decide+kernel) (fun t=>A7 (by decide+kernel) BU t) ?_;refine JS.split (S':= [[(l,.loop ⟨.busy,none,127,T,#[17],F0,F2,W⟩)],[(K,.cells #[iV age,iV q.1,.slice a q.2.length c] 133 (0,0))]++g]) (by simp) aA fun aB=>?_;refine JS.Bu 1 (RO ((ao.mono (Z.trans ae))) (tr:=(age,ms,fl)) (ag.mono (Z.trans ae)) az) rfl rfl (Aw func122 rfl) aB rfl ?_;rintro _ aM _ aC ⟨aD,aE,g',rfl,rfl,aF⟩ aG;refine zg 2 rfl ?_;refine JL.endRound 0 rfl rfl aG rfl fun aH=>?_;exact aq _ _ _ _ ((Z.trans ae).trans aC) rfl ⟨rfl,r,aD,aE,g',he,by simp,aF⟩ aH
end Pal
namespace Pal
open Go Go.Conc Go.Proofs
open Go.Proofs.Tryz
open Go.Conc.Lib Go.ConcR.Gen
theorem Mb{J:Judge Tryz.prog}{E:LH}{K:Nat}{age:Int}:As J 129 [.pointer (some ⟨K,0,none⟩),iV age] E [] (fun w E' B'=>∃O U,w= .func (.func 152) #[] [.pointer (some ⟨O,0,none⟩),.pointer (some ⟨U,0,none⟩)].toArray∧B'= []∧At E' O 0 [iV age]∧At E' U 0 [.pointer (some ⟨K,0,none⟩)]):=by
 refine As.en func129 rfl rfl fun Q an cs H ab ae=>?_;refine zg 2 rfl ?_;refine JS.box (v:= .pointer (some ⟨K,0,none⟩)) rfl rfl rfl ab rfl fun W ag=>?_;refine JS.Bo 1 ag rfl fun ao ah ai aj=>?_;refine JS.box (v:=iV age) rfl rfl rfl aj rfl fun Z ak=>?_;refine JS.Bo 2 ak rfl fun ap aa al am=>?_;refine zg 4 rfl ?_;refine JL.Y (v:= .func (.func 152) #[] ([.pointer (some ⟨Z,0,none⟩),.pointer (some ⟨W,0,none⟩)]:List Value).toArray) rfl (fun ρ h=>Yl.Gm (by simp) (by simp [h (.tmp 3) _ rfl,h (.tmp 2) _ rfl])) ?_;refine zg 2 rfl ?_;refine JL.rt func129 rfl rfl ?_;exact ae _ _ _ _ (ah.trans aa) rfl ⟨Z,W,rfl,by simp,al,(ai.mono aa)⟩ am
def Ez(fuel:Nat)(K:Br)(O:AT)(age:Int):Option (Int×List (Bz)):=
 (Hc fuel K O age).bind fun s=>(Ga (fun ac=>(Fe fuel age ac).isSome) fuel K O age fuel s [] 0 []).bind fun tr=>Fe fuel age tr
theorem Qr{L:WgLink}(aB:WgLib Tryz.prog L)(a6:L.done=128){F:Fam}{j:Nat}{E:LH}{k1 U:Nat}{a7 a8 W:Ar}{a9 ba Z:Nat}{bb:List Value}{ak:Br}{O:AT}{age:Int}(bc:At E k1 U (([.slice a7 (ak.1).length a9,.slice a8 (ak.2.1).length ba]:List Value)++bb))(bd:Ao (rL rI) E a7 a9 (ak.1))(bf:Ao (rL rI) E a8 ba (ak.2.1))(bg:(rA 13 (rN .u16)).r E bb (ak.2.2))(bh:Ao Bl E W Z O){aC aD aE ol ka al kc ag:Nat}(bl:At E aC aD [.pointer (some ⟨k1,U,none⟩)])(bm:At E aE ol [.slice W O.length Z])(aH:At E ka al [iV age])(bi:At E kc ag [.chan (some F.ch)])
  {fuel:Nat} {q:Int×List (Bz)} (aF:Ez fuel ak O age=some q) (aG:F.has j=decide (0<q.2.length)) (bj:∀E' a c,Le E E'→Ao Cj E' a c q.2→F.msg j (.agg #[iV age,iV q.1,.slice a q.2.length c]) E'):
  Way Tryz.prog false (Stop Tryz.prog F (F.start j)) (born Tryz.prog ⟨.fn (.func 127) [.pointer (some F.sA),.pointer (some ⟨aC,aD,none⟩),.pointer (some ⟨aE,ol,none⟩),.pointer (some ⟨ka,al,none⟩),.pointer (some ⟨kc,ag,none⟩)].toArray,#[]⟩) ⟨E,fun _=>none,false⟩:=by
 refine MB (fn:=Tryz.f127) (vs:= [.pointer (some F.sA),.pointer (some ⟨aC,aD,none⟩),.pointer (some ⟨aE,ol,none⟩),.pointer (some ⟨ka,al,none⟩),.pointer (some ⟨kc,ag,none⟩)]) func127 rfl rfl (by simp) (Nat.le_of_ble_eq_true rfl) ?_;obtain⟨H,bn⟩:∃H:LH,H=fun _=>none:=⟨_,rfl⟩;rw [← bn];have bk:Ax E H []:=trivial;refine(?_:JL (A4 Tryz.prog false) (Stop Tryz.prog F (F.start j)) (baseD 127) Tryz.f127.ntmps (D5 0 [.pointer (some F.sA),.pointer (some ⟨aC,aD,none⟩),.pointer (some ⟨aE,ol,none⟩),.pointer (some ⟨ka,al,none⟩),.pointer (some ⟨kc,ag,none⟩)]) [] [.code _] [FH Tryz.prog] (Am E H []));refine zg 2 rfl ?_;refine JL.defer (vs:= [.pointer (some F.sA)]) rfl rfl rfl rfl rfl ?_;refine zg 2 rfl ?_;refine JG.Dm 8 mixed rfl (by decide+kernel) fun ht=>?_;refine JG.ld 0 ht 0 bl (An underlying94) rfl rfl rfl rfl ?_;refine JG.ld 1 ht 0 bm (An underlying25) rfl rfl rfl rfl ?_;refine JG.V (v:= .agg #[.pointer (some ⟨k1,U,none⟩),.slice W (O).length Z,iV 0,.slice none 0 0,.int .u16 ((0:Nat):Int)]) 2 ht rfl rfl (fun ρ h s' hs=>Yl.Ci [(0,1),(1,1),(2,3)] h (AN type175) underlying175 ⟨rfl,Ag type94,rfl,Ag type25,rfl,Ag type104,trivial⟩ rfl rfl) ?_;refine JG.ld 4 ht 0 aH (An underlying3) rfl rfl rfl rfl ?_;refine JG.V (v:= .agg #[iV age,iV 0,.slice none 0 0]) 5 ht rfl rfl (fun ρ h s' hs=>Yl.Ci [(0,1),(1,2)] h (AN type133) underlying133 ⟨rfl,Ag type3,rfl,Ag type97,trivial⟩ rfl rfl) ?_;refine JG.two (i:=3) (j:=6) rfl (by decide+kernel) ?_ ?_
 ·refine Take.On (v:= .agg #[.pointer (some ⟨k1,U,none⟩),.slice W (O).length Z,iV 0,.slice none 0 0,.int .u16 ((0:Nat):Int)]) bk rfl rfl rfl rfl fun am ao=>?_;refine JG.one (i:=6) rfl (by decide+kernel) ?_;refine Take.NP ao rfl rfl rfl (AN type133) fun ah ap=>?_;refine JG.mv 7 ht rfl rfl ?_;refine Au.leaf (tail:= [8]) (by decide+kernel) (fun t=>A7 (by decide+kernel) BU t) ?_;refine JS.norm (S':= [[(am,.cells #[.pointer (some ⟨k1,U,none⟩),.slice W (O).length Z,iV 0,.slice none 0 0,.int .u16 ((0:Nat):Int)] 175 (0,0))],[(ah,.cells #[iV 0,iV 0,.slice none 0 0] 133 (0,0))]]) rfl ap fun aq=>?_;refine JS.st (v:= .agg #[iV age,iV 0,.slice none 0 0]) (off:=0) 1 aq (Ag type133) rfl rfl rfl rfl fun ae=>?_;refine zg 3 rfl ?_;refine JS.norm (S':= [[(am,.cells #[.pointer (some ⟨k1,U,none⟩),.slice W O.length Z,iV 0,.slice none 0 0,.int .u16 ((0:Nat):Int)] 175 (0,0))],[(ah,.cells #[iV age,iV 0,.slice none 0 0] 133 (0,0))]]) rfl ae fun aI=>?_;refine JL.wk [(3,.pointer (some ⟨ka,al,none⟩)),(4,.pointer (some ⟨kc,ag,none⟩)),(5,.pointer (some ⟨am,0,none⟩)),(6,.pointer (some ⟨ah,0,none⟩))] rfl ?_;have ar:Le E E:=(Le.refl _);refine zg 2 rfl ?_;refine JL.ld 0 (aH.mono ar) (An underlying3) rfl rfl rfl ?_;refine JS.cl Mb rfl rfl (Aw func129 rfl) aI ?_;rintro _ bo _ aJ ⟨au,av,rfl,rfl,aK,aL⟩ ao;have aa:=ar.trans aJ;refine zg 2 rfl ?_;refine JS.split (S':= [[(am,.cells #[.pointer (some ⟨k1,U,none⟩),.slice W O.length Z,iV 0,.slice none 0 0,.int .u16 ((0:Nat):Int)] 175 (0,0))],[(ah,.cells #[iV age,iV 0,.slice none 0 0] 133 (0,0))]]) (by simp) ao fun aM=>?_;refine JL.rangeFunc (caps:= [.pointer (some ⟨au,0,none⟩),.pointer (some ⟨av,0,none⟩)]) rfl (by intro e;cases e) rfl (Aw func152 rfl) aM fun ab l T aw aN=>?_;refine Kc (S':= [[(am,.cells #[.pointer (some ⟨k1,U,none⟩),.slice W O.length Z,iV 0,.slice none 0 0,.int .u16 ((0:Nat):Int)] 175 (0,0))]++([(l,.loop ⟨.ready,none,127,T,#[17],F0,F2,ab⟩)]++ [(ah,.cells #[iV age,iV 0,.slice none 0 0] 133 (0,0))]),[(ab,.deferred (some []))]]) NR aN fun ap=>?_;unfold Ez at aF;obtain⟨bp,aO,aP⟩:=Option.bind_eq_some_iff.1 aF;obtain⟨tr,aQ,aR⟩:=Option.bind_eq_some_iff.1 aP;refine Mr (vs:= [.func (.yield l) #[] #[],.pointer (some ⟨au,0,none⟩),.pointer (some ⟨av,0,none⟩)]) 0 (Mf (I:=IP fuel age l ah ab T) (ok:=fun ac=>(Fe fuel age ac).isSome) (acc:= []) IP.mono (bc.mono aa) (bd.mono aa) (bf.mono aa) (Rp.mono _ aa bg) (bh.mono aa) aL aK ⟨(0,[]),none,0,[],rfl,rfl,OL.nil⟩ (fun E' aS ac bq br a c hle aT aU aV=>MK (aw.sub ⟨rfl,trivial⟩) aT aU aV) aO aQ) ap rfl ?_;rintro _ bu _ aW ⟨aX,mv,aY,aS,rfl,rfl,K,a,c,g,aZ,rfl,a0⟩ a1;obtain rfl:K=q:=Option.some.inj (aZ.symm.trans aR);refine MF (S':= [[(am,.cells #[.pointer (some ⟨k1,U,none⟩),.slice W O.length Z,aX,mv,aY] 175 (0,0))],[(l,.loop ⟨.ready,none,127,T,#[17],F0,F2,ab⟩)],[(ah,.cells #[iV age,iV K.1,.slice a K.2.length c] 133 (0,0))],g,[(ab,.deferred (some []))]]) (by simp) a1 fun aq=>?_;refine Lz 1 aq rfl rfl rfl fun ae=>?_;refine(?_:JL (A4 Tryz.prog false) (Stop Tryz.prog F (F.start j)) (baseD 127) Tryz.f127.ntmps [(4,.pointer (some ⟨kc,ag,none⟩)),(6,.pointer (some ⟨ah,0,none⟩))] [⟨.collected ab,#[]⟩,dcall 128 #[.pointer (some F.sA)]] _ [FH Tryz.prog] _) T (aw.sub ⟨rfl,rfl,trivial⟩);have ay:=aa.trans aW;have a2:dcall 128 #[.pointer (some F.sA)]=dcall L.done #[.pointer (some F.sA)]:=by rw [a6]
  rw [a2];refine zg 3 rfl ?_;refine JL.fd underlying133 (Ag type97) rfl rfl rfl ?_;refine JL.fd underlying97 (Ag type95) rfl rfl rfl ?_;refine JL.Y (v:= .slice a K.2.length c) rfl (fun ρ h=>Yl.load (An underlying95) (h _ _ rfl) (CH (j:=2) (off:=2) ae rfl rfl)) ?_;refine JL.Y rfl (fun ρ h=>Yl.len rfl underlying95 (h _ _ rfl)) ?_;refine zg 2 rfl ?_;refine JL.ifs (p:=0<((K.2).length:Int)) rfl (fun a3=>?_) (fun a3=>?_)
  ·have aj:F.start j= .BN j:=by unfold Fam.start;rw [aG,decide_eq_true (show 0<K.2.length by omega)];rfl
   rw [aj];refine JL.region ?_;refine JL.ld 0 (bi.mono ay) (An underlying162) rfl rfl rfl ?_;refine JS.BO 3 a0 ae rfl fun bv a4 a5 az=>?_;refine JL.Y rfl (fun ρ h=>Yl.Bp (vs:= [iV age,iV K.1,.slice a K.2.length c]) (An underlying133) (Ag type133) (h _ _ rfl) (Ec (off:=0) 2 az rfl rfl)) ?_;refine JL.N5 rfl rfl rfl rfl rfl rfl rfl (bj _ _ _ (ay.trans a4) a5) ?_;refine JL.done ?_;exact JL.out rfl (JO.collected 4 rfl az rfl fun aA=>JO.I9 aB rfl rfl (JO.leaveD rfl func127 rfl (.inr rfl) Hn))
  ·have aj:F.start j= .B6:=by unfold Fam.start;rw [aG,decide_eq_false (show ¬0<K.2.length by omega)];rfl
   rw [aj];refine JL.skip ?_;exact JL.out rfl (JO.collected 4 rfl ae rfl fun aA=>JO.I9 aB rfl rfl (JO.leaveD rfl func127 rfl (.inr rfl) Hn))
 ·refine Take.NP bk rfl rfl rfl (AN type133) fun ai aA=>?_;refine JG.one (i:=3) rfl (by decide+kernel) ?_;refine Take.On (v:= .agg #[.pointer (some ⟨k1,U,none⟩),.slice W (O).length Z,iV 0,.slice none 0 0,.int .u16 ((0:Nat):Int)]) aA rfl rfl rfl rfl fun an bw=>?_;refine JG.mv 7 ht rfl rfl ?_;refine Au.leaf (tail:= [8]) (by decide+kernel) (fun t=>A7 (by decide+kernel) BU t) ?_;refine JS.norm (S':= [[(ai,.cells #[iV 0,iV 0,.slice none 0 0] 133 (0,0))],[(an,.cells #[.pointer (some ⟨k1,U,none⟩),.slice W (O).length Z,iV 0,.slice none 0 0,.int .u16 ((0:Nat):Int)] 175 (0,0))]]) rfl bw fun bx=>?_;refine JS.st (v:= .agg #[iV age,iV 0,.slice none 0 0]) (off:=0) 0 bx (Ag type133) rfl rfl rfl rfl fun bz=>?_;refine zg 3 rfl ?_;refine JS.perm (S':= [[(an,.cells #[.pointer (some ⟨k1,U,none⟩),.slice W O.length Z,iV 0,.slice none 0 0,.int .u16 ((0:Nat):Int)] 175 (0,0))],[(ai,.cells #[iV age,iV 0,.slice none 0 0] 133 (0,0))]]) (List.Perm.swap _ _ _) bz fun aI=>?_;refine JL.wk [(3,.pointer (some ⟨ka,al,none⟩)),(4,.pointer (some ⟨kc,ag,none⟩)),(5,.pointer (some ⟨an,0,none⟩)),(6,.pointer (some ⟨ai,0,none⟩))] rfl ?_;have ar:Le E E:=(Le.refl _);refine zg 2 rfl ?_;refine JL.ld 0 (aH.mono ar) (An underlying3) rfl rfl rfl ?_;refine JS.cl Mb rfl rfl (Aw func129 rfl) aI ?_;rintro _ bo _ aJ ⟨au,av,rfl,rfl,aK,aL⟩ ao;have aa:=ar.trans aJ;refine zg 2 rfl ?_;refine JS.split (S':= [[(an,.cells #[.pointer (some ⟨k1,U,none⟩),.slice W O.length Z,iV 0,.slice none 0 0,.int .u16 ((0:Nat):Int)] 175 (0,0))],[(ai,.cells #[iV age,iV 0,.slice none 0 0] 133 (0,0))]]) (by simp) ao fun aM=>?_;refine JL.rangeFunc (caps:= [.pointer (some ⟨au,0,none⟩),.pointer (some ⟨av,0,none⟩)]) rfl (by intro e;cases e) rfl (Aw func152 rfl) aM fun ab l T aw aN=>?_;refine Kc (S':= [[(an,.cells #[.pointer (some ⟨k1,U,none⟩),.slice W O.length Z,iV 0,.slice none 0 0,.int .u16 ((0:Nat):Int)] 175 (0,0))]++([(l,.loop ⟨.ready,none,127,T,#[17],F0,F2,ab⟩)]++ [(ai,.cells #[iV age,iV 0,.slice none 0 0] 133 (0,0))]),[(ab,.deferred (some []))]]) NR aN fun ap=>?_;unfold Ez at aF;obtain⟨bp,aO,aP⟩:=Option.bind_eq_some_iff.1 aF;obtain⟨tr,aQ,aR⟩:=Option.bind_eq_some_iff.1 aP;refine Mr (vs:= [.func (.yield l) #[] #[],.pointer (some ⟨au,0,none⟩),.pointer (some ⟨av,0,none⟩)]) 0 (Mf (I:=IP fuel age l ai ab T) (ok:=fun ac=>(Fe fuel age ac).isSome) (acc:= []) IP.mono (bc.mono aa) (bd.mono aa) (bf.mono aa) (Rp.mono _ aa bg) (bh.mono aa) aL aK ⟨(0,[]),none,0,[],rfl,rfl,OL.nil⟩ (fun E' aS ac bq br a c hle aT aU aV=>MK (aw.sub ⟨rfl,trivial⟩) aT aU aV) aO aQ) ap rfl ?_;rintro _ bu _ aW ⟨aX,mv,aY,aS,rfl,rfl,K,a,c,g,aZ,rfl,a0⟩ a1;obtain rfl:K=q:=Option.some.inj (aZ.symm.trans aR);refine MF (S':= [[(an,.cells #[.pointer (some ⟨k1,U,none⟩),.slice W O.length Z,aX,mv,aY] 175 (0,0))],[(l,.loop ⟨.ready,none,127,T,#[17],F0,F2,ab⟩)],[(ai,.cells #[iV age,iV K.1,.slice a K.2.length c] 133 (0,0))],g,[(ab,.deferred (some []))]]) (by simp) a1 fun aq=>?_;refine Lz 1 aq rfl rfl rfl fun ae=>?_;refine(?_:JL (A4 Tryz.prog false) (Stop Tryz.prog F (F.start j)) (baseD 127) Tryz.f127.ntmps [(4,.pointer (some ⟨kc,ag,none⟩)),(6,.pointer (some ⟨ai,0,none⟩))] [⟨.collected ab,#[]⟩,dcall 128 #[.pointer (some F.sA)]] _ [FH Tryz.prog] _) T (aw.sub ⟨rfl,rfl,trivial⟩);have ay:=aa.trans aW;have a2:dcall 128 #[.pointer (some F.sA)]=dcall L.done #[.pointer (some F.sA)]:=by rw [a6]
  rw [a2];refine zg 3 rfl ?_;refine JL.fd underlying133 (Ag type97) rfl rfl rfl ?_;refine JL.fd underlying97 (Ag type95) rfl rfl rfl ?_;refine JL.Y (v:= .slice a K.2.length c) rfl (fun ρ h=>Yl.load (An underlying95) (h _ _ rfl) (CH (j:=2) (off:=2) ae rfl rfl)) ?_;refine JL.Y rfl (fun ρ h=>Yl.len rfl underlying95 (h _ _ rfl)) ?_;refine zg 2 rfl ?_;refine JL.ifs (p:=0<((K.2).length:Int)) rfl (fun a3=>?_) (fun a3=>?_)
  ·have aj:F.start j= .BN j:=by unfold Fam.start;rw [aG,decide_eq_true (show 0<K.2.length by omega)];rfl
   rw [aj];refine JL.region ?_;refine JL.ld 0 (bi.mono ay) (An underlying162) rfl rfl rfl ?_;refine JS.BO 3 a0 ae rfl fun bv a4 a5 az=>?_;refine JL.Y rfl (fun ρ h=>Yl.Bp (vs:= [iV age,iV K.1,.slice a K.2.length c]) (An underlying133) (Ag type133) (h _ _ rfl) (Ec (off:=0) 2 az rfl rfl)) ?_;refine JL.N5 rfl rfl rfl rfl rfl rfl rfl (bj _ _ _ (ay.trans a4) a5) ?_;refine JL.done ?_;exact JL.out rfl (JO.collected 4 rfl az rfl fun aA=>JO.I9 aB rfl rfl (JO.leaveD rfl func127 rfl (.inr rfl) Hn))
  ·have aj:F.start j= .B6:=by unfold Fam.start;rw [aG,decide_eq_false (show ¬0<K.2.length by omega)];rfl
   rw [aj];refine JL.skip ?_;exact JL.out rfl (JO.collected 4 rfl ae rfl fun aA=>JO.I9 aB rfl rfl (JO.leaveD rfl func127 rfl (.inr rfl) Hn))
end Pal
namespace Go.Proofs
abbrev Tryz.link:Go.Conc.Lib.WgLink:={add:=126,done:=128,wait:=132,relMerge:=139,disable:=140,enable:=141,inBubble:=142,associate:=143,fatal:=144,uOr:=145,uAdd:=146,raceRead:=147,uLoad:=148,uStore:=149,disassociate:=150,semrelease:=151,acquire:=157,isAssociated:=158,uCas:=159,raceWrite:=160,semacquire:=161,orU64:=170,addU64:=171,loadU64:=172,storeU64:=173,casU64:=177,tWgP:=189,tUP:=191,tAssoc:=192,tWg:=171,tAU:=168,tU64:=90,tUint:=156,tU32:=169,tPU32:=196,tPAU:=221,tPU64:=223,tNoCopy:=164,tANoCopy:=165,tAlign64:=166}
theorem Tryz.Kx:Go.Conc.Lib.WgLib Tryz.prog Tryz.link:=
 ⟨Tryz.func126,Tryz.func128,Tryz.func132,Tryz.func139,Tryz.func140,Tryz.func141,Tryz.func142,Tryz.func143,Tryz.func144,Tryz.func145,Tryz.func146,Tryz.func147,Tryz.func148,Tryz.func149,Tryz.func150,Tryz.func151,Tryz.func157,Tryz.func158,Tryz.func159,Tryz.func160,Tryz.func161,Tryz.func170,Tryz.func171,Tryz.func172,Tryz.func173,Tryz.func177,Tryz.underlying189,Tryz.runUnderlying189,Tryz.sizeOf189,Tryz.isAgg189,Tryz.zeroValue189,Tryz.underlying191,Tryz.runUnderlying191,Tryz.sizeOf191,Tryz.isAgg191,Tryz.zeroValue191,Tryz.underlying192,Tryz.runUnderlying192,Tryz.sizeOf192,Tryz.isAgg192,Tryz.zeroValue192,Tryz.underlying171,Tryz.runUnderlying171,Tryz.sizeOf171,Tryz.isAgg171,Tryz.zeroValue171,Tryz.underlying168,Tryz.runUnderlying168,Tryz.sizeOf168,Tryz.isAgg168,Tryz.zeroValue168,Tryz.underlying90,Tryz.runUnderlying90,Tryz.sizeOf90,Tryz.isAgg90,Tryz.zeroValue90,Tryz.underlying156,Tryz.runUnderlying156,Tryz.sizeOf156,Tryz.isAgg156,Tryz.zeroValue156,Tryz.underlying169,Tryz.runUnderlying169,Tryz.sizeOf169,Tryz.isAgg169,Tryz.zeroValue169,Tryz.underlying196,Tryz.runUnderlying196,Tryz.sizeOf196,Tryz.isAgg196,Tryz.zeroValue196,Tryz.underlying221,Tryz.runUnderlying221,Tryz.sizeOf221,Tryz.isAgg221,Tryz.zeroValue221,Tryz.underlying223,Tryz.runUnderlying223,Tryz.sizeOf223,Tryz.isAgg223,Tryz.zeroValue223,Tryz.underlying0,Tryz.runUnderlying0,Tryz.sizeOf0,Tryz.isAgg0,Tryz.zeroValue0,Tryz.underlying3,Tryz.runUnderlying3,Tryz.sizeOf3,Tryz.isAgg3,Tryz.zeroValue3,Tryz.underlying4,Tryz.runUnderlying4,Tryz.sizeOf4,Tryz.isAgg4,Tryz.zeroValue4,Tryz.underlying9,Tryz.runUnderlying9,Tryz.sizeOf9,Tryz.isAgg9,Tryz.zeroValue9,Tryz.underlying20,Tryz.runUnderlying20,Tryz.sizeOf20,Tryz.isAgg20,Tryz.zeroValue20,Tryz.underlying21,Tryz.runUnderlying21,Tryz.sizeOf21,Tryz.isAgg21,Tryz.zeroValue21,(by decide+kernel),(by decide+kernel)⟩
end Go.Proofs
namespace Pal
open Go Go.Conc Go.Proofs Go.Conc.Lib Go.ConcR.Gen
theorem Qj{F:Fam}(O:F.n<2147483648){E:LH}{kc K:Nat}(U:At E kc K [.chan (some F.ch)]):Way Tryz.prog false (Stop Tryz.prog F .B9) (born Tryz.prog ⟨.fn (.func 131) [.pointer (some F.sA),.pointer (some ⟨kc,K,none⟩)].toArray,#[]⟩) ⟨E,fun _=>none,false⟩:=by
 refine MB (fn:=Tryz.f131) (vs:= [.pointer (some F.sA),.pointer (some ⟨kc,K,none⟩)]) Tryz.func131 rfl rfl (by simp) (Nat.le_of_ble_eq_true rfl) ?_;obtain⟨H,W⟩:∃H:LH,H=fun _=>none:=⟨_,rfl⟩;rw [← W];refine(?_:JL (A4 Tryz.prog false) (Stop Tryz.prog F .B9) (baseD 131) Tryz.f131.ntmps (D5 0 [.pointer (some F.sA),.pointer (some ⟨kc,K,none⟩)]) [] [.code _] [FH Tryz.prog] (Am E H []));refine zg 2 rfl ?_;refine JL.wait Tryz.Kx O rfl rfl rfl rfl rfl ?_;refine zg 2 rfl ?_;refine JL.ld 0 U (An Tryz.underlying162) rfl rfl rfl ?_;refine JL.R2 rfl rfl rfl rfl rfl rfl rfl ?_;refine JL.done ?_;exact JL.out rfl (JO.leaveD rfl Tryz.func131 rfl (.inr rfl) Hn)
end Pal
namespace Pal
open Go Go.Conc Go.Proofs
open Go.Proofs.Tryz
open Go.Conc.Lib Go.ConcR.Gen
noncomputable def Gq:Code:=match Tryz.f102.body with | some (.seq _ (.seq _ (.seq _ (.seq (.seq _ (.block _ (.loop c))) _))))=>c | _=> .skip
theorem O1{F:Fam}(aP:F.n=13){E:LH}{k1 ai:Nat}{aj ak al:Ar}{am an ao:Nat}{ap:List Value}{O:Br}{ae:AT}(ar:At E k1 ai (([.slice aj (O.1).length am,.slice ak (O.2.1).length an]:List Value)++ap))(au:Ao (rL rI) E aj am (O.1))(av:Ao (rL rI) E ak an (O.2.1))(aw:(rA 13 (rN .u16)).r E ap (O.2.2))(ay:Ao Bl E al ao ae){W Z aa ol kc ab:Nat}(az:At E W Z [.pointer (some ⟨k1,ai,none⟩)])(aA:At E aa ol [.slice al ae.length ao])(aB:At E kc ab [.chan (some F.ch)]){fuel:Nat}{qs:Nat→Int×List (Bz)}(aC:∀j,j<13→Ez fuel O ae ((j:Nat):Int)=some (qs j))(aD:∀j,j<13→F.has j=decide (0<(qs j).2.length))(aE:∀j,j<13→∀E' a c,Ao Cj E' a c (qs j).2→F.msg j (.agg #[iV ((j:Nat):Int),iV (qs j).1,.slice a (qs j).2.length c]) E'){j:Nat}(ag:j<13){ah H:LH}(hle:Le E ah)(aF:Ax ah H []){k:List Item}{cs:List Frame}
  (h:∀U,Le E U→Ax U H []→JL (A4 Tryz.prog true) (Stop Tryz.prog F (F.Cy j)) (base 102) Tryz.f102.ntmps [(2,.pointer (some ⟨W,Z,none⟩)),(3,.pointer (some ⟨aa,ol,none⟩)),(5,.pointer (some ⟨kc,ab,none⟩)),(6,.pointer (some F.sA)),(11,iV ((j+1:Nat):Int))] [] (.inLoop Gq::k) cs (Am U H [])):
  JL (A4 Tryz.prog true) (Stop Tryz.prog F (.Dx j)) (base 102) Tryz.f102.ntmps [(2,.pointer (some ⟨W,Z,none⟩)),(3,.pointer (some ⟨aa,ol,none⟩)),(5,.pointer (some ⟨kc,ab,none⟩)),(6,.pointer (some F.sA)),(11,iV ((j:Nat):Int))] [] (.code Gq:: .inLoop Gq::k) cs (Am ah H []):=by
 refine zg 5 rfl ?_;rw [decide_eq_true (show((j:Nat):Int)<13 by omega)];refine zg 7 rfl ?_;refine JS.alloc rfl rfl rfl aF (AN type3) fun aG aH=>?_;refine JS.st (v:=iV ((j:Nat):Int)) (off:=0) 0 aH (Ag type3) rfl rfl rfl rfl fun aI=>?_;refine JS.Bo 0 aI rfl fun U aJ aK aL=>?_;refine JS.split (S':= []) (by simp) aL fun aM=>?_;have K:=hle.trans aJ;refine zg 3 rfl ?_;refine JL.addPos Tryz.Kx rfl rfl rfl rfl rfl rfl ?_;refine zg 2 rfl ?_;refine JL.Y (v:= .func (.func 127) #[] ([.pointer (some F.sA),.pointer (some ⟨W,Z,none⟩),.pointer (some ⟨aa,ol,none⟩),.pointer (some ⟨aG,0,none⟩),.pointer (some ⟨kc,ab,none⟩)]:List Value).toArray) rfl (fun ρ h=>Yl.Gm (by simp) (by simp [h (.tmp 6) _ rfl,h (.tmp 2) _ rfl,h (.tmp 3) _ rfl,h (.tmp 7) _ rfl,h (.tmp 5) _ rfl])) ?_;have aq:=Qr Tryz.Kx rfl (F:=F) (j:=j) (ar.mono K) (au.mono K) (av.mono K) (Rp.mono _ K aw) (ay.mono K) (az.mono K) (aA.mono K) aK (aB.mono K) (aC j ag) (aD j ag) (fun E' a c _ aN=>aE j ag E' a c aN);refine JL.Tu (fi:= #[]) rfl rfl rfl rfl rfl rfl rfl (by first | exact aq | (simp only [List.append_toArray,List.nil_append,Array.append_empty,Array.empty_append];exact aq)) ?_
 refine zg 3 rfl ?_;have aO:Ay (((j:Nat):Int)+1)=some (((j+1:Nat)):Int):=by unfold Ay;rw [if_pos (by omega)];simp
 refine JL.Y rfl (fun ρ h=>Yl.A6 (h _ _ rfl) (h _ _ rfl) aO) ?_;refine zg 2 rfl ?_;exact JL.kw (h U K aM) rfl
theorem PF{F:Fam}(W:F.n=13){E:LH}{k1 ah:Nat}{ai aj ak:Ar}{al am an:Nat}{ao:List Value}{K:Br}{Z:AT}(ar:At E k1 ah (([.slice ai (K.1).length al,.slice aj (K.2.1).length am]:List Value)++ao))(au:Ao (rL rI) E ai al (K.1))(av:Ao (rL rI) E aj am (K.2.1))(aw:(rA 13 (rN .u16)).r E ao (K.2.2))(ay:Ao Bl E ak an Z){aa ab ae ol kc ag:Nat}(az:At E aa ab [.pointer (some ⟨k1,ah,none⟩)])(aA:At E ae ol [.slice ak Z.length an])(aB:At E kc ag [.chan (some F.ch)]){fuel:Nat}{qs:Nat→Int×List (Bz)}(aC:∀j,j<13→Ez fuel K Z ((j:Nat):Int)=some (qs j))(aD:∀j,j<13→F.has j=decide (0<(qs j).2.length))(aE:∀j,j<13→∀E' a c,Ao Cj E' a c (qs j).2→F.msg j (.agg #[iV ((j:Nat):Int),iV (qs j).1,.slice a (qs j).2.length c]) E'){H:LH}{k:List Item}{cs:List Frame}
  (h:∀O,Le E O→Ax O H []→JL (A4 Tryz.prog true) (Stop Tryz.prog F .DT) (base 102) Tryz.f102.ntmps [(2,.pointer (some ⟨aa,ab,none⟩)),(3,.pointer (some ⟨ae,ol,none⟩)),(5,.pointer (some ⟨kc,ag,none⟩)),(6,.pointer (some F.sA)),(11,iV 13)] [] (.code Gq:: .inLoop Gq::k) cs (Am O H [])):
  ∀(m j:Nat),j+m=13→0<m→∀U,Le E U→Ax U H []→JL (A4 Tryz.prog true) (Stop Tryz.prog F (.Dx j)) (base 102) Tryz.f102.ntmps [(2,.pointer (some ⟨aa,ab,none⟩)),(3,.pointer (some ⟨ae,ol,none⟩)),(5,.pointer (some ⟨kc,ag,none⟩)),(6,.pointer (some F.sA)),(11,iV ((j:Nat):Int))] [] (.code Gq:: .inLoop Gq::k) cs (Am U H []):=by
 intro m
 induction m with
 | zero=>intro j _ aF;cases aF
 | succ m aG=>
  intro j aJ _ U hle aH;refine O1 W ar au av aw ay az aA aB aC aD aE (by omega) hle aH fun O ap aq=>?_;refine JL.again ?_;by_cases hm:m=0
  ·subst hm;have aI:j=12:=by omega
   subst aI;have e:F.Cy 12= .DT:=by unfold Fam.Cy;rw [W];rfl
   rw [e];exact h O ap aq
  ·have e:F.Cy j= .Dx (j+1):=by unfold Fam.Cy;rw [W,if_neg (by omega)]
   rw [e];exact aG (j+1) (by omega) (by omega) O ap aq
end Pal
namespace Pal
open Go Go.Conc Go.Proofs
open Go.Proofs.Tryz
open Go.Conc.Lib Go.ConcR.Gen
noncomputable def N7:Code:=match Tryz.f102.body with | some (.seq _ (.seq _ (.seq _ (.seq _ (.seq _ (.seq _ (.seq (.seq _ (.block _ (.loop c))) _)))))))=>c | _=> .skip
def partOf(qs:Nat→Int×List (Bz))(k:Nat):(AZ):=(((k:Nat):Int),(qs k).1,(qs k).2)
theorem So{K:List Nat}{kk n:Nat}(O:kk<n)(U:kk ∉ K):((List.range n).filter (fun x=> !(K++ [kk]).contains x)).length<((List.range n).filter (fun x=> !K.contains x)).length:=by
 have e:(List.range n).filter (fun x=> !(K++ [kk]).contains x)=((List.range n).filter (fun x=> !K.contains x)).filter (fun x=>x != kk):=by
  rw [List.filter_filter];apply List.filter_congr;intro x _;by_cases W:x∈K <;> by_cases Z:x=kk <;> simp [W,Z]
 rw [e];apply List.length_filter_lt_length_iff_exists.2;exact⟨kk,by simp [O,U],by simp⟩
theorem Pw{F:Fam}(ab:F.n=13){Q:GP}(ap:∀g s,(CC Tryz.prog).ok Q g s→F.fin g s){qs:Nat→Int×List (Bz)}(aq:∀kk v E',F.msg kk v E'→∃a c,v= .agg #[iV ((kk:Nat):Int),iV (qs kk).1,.slice a (qs kk).2.length c]∧Ao Cj E' a c (qs kk).2)
  {E H:LH} {k:List Item} {cs:List Frame}
  (ar:∀(K:List Nat) (W:LH) (a:Ar) (c:Nat) (g:Seg),Le E W→K.Nodup→(∀x∈K,x<13∧F.has x=true)→(∀x,x<13→F.has x=true→x∈K)→OL 133 BL W a c g (K.map (partOf qs))→Ax W H [g]→JL (CC Tryz.prog) Q (base 102) Tryz.f102.ntmps [(8,.slice a (K.map (partOf qs)).length c)] [] k cs (Am W H [g])):
  ∀(m:Nat) (K:List Nat) (vs:List Value) (U:LH) (a:Ar) (c:Nat) (g:Seg),((List.range 13).filter (fun x=> !K.contains x)).length=m→K.Nodup→(∀x∈K,x<13∧F.has x=true)→K.length+m≤13→Le E U→OL 133 BL U a c g (K.map (partOf qs))→Ax U H [g]→
   JL (A4 Tryz.prog true) (Stop Tryz.prog F (.BF K vs)) (base 102) Tryz.f102.ntmps [(8,.slice a (K.map (partOf qs)).length c),(18,.chan (some F.ch))] [] (.code N7:: .inLoop N7:: .inBlock 2::k) cs (Am U H [g]):=by
 intro m
 induction m using Nat.strongRecOn with
 | _ m au=>
  intro K vs U a c g hm ae ag hlen hle ah ai;refine zg 2 rfl ?_;refine JL.SG rfl rfl rfl rfl rfl rfl underlying162 (AN type133) ?_ ?_
  ·intro kk v E' Z av aj ak aw ay;rw [ab] at Z;obtain⟨az,aA,rfl,aB⟩:=aq kk v E' ay;have aC:Ax E' H [g]:=ai.up aw;refine(?_:JL (A4 Tryz.prog true) (Stop Tryz.prog F (.BF (K++ [kk]) (vs++ [_]))) (base 102) Tryz.f102.ntmps _ [] _ cs (Am E' H [g]));refine zg 9 rfl ?_;refine JS.alloc rfl rfl rfl aC (AN type133) fun aO aD=>?_;refine JS.st (v:= .agg #[iV ((kk:Nat):Int),iV (qs kk).1,.slice az (qs kk).2.length aA]) (off:=0) 1 aD (Ag type133) rfl rfl rfl rfl fun aE=>?_;refine JS.Bo 1 aE rfl fun aF aa aG aH=>?_;refine JS.split (S':= [g]) (by simp) aH fun aI=>?_;refine zg 3 rfl ?_;refine JL.Bx aG (An underlying133) (Ag type133) rfl rfl ?_;have aJ:(K.map (partOf qs)).length+1≤2 ^ 40:=by rw [List.length_map];omega
   refine JS.IT (pp:=BL) (xv:=partOf qs kk) 0 rfl rfl rfl rfl (fun w=>rfl) rfl (fun w=>rfl) rfl rfl rfl underlying130 underlying130 underlying130 (Ag type133) (CJ type133) (AN type133) rfl (by decide) (by decide) (by decide) (by decide) aJ (ah.mono (ak.trans aa)) ⟨_,_,rfl,rfl,⟨_,_,rfl,rfl,⟨_,_,rfl,aB.mono aa⟩⟩⟩ aI rfl fun w al am g' an aK=>?_;have em:K.map (partOf qs)++ [partOf qs kk]=(K++ [kk]).map (partOf qs):=by simp
   rw [em] at an;refine JL.y (v:= .slice al ((K++ [kk]).map (partOf qs)).length am) rfl rfl rfl (fun ρ h=>by rw [← em];exact Yl.assign (h _ _ rfl)) ?_;refine zg 2 rfl ?_;refine JL.again ?_;have aL:((List.range 13).filter (fun x=> !(K++ [kk]).contains x)).length<m:=by rw [← hm];exact So Z aj
   exact JL.kw (au _ aL (K++ [kk]) (vs++ [_]) aF al am g' rfl (by rw [List.nodup_append];exact⟨ae,by simp,by intro x O y ao;simp at ao;subst ao;intro e;exact aj (e▸O)⟩) (by intro x O;simp at O;rcases O with O | rfl;exact ag x O;exact⟨Z,av⟩) (by simp only [List.length_append,List.length_cons,List.length_nil];omega) ((hle.trans ak).trans aa) an aK) rfl
  ·intro aM T aN;refine ap _ _ ?_;refine(?_:JL (CC Tryz.prog) Q (base 102) Tryz.f102.ntmps _ [] _ cs (Am U H [g])) T aN;refine zg 5 rfl ?_;exact JL.kw (ar K U a c g hle ae ag (fun x O hh=>aM x (by rw [ab];exact O) hh) ah ai) rfl
end Pal
namespace Pal
open Go Go.Conc
section
variable {P:Program}{J:Judge P}{Q:Goroutine→St→Prop}{b:Frame}{n:Nat}{ds:List Deferred}{ops:Array Oper}{k:List Item}{cs:List Frame}{fuel:Nat}{D:Nat→Bool}{listed:Array Bool}{L L':Env}{s:St}{xl:List Nat}
variable {d:Option Tmp}{op:Op}{ty:TypeId}{p:String}{af:Array Edge}{g:Option (Nat×Bool)}{v:Value}
theorem JB.V(i:Nat)(pure:Bool)(K:s.q=false)(O:Gz n L ops i=some ⟨d,op,ty,p,af,g⟩)
  (U:∀ρ,C4 L ρ→∀s':St,(pure=false→∀x o,(Bg D s).E x=some o→s'.E x=some o)→Yl P ⟨d,op,ty,p,af,g⟩ ρ s' v)
  (W:Ft J Q b n ds ops k cs (AA xl) D fuel (AX listed i) (AE L d v) s) (Z:Ju ops listed xl pure i=true:=by decide+kernel):Ft J Q b n ds ops k cs (AA xl) D (fuel+1) listed L s:=by
 obtain⟨aa,ab,ae⟩:=LU O;exact JB.val i pure aa Z K ab ae U W
def La(n:Nat)(L:Env)(ops:Array Oper)(i:Nat):Option Env:=
 match FK ops.toList i with
 | some ⟨d,op,ty,p,af,g⟩=>match AU L ops ⟨d,op,ty,p,af,g⟩ with
  | some true=>match Bb n d with
   | true=>match Gx L op with
    | some v=>match d with
     | some d=>some ((d,v)::L)
     | none=>some L
    | none=>none
   | false=>none
  | _=>none
 | none=>none
theorem Qs{i:Nat}(h:La n L ops i=some L'):∃o v,ops[i]? =some o∧Bb n o.dst=true∧AU L ops o=some true∧Gx L o.op=some v∧L'=AE L o.dst v:=by
 unfold La at h;split at h
 ·rename_i d op ty p af g K;rw [GU,Array.getElem?_toList] at K;split at h
  ·rename_i hw;split at h
   ·rename_i O;split at h
    ·rename_i v U;refine⟨_,v,K,O,hw,U,?_⟩;cases d with
     | none=>cases h;rfl
     | some d=>cases h;rfl
    ·cases h
   ·cases h
  ·cases h
 ·cases h
theorem JB.mv(i:Nat)(K:s.q=false)(h:La n L ops i=some L')
  (O:Ft J Q b n ds ops k cs (AA xl) D fuel (AX listed i) L' s) (U:Ju ops listed xl true i=true:=by decide+kernel):Ft J Q b n ds ops k cs (AA xl) D (fuel+1) listed L s:=by
 obtain⟨o,v,W,Z,hw,aa,rfl⟩:=Qs h;exact JB.val i true W U K hw Z (fun ρ ab s' _=>IS ab aa) O
end
end Pal
