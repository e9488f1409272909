/- ToothAlike answers true for every list of numbers, on every schedule; without a condition beyond those of the given row and card. Part 2 of 8. -/
import Derived.Test.YtboibffcmhheiaaGreatDoorAla
import Derived.Conc.Beside
import Derived.Conc.CrowdComm
import Derived.Conc.TokenWalk
import Derived.Conc.MarkLaws
import Derived.Conc.AtomicLaws2
import Derived.Conc.WgLib
import Derived.Conc.WgArith
import Derived.Conc.WgGenW
set_option linter.all false
set_option maxRecDepth 100000
namespace Pal
open Go Go.Conc
def Lc(t1 t2:TypeId)(v:Value):Option (Int×Option Int)→Prop
 | none=>v= .nilIface
 | some (m,none)=>v= .iface t1 (.agg #[iV m])
 | some (m,some a)=>v= .iface t2 (.agg #[iV m,iV a])
def Lg:Option (Int×Option Int)→Value
 | some (m,none)=> .agg #[iV m]
 | _=> .agg #[iV 0]
def Lb:Option (Int×Option Int)→Value
 | some (m,some a)=> .agg #[iV m,iV a]
 | _=> .agg #[iV 0,iV 0]
def Gu:Option (Int×Option Int)→Bool
 | some (_,none)=>true
 | _=>false
def Hd:Option (Int×Option Int)→Bool
 | some (_,some _)=>true
 | _=>false
section
variable {P:Program}{s:St}{ρ:Operand→Value}{x y z:Operand}{d:Option Tmp}{t u ty e xt t1 t2:TypeId}{p:String}{af:Array Edge}{g:Option (Nat×Bool)}{v v':Value}{o:Option (Int×Option Int)}
theorem Yl.Rm{f1:Array Field}(O:P.underlying t1=some (.struct f1))(K:zeroOf P t1=some (.agg #[iV 0]))(U:t2≠t1)(he:Lc t1 t2 v o)(W:ρ x=v):Yl P ⟨d,.typeAssert x xt t1 true,ty,p,af,g⟩ ρ s (.tuple #[Lg o,.bool (Gu o)]):=by
 refine Yl.DL (sm:=Instr.typeAssert (ρ x) xt t1 true) rfl ?_;rw [W];unfold Instr.typeAssert;refine AD _ _ (Ck O ?_)
 match o,he with
 | none,he=>obtain rfl:v= .nilIface:=he;exact AD (x:=zeroValue t1) _ (D9 K ⟨rfl,rfl⟩)
 | some (m,none),he=>obtain rfl:v= .iface t1 (.agg #[iV m]):=he;simp [lp,pure,Lg,Gu]
 | some (m,some a),he=>
  obtain rfl:v= .iface t2 (.agg #[iV m,iV a]):=he;simp only [if_neg U];exact AD (x:=zeroValue t1) _ (D9 K ⟨rfl,rfl⟩)
theorem Yl.Qw{f1:Array Field}(O:P.underlying t2=some (.struct f1))(K:zeroOf P t2=some (.agg #[iV 0,iV 0]))(U:t1≠t2)(he:Lc t1 t2 v o)(W:ρ x=v):Yl P ⟨d,.typeAssert x xt t2 true,ty,p,af,g⟩ ρ s (.tuple #[Lb o,.bool (Hd o)]):=by
 refine Yl.DL (sm:=Instr.typeAssert (ρ x) xt t2 true) rfl ?_;rw [W];unfold Instr.typeAssert;refine AD _ _ (Ck O ?_)
 match o,he with
 | none,he=>obtain rfl:v= .nilIface:=he;exact AD (x:=zeroValue t2) _ (D9 K ⟨rfl,rfl⟩)
 | some (m,none),he=>
  obtain rfl:v= .iface t1 (.agg #[iV m]):=he;simp only [if_neg U];exact AD (x:=zeroValue t2) _ (D9 K ⟨rfl,rfl⟩)
 | some (m,some a),he=>obtain rfl:v= .iface t2 (.agg #[iV m,iV a]):=he;simp [lp,pure,Lb,Hd]
end
def Ov{P:Program}(J:Judge P)(v:Value)(args:Array Value)(s:St)(R:Value→St→Prop):Prop:=
 ∀(Q:Goroutine→St→Prop) (c:Frame) (cs:List Frame),(∀w s',R w s'→J.ok Q (G (c.finish w) cs) s')→
  lp P (do let d ← Deferred.ofValue v args;invoke d.target d.args) s (fun nx s'=>match nx with
   | .enter f a=>J.ok Q (G (Frame.enter P f a .normal) (c::cs)) s'
   | .round l f K as O=>J.ok Q (G (Frame.round l f K as O .normal) (c::cs)) s'
   | _=>False) (fun _ _=>False)
def Df{P:Program}(J:Judge P)(v:Value)(args:List Value)(E:LH)(B:Seg)(R:Value→LH→Seg→Prop):Prop:=
 ∀H,Nd E H B→Ov J v args.toArray (mk E H B) (fun v s'=>∃E' B',Le E E'∧R v E' B'∧Nd E' H B'∧s'=mk E' H B')
section
variable {P:Program}{J:Judge P}{Q:Goroutine→St→Prop}{b:Frame}{n:Nat}{L:Env}{ds:List Deferred}{k:List Item}{cs:List Frame}{E:LH}{H:LH}{S:List Seg}{i:Nat}{rest:List Nat}{d:Option Tmp}{ty e t:TypeId}{p:String}{af:Array Edge}{g:Option (Nat×Bool)}{ops:Array Oper}
theorem Df.ofFn{f:FuncId}{caps vs:List Value}{B:Seg}{R:Value→LH→Seg→Prop}(hb:Cv P f=true)(h:As J f (vs++caps) E B R):Df J (.func (.func f) #[] caps.toArray) vs E B R:=fun H K Q c cs O=>by
 simp only [Deferred.ofValue,bind,Sem.bind,pure,invoke]
 have e: #[]++vs.toArray++caps.toArray=(vs++caps).toArray:=by simp
 rw [e];exact Ge hb (h H K Q c cs O)
theorem JL.R4{x:Operand}{O:Value}{args:Array Operand}{ats:Array TypeId}{s:St}{vs:List Value}{R:Value→St→Prop}
  (W:ops[i]? =some ⟨d,.call ⟨.value x,args,ats⟩,ty,p,af,g⟩) (hw:AU L ops ⟨d,.call ⟨.value x,args,ats⟩,ty,p,af,g⟩=some true) (U:((b.kind != .early)&&Bb n d)=true)
  (Z:ev L x=some O) (aa:evs L args.toList=some vs) (ab:Ov J O vs.toArray s R) (ae:∀v s',R v s'→JL J Q b n (AE L d v) ds (.inRegion ops rest::k) cs s'):
  JL J Q b n L ds (.inRegion ops (i::rest)::k) cs s:=fun T K=>by
 simp only [Bool.and_eq_true] at U
 have ag:args.map (Bf T)=vs.toArray:=by
  rw [← Ed K.D4 aa];apply Array.ext';simp
 refine Judge.oper W (B8 K hw) (by simpa using U.1) (.inr fun c ah=>by cases ah) ?_;have ai:lp P (execOp (Bf T) ⟨d,.call ⟨.value x,args,ats⟩,ty,p,af,g⟩) s (upon J Q b T ds ops i rest k cs d) (HT J Q b T ds ops i rest k cs):=by
  have aj:execOp (Bf T) ⟨d,.call ⟨.value x,args,ats⟩,ty,p,af,g⟩=(do let d ← Deferred.ofValue O vs.toArray;invoke d.target d.args):=by
   simp only [execOp,resolve,ag,K.D4 _ _ Z]
  rw [aj];refine Cl _ (ab Q (fr b T ds (.inRegion ops (i::rest)::k)) cs fun v s' ak=>?_) (fun nx s' h=>?_) (fun _ _ h=>h.elim)
  ·rw [D1 (o:=⟨d,.call ⟨.value x,args,ats⟩,ty,p,af,g⟩) _ _ _ _ _ W];exact ae v s' ak _ (K.put U.2 v)
  ·cases nx <;> first | exact h | exact h.elim
 exact ai
theorem JS.G6{x:Operand}{O:Value}{args:Array Operand}{ats:Array TypeId}{vs:List Value}{seg:Seg}{R:Value→LH→Seg→Prop}(j:Nat)
  (ag:Df J O vs E seg R) (ah:ops[i]? =some ⟨d,.call ⟨.value x,args,ats⟩,ty,p,af,g⟩) (hw:AU L ops ⟨d,.call ⟨.value x,args,ats⟩,ty,p,af,g⟩=some true) (ai:((b.kind != .early)&&Bb n d)=true)
  (K:ev L x=some O) (aj:evs L args.toList=some vs) (U:Ax E H S) (W:S[j]? =some seg) (ak:∀v E' seg',Le E E'→R v E' seg'→Ax E' H (S.set j seg')→JL J Q b n (AE L d v) ds (.inRegion ops rest::k) cs (Am E' H (S.set j seg'))):
  JL J Q b n L ds (.inRegion ops (i::rest)::k) cs (Am E H S):=by
 have Z:S.flatten.Perm (seg++(S.set j []).flatten):=(CB (seg':=seg) W).1.trans List.perm_append_comm;have aa:Nd E H (seg++(S.set j []).flatten):=Nd.perm U Z;have al:Am E H S=mk E (AS (S.set j []).flatten H) seg:=by
  rw [show Am E H S=mk E H S.flatten from rfl,C3 U Z];unfold mk;rw [Ds]
 rw [al];refine JL.R4 ah hw ai K aj (ag _ (Nd.front aa)) ?_;rintro v s' ⟨E',B',hle,am,an,rfl⟩;have ao:mk E' (AS (S.set j []).flatten H) B'=mk E' H (B'++(S.set j []).flatten):=by unfold mk;rw [Ds]
 have ap:Nd E H (S.set j []).flatten:=by
  have:=aa;rw [Nd.iff] at this ⊢;rw [List.map_append,List.nodup_append] at this;exact⟨this.1.2.1,fun q aq=>this.2 q (List.mem_append_right _ aq)⟩
 refine JL.Fp rfl fun⟨w,ar⟩=>?_;have au:Nd E' H (S.set j []).flatten:=ap.grow fun x K=>by
  have av:=ar.d x K;have aw:AS B' (AS (S.set j []).flatten H) x=none:=av;exact(Ep aw).1
 have ab:Nd E' H (B'++(S.set j []).flatten):=Nd.glue an au;rw [ao];have ae:(B'++(S.set j []).flatten).Perm (S.set j B').flatten:=List.perm_append_comm.trans (CB W).2.symm;rw [C3 ab ae];exact ak v E' B' hle am (Nd.perm ab ae)
theorem JG.NT{bks:List Nat}{m fuel:Nat}{listed:Array Bool}{f:FuncId}{args:Array Operand}{ats:Array TypeId}{vs:List Value}{seg:Seg}{R:Value→LH→Seg→Prop}(j:Nat)(ak:EJ S bks)(al:As J f vs E seg R)(am:∀v E' B',R v E' B'→B'=seg)(an:Region.ready .any ops listed= [i])
  (ao:ops[i]? =some ⟨d,.call ⟨.value (.func f),args,ats⟩,ty,p,af,g⟩) (ap:Bb n d=true) (hw:AU L ops ⟨d,.call ⟨.value (.func f),args,ats⟩,ty,p,af,g⟩=some true) (hb:Cv P f=true) (aq:evs L args.toList=some vs) (W:Ax E H S) (ar:S[j]? =some seg)
  (au:∀v E',Le E E'→R v E' seg→Ax E' H S→Au J Q b n ds ops k cs m (AA bks) fuel (AX listed i) (AE L d v) (Am E' H S)):
  Au J Q b n ds ops k cs m (AA bks) (fuel+1) listed L (Am E H S):=by
 have O:S.flatten.Perm (seg++(S.set j []).flatten):=(CB (seg':=seg) ar).1.trans List.perm_append_comm;have ab:Nd E H (seg++(S.set j []).flatten):=Nd.perm W O;have av:Am E H S=mk E (AS (S.set j []).flatten H) seg:=by
  rw [show Am E H S=mk E H S.flatten from rfl,C3 W O];unfold mk;rw [Ds]
 have ae:=Cz.Fp (al (AS (S.set j []).flatten H) (Nd.front ab)) (by rintro v s' ⟨E',B',_,_,_,rfl⟩;rfl);rw [← av] at ae;refine Au.call rfl an ao ap hw hb aq ae ?_;rintro v aF ⟨⟨E',B',hle,ag,aw,rfl⟩,w,ay⟩;obtain rfl:=am _ _ _ ag;have az:mk E' (AS (S.set j []).flatten H) B'=mk E' H (B'++(S.set j []).flatten):=by unfold mk;rw [Ds]
 have aA:Nd E H (S.set j []).flatten:=by
  have:=ab;rw [Nd.iff] at this ⊢;rw [List.map_append,List.nodup_append] at this;exact⟨this.1.2.1,fun q aB=>this.2 q (List.mem_append_right _ aB)⟩
 have aC:Nd E' H (S.set j []).flatten:=aA.grow fun x U=>by
  have aD:=ay.d x U;have Z:AS B' (AS (S.set j []).flatten H) x=none:=aD;exact(Ep Z).1
 have ah:Nd E' H (B'++(S.set j []).flatten):=Nd.glue aw aC;have ai:Ax E' H S:=Nd.perm ah O.symm;rw [az,C3 ah O.symm];refine⟨rfl,fun x o U=>?_,au v E' hle ag ai⟩;by_cases aa:AA bks x=true
 ·obtain⟨aG,o',aj⟩:=ak.mem x (by simpa [AA] using aa);have Z:(Am E H S).get x=some o':=CV (i:=0) W aj rfl;have aE:(Am E' H S).get x=some o':=CV (i:=0) ai aj rfl;have K:(if AA bks x then(Am E H S).get x else E x)=some o:=U
  show(if AA bks x then(Am E' H S).get x else E' x)=some o
  rw [if_pos aa] at K ⊢;rw [aE,← Z];exact K
 ·have K:(if AA bks x then(Am E H S).get x else E x)=some o:=U
  show(if AA bks x then(Am E' H S).get x else E' x)=some o
  rw [if_neg aa] at K ⊢;exact hle _ _ K
theorem Take.Ja{bks:List Nat}{m fuel:Nat}{listed:Array Bool}{f:FuncId}{args:Array Operand}{ats:Array TypeId}{vs:List Value}{R:Value→LH→Seg→Prop}(ai:EJ S bks)(aa:Ax E H S)(aj:As J f vs E [] R)
  (ak:ops[i]? =some ⟨d,.call ⟨.value (.func f),args,ats⟩,ty,p,af,g⟩) (hw:AU L ops ⟨d,.call ⟨.value (.func f),args,ats⟩,ty,p,af,g⟩=some true) (al:Bb n d=true) (hb:Cv P f=true) (am:evs L args.toList=some vs)
  (an:∀v E' seg',Le E E'→R v E' seg'→Ax E' H (S++ [seg'])→Au J Q b n ds ops k cs m (AA bks) fuel (AX listed i) (AE L d v) (Am E' H (S++ [seg']))):
  Take J Q b n ds ops k cs m (AA bks) fuel listed L (Am E H S) i:=by
 have ao:=Cz.Fp (aj (AS S.flatten H) trivial) (by rintro v s' ⟨E',B',_,_,_,rfl⟩;rfl);refine⟨_,ak,by simp [Cs],al,hw,fun ρ ab=>?_⟩;have ap:args.map ρ=vs.toArray:=by
  rw [← Ed ab am];apply Array.ext';simp
 have aq:ρ (.func f)= .func (.func f) #[] #[]:=ab _ _ rfl;simp only [execOp,resolve,bind,Sem.bind,Deferred.ofValue,aq,pure,invoke];have e: #[]++args.map ρ++ #[]=vs.toArray:=by rw [ap];simp
 rw [e];refine Ge hb ?_;rw [Hp];refine⟨_,ao,?_⟩;rintro v aC ⟨⟨E',B',hle,ar,au,rfl⟩,w,av⟩;have aw:mk E' (AS S.flatten H) B'=mk E' H (B'++S.flatten):=by unfold mk;rw [Ds]
 have ay:Nd E' H S.flatten:=Nd.grow aa fun x O=>by
  have az:=av.d x O;have U:AS B' (AS S.flatten H) x=none:=az;exact(Ep U).1
 have ae:Nd E' H (B'++S.flatten):=Nd.glue au ay;have ag:(B'++S.flatten).Perm (S++ [B']).flatten:=by rw [Er];exact List.perm_append_comm
 have ah:Ax E' H (S++ [B']):=Nd.perm ae ag;rw [aw,C3 ae ag];refine⟨rfl,fun x o O=>?_,an v E' B' hle ar ah⟩;by_cases W:AA bks x=true
 ·obtain⟨j,o',Z⟩:=ai.mem x (by simpa [AA] using W);have U:(Am E H S).get x=some o':=CV (i:=0) aa Z rfl;have aA:j<S.length:=(List.getElem?_eq_some_iff.1 Z).1;have aB:(Am E' H (S++ [B'])).get x=some o':=CV (i:=0) ah (by rw [List.getElem?_append_left aA];exact Z) rfl;have K:(if AA bks x then(Am E H S).get x else E x)=some o:=O
  show(if AA bks x then(Am E' H (S++ [B'])).get x else E' x)=some o
  rw [if_pos W] at K ⊢;rw [aB,← U];exact K
 ·have K:(if AA bks x then(Am E H S).get x else E x)=some o:=O
  show(if AA bks x then(Am E' H (S++ [B'])).get x else E' x)=some o
  rw [if_neg W] at K ⊢;exact hle _ _ K
theorem Take.N8{m fuel:Nat}{listed:Array Bool}{f:FuncId}{args:Array Operand}{ats:Array TypeId}{vs:List Value}{R:Value→LH→Seg→Prop}(O:Ax E H S)(U:As J f vs E [] R)
  (W:ops[i]? =some ⟨d,.call ⟨.value (.func f),args,ats⟩,ty,p,af,g⟩) (hw:AU L ops ⟨d,.call ⟨.value (.func f),args,ats⟩,ty,p,af,g⟩=some true) (Z:Bb n d=true) (hb:Cv P f=true) (aa:evs L args.toList=some vs)
  (K:∀v E' seg',Le E E'→R v E' seg'→Ax E' H (S++ [seg'])→Au J Q b n ds ops k cs m Dd fuel (AX listed i) (AE L d v) (Am E' H (S++ [seg']))):
  Take J Q b n ds ops k cs m Dd fuel listed L (Am E H S) i:=by
 have e:AA []=Dd:=by funext x;rfl
 rw [← e] at K ⊢;exact Take.Ja (bks:= []) trivial O U W hw Z hb aa K
end
end Pal
namespace Pal
open Go Go.Conc
open Go.ConcN (upd upd_same upd_ne)
def Cx:Loc→Option Nat | .cell a=>some a.block | .obj r=>some r | _=>none
structure BH (t:Trace) (w:World) (N:Nat) (S:Nat→St) (Sh:Nat→Prop):Prop where
 fits:∀i,i<N→Fits (S i) w
 hh:∀i j,i<N→j<N→i≠j→∀b,(S i).H b≠none→(S j).H b=none∧(S j).E b=none
 sh:∀i,i<N→∀b,Sh b→(S i).H b=none∧(S i).E b=none
 Dy:∀b,Sh b→b<w.heap.size
 clean:∀said,¬Race said t
 low:∀op∈t,op.act.low w.heap.size
 kH:∀i,i<N→∀b,(S i).H b≠none→∀x a,touchAt t x=some a→Cx a.loc=some b→Knows t i x
 kE:∀i,i<N→∀b,(S i).E b≠none→∀x a,touchAt t x=some a→Cx a.loc=some b→a.write=true→Knows t i x
theorem J3{t:Trace}{x:Nat}{a:Touch}{b n:Nat}(Z:∀op∈t,op.act.low n)(h:touchAt t x=some a)(hb:Cx a.loc=some b):b<n:=by
 obtain⟨op,aa,K⟩:=touch_of h;have O:=Z op (mem_of_getElem? aa);cases U:op.act with
 | access e=>
  rw [U] at K O;simp only [MemAct.touch?,Option.some.injEq] at K;subst K;simp only [MemAct.low] at O;cases W:e.loc with
  | cell ad=>rw [W] at O hb;simp only [Cx,Option.some.injEq] at hb;subst hb;exact O
  | obj r=>rw [W] at O hb;simp only [Cx,Option.some.injEq] at hb;subst hb;exact O
  | _=>rw [W] at hb;simp [Cx] at hb
 | mark m=>
  rw [U] at K O;cases m <;> simp only [MemAct.touch?] at K <;> first
   | (simp at K;done)
   | (simp only [Option.some.injEq] at K;subst K;simp only [Cx,Option.some.injEq] at hb;subst hb;exact O)
 | _=>rw [U] at K;simp [MemAct.touch?] at K
theorem Iy{s:St}{w w':World}{e:Event}{a:Touch}{b:Nat}(h:Ev s w w' e)(K:(MemAct.ofEvent e).touch? =some a)(hb:Cx a.loc=some b):
  D2 s w w' b a.write:=by
 obtain⟨loc,wr,W⟩:=e;cases loc with
 | cell ad=>
  obtain⟨O,U⟩:=h;simp only at O;subst O;simp only [MemAct.ofEvent,MemAct.touch?,Option.some.injEq] at K;subst K;simp only [Cx,Option.some.injEq] at hb;subst hb;exact U
 | obj r=>
  obtain⟨O,U⟩:=h;simp only at O;subst O;simp only [MemAct.ofEvent,MemAct.touch?,Option.some.injEq] at K;subst K;simp only [Cx,Option.some.injEq] at hb;subst hb;exact U
 | mark m=>
  cases m <;> simp only [Ev] at h <;> first | exact h.elim | simp [MemAct.ofEvent,MemAct.touch?] at K
 | _=>exact h.elim
theorem Sn{s:St}{w w':World}{e:Event}(h:Ev s w w' e):(MemAct.ofEvent e).low w'.heap.size:=by
 obtain⟨loc,wr,U⟩:=e;cases loc with
 | cell ad=>obtain⟨K,O⟩:=h;simp only at K;subst K;exact O.1
 | obj r=>obtain⟨K,O⟩:=h;simp only at K;subst K;cases wr <;> exact O.1
 | mark m=>cases m <;> simp only [Ev] at h <;> first | exact h.elim | exact trivial
 | _=>exact h.elim
theorem OU{l:Loc}(h:l.isMemory=true):∃b,Cx l=some b:=by
 cases l <;> simp [Loc.isMemory] at h <;> exact⟨_,rfl⟩
theorem BH.own{t:Trace}{w w':World}{N:Nat}{S:Nat→St}{Sh:Nat→Prop}(h:BH t w N S Sh){i:Nat}(hi:i<N){s':St}{fn:FuncId}{pos:String}{es:Array Event}
  (aA:Fits s' w') (W:Fr (S i) w s' w') (al:∀e∈es,Ev (S i) w w' e):BH (t++MemOp.ofEvents i fn pos es) w' N (upd S i s') Sh:=by
 have au:∀j,j<N→j≠i→∀b o,((S j).H b=some o∨(S j).E b=some o)→w'.heap[b]? =some o∧(S i).H b=none:=by
  intro j U Z b o K;have hw:w.heap[b]? =some o:=K.elim ((h.fits j U).h b o) ((h.fits j U).e b o);have ae:b<w.heap.size:=by
   rcases Nat.lt_or_ge b w.heap.size with ao | ao
   ·exact ao
   ·simp [Array.getElem?_eq_none ao] at hw
  have av:(S i).H b=none:=by
   cases aB:(S i).H b with
   | none=>rfl
   | some u=>
    have:=h.hh i j hi U (Ne.symm Z) b (by rw [aB];simp);rcases K with K | K
    ·rw [this.1] at K;cases K
    ·rw [this.2] at K;cases K
  exact⟨by rw [W.keep b ae av,hw],av⟩
 have am:∀j,j<N→∀b,w.heap.size≤b→(S j).H b=none∧(S j).E b=none:=by
  intro j U b hb;constructor
  ·cases O:(S j).H b with
   | none=>rfl
   | some o=>have:=(h.fits j U).h b o O;simp [Array.getElem?_eq_none hb] at this
  ·cases O:(S j).E b with
   | none=>rfl
   | some o=>have:=(h.fits j U).e b o O;simp [Array.getElem?_eq_none hb] at this
 have ag:∀op∈MemOp.ofEvents i fn pos es,op.g=i∧∃e∈es,op.act=MemAct.ofEvent e:=by
  intro op ag;obtain⟨e,he,rfl⟩:=mem_ofEvents ag;exact⟨rfl,e,he,rfl⟩
 have hold:∀x a,touchAt t x=some a→touchAt (t++MemOp.ofEvents i fn pos es) x=some a:=by
  intro x a O;obtain⟨op,K,_⟩:=touch_of O;rw [touchAt_old (lt_size_of_getElem? K)];exact O
 have an:∀x a,touchAt (t++MemOp.ofEvents i fn pos es) x=some a→touchAt t x=some a∨(Knows (t++MemOp.ofEvents i fn pos es) i x∧∃e∈es,(MemAct.ofEvent e).touch? =some a):=by
  intro x a O;obtain⟨op,K,aw⟩:=touch_of O;rcases getElem?_append_cases K with⟨ae,aC⟩ | ⟨_,aD⟩
  ·left;rw [touchAt_of aC];exact aw
  ·right;obtain⟨aE,e,he,ai⟩:=ag op aD;exact⟨by have:=knows_own K;rwa [aE] at this,e,he,by rw [← ai];exact aw⟩
 have aF:∀j,j<N→j≠i→∀b,s'.H b≠none→(S j).H b=none∧(S j).E b=none:=by
  intro j U Z b hb;rcases W.own b hb with O | O
  ·exact h.hh i j hi U (Ne.symm Z) b O
  ·exact am j U b O
 have aG:∀j,j<N→j≠i→∀b,(S j).H b≠none→s'.H b=none∧s'.E b=none:=by
  intro j U Z b hb;have aa:=h.hh j i U hi Z b hb;have ae:¬w.heap.size≤b:=fun O=>hb (am j U b O).1;constructor
  ·cases O:s'.H b with
   | none=>rfl
   | some o=>
    rcases W.own b (by rw [O];simp) with y | y
    ·exact absurd aa.1 y
    ·exact absurd y ae
  ·cases O:s'.E b with
   | none=>rfl
   | some o=>
    rcases W.CW b (by rw [O];simp) with y | y | y
    ·exact absurd aa.2 y
    ·exact absurd aa.1 y
    ·exact absurd y ae
 constructor
 ·intro j U;by_cases e:j=i
  ·subst e;rw [upd_same];exact aA
  ·rw [upd_ne _ _ e];exact⟨fun b o K=>(au j U e b o (.inr K)).1,fun b o K=>(au j U e b o (.inl K)).1,(h.fits j U).d⟩
 ·intro a c ay aj Z b hb;by_cases e:a=i
  ·subst e;rw [upd_same] at hb;rw [upd_ne _ _ (Ne.symm Z)];exact aF c aj (Ne.symm Z) b hb
  ·rw [upd_ne _ _ e] at hb;by_cases az:c=i
   ·subst az;rw [upd_same];exact aG a ay Z b hb
   ·rw [upd_ne _ _ az];exact h.hh a c ay aj Z b hb
 ·intro j U b hb;by_cases e:j=i
  ·subst e;rw [upd_same];have aa:=h.sh j U b hb;have ae:=h.Dy b hb;constructor
   ·cases O:s'.H b with
    | none=>rfl
    | some o=>
     rcases W.own b (by rw [O];simp) with y | y
     ·exact absurd aa.1 y
     ·omega
   ·cases O:s'.E b with
    | none=>rfl
    | some o=>
     rcases W.CW b (by rw [O];simp) with y | y | y
     ·exact absurd aa.2 y
     ·exact absurd aa.1 y
     ·omega
  ·rw [upd_ne _ _ e];exact h.sh j U b hb
 ·exact fun b hb=>Nat.lt_of_lt_of_le (h.Dy b hb) W.size
 ·intro said;refine noRace_append (g:=i) (h.clean said) (fun op K=>(ag op K).1) fun x a O op K c aj aH=>?_;obtain⟨_,e,he,ai⟩:=ag op K;rw [ai] at aj;obtain⟨aI,hm,ah,_⟩:=aH;obtain⟨b,hb⟩:=OU hm;have aJ:Cx c.loc=some b:=by rw [← aI];exact hb
  have ak:=Iy (al e he) aj aJ;rcases ak.2 with y | y | ⟨y,ap⟩
  ·exact h.kH i hi b y x a O hb
  ·have:=J3 h.low O hb;omega
  ·rcases ah with z | z
   ·exact h.kE i hi b y x a O hb z
   ·rw [ap] at z;cases z
 ·intro op K;rcases Array.mem_append.1 K with K | K
  ·exact MemAct.low_mono W.size (h.low op K)
  ·obtain⟨_,e,he,ai⟩:=ag op K;rw [ai];exact Sn (al e he)
 ·intro j U b hb x a O ab;by_cases e:j=i
  ·subst e;rw [upd_same] at hb;rcases an x a O with K | ⟨aq,_⟩
   ·rcases W.own b hb with y | y
    ·exact(h.kH j U b y x a K ab).app _
    ·have:=J3 h.low K ab;omega
   ·exact aq
  ·rw [upd_ne _ _ e] at hb;rcases an x a O with K | ⟨_,ev,he,ar⟩
   ·exact(h.kH j U b hb x a K ab).app _
   ·have ak:=Iy (al ev he) ar ab;have aa:=h.hh j i U hi e b hb;rcases ak.2 with y | y | ⟨y,_⟩
    ·exact absurd aa.1 y
    ·exact absurd (am j U b y).1 hb
    ·exact absurd aa.2 y
 ·intro j U b hb x a O ab ah;by_cases e:j=i
  ·subst e;rw [upd_same] at hb;rcases an x a O with K | ⟨aq,_⟩
   ·rcases W.CW b hb with y | y | y
    ·exact(h.kE j U b y x a K ab ah).app _
    ·exact(h.kH j U b y x a K ab).app _
    ·have:=J3 h.low K ab;omega
   ·exact aq
  ·rw [upd_ne _ _ e] at hb;rcases an x a O with K | ⟨_,ev,he,ar⟩
   ·exact(h.kE j U b hb x a K ab ah).app _
   ·have ak:=Iy (al ev he) ar ab;rcases ak.2 with y | y | ⟨_,ap⟩
    ·exact absurd ((h.hh i j hi U (Ne.symm e) b y).2) hb
    ·exact absurd (am j U b y).2 hb
    ·rw [ap] at ah;cases ah
theorem BH.mute{t u:Trace}{w w':World}{N:Nat}{S:Nat→St}{Sh:Nat→Prop}(h:BH t w N S Sh){g:Nat}(hu:∀op∈u,op.g=g)(Z:∀op∈u,op.act.touch? =none)(ae:∀op∈u,op.act.low w'.heap.size)(hw:w'.heap=w.heap):BH (t++u) w' N S Sh:=by
 have aa:∀x a,touchAt (t++u) x=some a→touchAt t x=some a:=by
  intro x a O;obtain⟨op,K,U⟩:=touch_of O;rcases getElem?_append_cases K with⟨aj,ag⟩ | ⟨_,ah⟩
  ·rw [touchAt_of ag];exact U
  ·rw [Z op ah] at U;cases U
 exact⟨fun i hi=>⟨fun b o K=>by rw [hw];exact(h.fits i hi).e b o K,fun b o K=>by rw [hw];exact(h.fits i hi).h b o K,(h.fits i hi).d⟩,h.hh,h.sh,fun b hb=>by rw [hw];exact h.Dy b hb,
  fun said=>noRace_append (g:=g) (h.clean said) hu (fun x a _ op K c ab _=>by rw [Z op K] at ab;cases ab),
  fun op K=>(Array.mem_append.1 K).elim (fun K=>by rw [hw];exact h.low op K) (ae op),
  fun i hi b hb x a O W=>(h.kH i hi b hb x a (aa x a O) W).app _,fun i hi b hb x a O W ai=>(h.kE i hi b hb x a (aa x a O) W ai).app _⟩
theorem BH.ghost{t:Trace}{w:World}{N:Nat}{S:Nat→St}{Sh:Nat→Prop}(h:BH t w N S Sh){i:Nat}(hi:i<N){s₀:St}(ae:B4 (S i) s₀):BH t w N (upd S i s₀) Sh:=by
 have Z:∀b,s₀.H b≠none→(S i).H b≠none:=fun b hb=>by obtain⟨o,ag⟩:=EW hb;rw [ae.own b o ag];simp
 have ah:∀b,s₀.E b≠none→(S i).E b≠none∨(S i).H b≠none:=fun b hb=>by
  obtain⟨o,ag⟩:=EW hb;rcases ae.CW b o ag with x | x
  ·exact .inl (by rw [x];simp)
  ·exact .inr (by rw [x.1];simp)
 have aa:∀{x:Option Obj},¬x≠none→x=none:=fun h=>Classical.not_not.1 h;constructor
 ·intro j K;by_cases e:j=i
  ·subst e;rw [upd_same];exact ae.fits (h.fits j K)
  ·rw [upd_ne _ _ e];exact h.fits j K
 ·intro a c ai aj ab b hb;by_cases e:a=i
  ·subst e;rw [upd_same] at hb;rw [upd_ne _ _ (Ne.symm ab)];exact h.hh a c ai aj ab b (Z b hb)
  ·rw [upd_ne _ _ e] at hb;by_cases ak:c=i
   ·subst ak;rw [upd_same];have O:=h.hh a c ai aj ab b hb;exact⟨aa fun x=>Z b x O.1,aa fun x=>(ah b x).elim (fun y=>y O.2) fun y=>y O.1⟩
   ·rw [upd_ne _ _ ak];exact h.hh a c ai aj ab b hb
 ·intro j K b hb;by_cases e:j=i
  ·subst e;rw [upd_same];have O:=h.sh j K b hb;exact⟨aa fun x=>Z b x O.1,aa fun x=>(ah b x).elim (fun y=>y O.2) fun y=>y O.1⟩
  ·rw [upd_ne _ _ e];exact h.sh j K b hb
 ·exact h.Dy
 ·exact h.clean
 ·exact h.low
 ·intro j K b hb x a U W;by_cases e:j=i
  ·subst e;rw [upd_same] at hb;exact h.kH j K b (Z b hb) x a U W
  ·rw [upd_ne _ _ e] at hb;exact h.kH j K b hb x a U W
 ·intro j K b hb x a U W al;by_cases e:j=i
  ·subst e;rw [upd_same] at hb;rcases ah b hb with y | y
   ·exact h.kE j K b y x a U W al
   ·exact h.kH j K b y x a U W
  ·rw [upd_ne _ _ e] at hb;exact h.kE j K b hb x a U W al
end Pal
namespace Pal
open Go Go.Conc
open Go.ConcN (sumTo upd sumTo_upd upd_ne upd_same)
abbrev St.none:St:=St.quiet
def lone(s:St):Nat→St:=fun i=>if i=0 then s else St.none
structure Em (P:Program) (gs:Array Goroutine) (w:World) (t:Trace) (q:Nat→Nat) (Sh:Nat→Prop) (g:Goroutine) (s:St):Prop where
 main:gs[0]? =some g
 lv:Leavers P t gs q
 BW:BH t w gs.size (lone s) Sh
 over:t.HandedOver
 hears:Deaf t 0=0
def Reaches(P:Program)(gs:Array Goroutine)(w:World)(sl:Option (Nat×Nat))(t:Trace)(s:St)(K:Goroutine→St→Prop):Prop:=
 ∃(n:Nat) (gs':Array Goroutine) (w':World) (U:Option (Nat×Nat)) (O:Trace) (W:Nat→Nat) (Z:Nat→Prop) (g':Goroutine) (s':St),
  runNT P n (crowd gs w sl) t=(.next (crowd gs' w' U),O)∧Em P gs' w' O W Z g' s'∧K g' s'∧Le' s s'∧w'.tape=w.tape∧w'.os=w.os∧w'.output=w.output
 where
  Le' (s s' : St) : Prop := ∀ b o, s.E b = some o → s'.E b = some o
theorem Md{s s':St}:upd (lone s) 0 s'=lone s':=by
 funext i;unfold upd lone;split <;> rfl
theorem Il{P:Program}{m m':Machine}{t ops:Trace}{k:Nat}{r:Stepped×Trace}(h:stepT P m=(.next m',ops))(K:runNT P k m' (t++ops)=r):runNT P (k+1) m t=r:=by
 simp only [runNT,h];exact K
theorem Em.at_{P:Program}{gs:Array Goroutine}{w:World}{t:Trace}{q:Nat→Nat}{Sh:Nat→Prop}{g:Goroutine}{s:St}(h:Em P gs w t q Sh g s)(d:Nat):Em P gs (w.at d) t q Sh g s:=
 ⟨h.main,h.lv,by
  have:=h.BW.mute (u:= #[]) (w':=w.at d) (g:=0) (by simp) (by simp) (by simp) rfl
  simpa using this,h.over,h.hears⟩
theorem PE{P:Program}{g:Goroutine}{s:St}{K:Goroutine→St→Prop}(ay:Gp P true g s K):
  ∀(M:Nat) (gs:Array Goroutine) (w:World) (sl:Option (Nat×Nat)) (t:Trace) (q:Nat→Nat) (Sh:Nat→Prop),sumTo gs.size q≤M→Em P gs w t q Sh g s→Reaches P gs w sl t s K:=by
 intro M
 induction M with
 | zero=>?_
 | succ M aD=>?_
 all_goals
  intro gs w sl t q Sh aT hC;have ak:=ay.1;have aE:∀x∈gs,awake x:=by
   intro x ae;obtain⟨i,hi,rfl⟩:=Array.mem_iff_getElem.1 ae;rcases Nat.eq_zero_or_pos i with rfl | al
   ·have:gs[0]=g:=by simpa [Array.getElem?_eq_getElem hi] using hC.main
    rw [this];exact awake_of (.inl ak)
   ·exact awake_of ((hC.lv.old i _ al (Array.getElem?_eq_getElem hi)).status.elim .inl fun x=> .inr (.inr x))
  obtain⟨i,x,d,ag,hi,ae,az⟩:=crowd_pick (P:=P) (w:=w) (sl:=sl) aE ⟨0,g,hC.main,ak⟩;have am:=hC.at_ d;have an:0<gs.size:=(Array.getElem?_eq_some_iff.1 hC.main).1;rcases Nat.eq_zero_or_pos i with rfl | al
  ·obtain rfl:x=g:=by rw [hC.main] at hi;exact(Option.some.inj hi).symm
   have aF:Fits s (w.at d):=am.BW.fits 0 an;obtain⟨g',s',w',es,ao,ap,aq,Z,ah⟩:=ay.2.1 (w.at d) aF;have ar:=runT_crowd_go (P:=P) (sl:=ag) (i:=0) hi (show stepG P (0==0) x (w.at d)=_ from ao);have ai:((gs.map (woken P x g' w')).setIfInBounds 0 g').size=gs.size:=by simp
   have W:∀op∈MemOp.ofEvents 0 x.frame.fn x.frame.place es,op.g=0:=fun op O=>by obtain⟨e,_,rfl⟩:=mem_ofEvents O;rfl
   have aG:deafBehind (Deaf t 0) es=Deaf t 0:=deafBehind_still (fun e he=>by
    have:=ah e he
    unfold Ev at this
    constructor <;> intro aH <;> rw [aH] at this <;> exact this) _
   refine⟨1,_,w',ag,t++MemOp.ofEvents 0 x.frame.fn x.frame.place es,q,Sh,g',s',Il (az.trans ar) rfl,⟨by simp [an],⟨fun j y U aa=>?_,fun j U=>?_⟩,?_,?_,?_⟩,ap,Z.ext,Z.tape,Z.os,Z.output⟩
   ·have au:0≠j:=by omega
    rw [Array.getElem?_setIfInBounds_ne au,Array.getElem?_map] at aa;obtain⟨z,av,rfl⟩:=Option.map_eq_some_iff.1 aa;have ab:=hC.lv.old j z U av;rw [woken_quitsD ab,Deaf_other t (by omega) _ W];exact ab
   ·rw [Deaf_other t (g':=0) (by simp at U;omega) _ W];exact hC.lv.above j (by simpa using U)
   ·rw [ai,← Md (s:=s)];exact am.BW.own an aq (by simpa [lone] using Z) (by simpa [lone] using ah)
   ·exact handedOver_app hC.over fun op O=> .inl (W op O)
   ·rw [Deaf_own,aG];exact hC.hears
  ·
   have ab:=hC.lv.old i x al hi;have aI:(i==0)=false:=by simp;omega
   have aA:i<gs.size:=(Array.getElem?_eq_some_iff.1 hi).1;cases aw:q i with
   | zero=>rw [aw] at ab;rw [ab.1] at ae;cases ae
   | succ k=>
    rw [aw] at ab;rcases ab with⟨aJ,_⟩ | ⟨_,x',es,hm,aK,aL⟩
    ·rw [aJ] at ae;cases ae
    have aU:sumTo gs.size (upd q i k)+(k+1)=sumTo gs.size q+k:=by
     have:=sumTo_upd q k id aA;simpa [aw] using this
    first
     | (exfalso;omega)
     | (
      have ar:=runT_crowd_go (P:=P) (sl:=ag) (i:=i) hi (by rw [aI];exact aK (w.at d))
      have ai:((gs.map (woken P x x' (w.at d))).setIfInBounds i x').size=gs.size:=by simp
      have W:∀op∈MemOp.ofEvents i x.frame.fn x.frame.place es,op.g=i:=fun op O=>by obtain⟨e,_,rfl⟩:=mem_ofEvents O;rfl
      have aB:∀op∈MemOp.ofEvents i x.frame.fn x.frame.place es,op.act.touch? =none:=fun op O=>by obtain⟨e,he,rfl⟩:=mem_ofEvents O;exact touch_mute (hm e he)
      have aM:Em P ((gs.map (woken P x x' (w.at d))).setIfInBounds i x') (w.at d) (t++MemOp.ofEvents i x.frame.fn x.frame.place es) (upd q i k) Sh g s:=by
       refine⟨?_,⟨fun j y U aa=>?_,fun j U=>?_⟩,?_,?_,?_⟩
       ·have au:i≠0:=by omega
        rw [Array.getElem?_setIfInBounds_ne au,Array.getElem?_map,hC.main]
        simp [woken_run ak]
       ·by_cases aj:i=j
        ·subst aj
         rw [Array.getElem?_setIfInBounds_self_of_lt (by simpa using aA)] at aa
         obtain rfl:=Option.some.inj aa
         rw [upd_same,Deaf_own]
         exact aL
        ·rw [Array.getElem?_setIfInBounds_ne aj,Array.getElem?_map] at aa
         obtain⟨z,av,rfl⟩:=Option.map_eq_some_iff.1 aa
         have aC:=hC.lv.old j z U av
         rw [woken_quitsD aC,upd_ne q k (Ne.symm aj),Deaf_other t aj _ W]
         exact aC
       ·rw [Deaf_other t (g':=i) (by simp at U;omega) _ W]
        exact hC.lv.above j (by simpa using U)
       ·rw [ai]
        exact am.BW.mute W aB (fun op O=>by obtain⟨e,he,rfl⟩:=mem_ofEvents O;exact low_mute (hm e he) _) rfl
       ·exact handedOver_app hC.over fun op O=> .inr (aB op O)
       ·rw [Deaf_other t (by omega) _ W];exact hC.hears
      obtain⟨n,gs',w',aN,aO,aP,aQ,g',s',ao,ap,aq,Z,ah,aR,aS⟩:=aD _ (w.at d) ag _ _ Sh (by rw [ai];omega) aM
      exact⟨n+1,gs',w',aN,aO,aP,aQ,g',s',Il (az.trans ar) ao,ap,aq,Z,ah,aR,aS⟩)
def CC(P:Program):Judge P where
 main:=true
 ok Q g s:=∀gs w sl t q Sh,Em P gs w t q Sh g s→Reaches P gs w sl t s Q
 stop {Q g s} h:=fun gs w sl t q Sh hC=>⟨0,gs,w,sl,t,q,Sh,g,s,rfl,hC,h,fun _ _ h=>h,rfl,rfl,rfl⟩
 step {Q g s} h:=fun gs w sl t q Sh hC=>by
  obtain⟨n,gs',w',K,O,U,W,g',s',Z,aa,ab,ae,ag,ah,ai⟩:=PE h _ gs w sl t q Sh (Nat.le_refl _) hC
  obtain⟨aj,ak,al,am,an,ao,ap,aq,ar,k1,au,av,aw,ay,az,aA⟩:=ab gs' w' K O U W aa
  refine⟨n+aj,ak,al,am,an,ao,ap,aq,ar,?_,au,av,fun b o h=>aw b o (ae b o h),ay.trans ag,az.trans ah,aA.trans ai⟩
  rw [runNT_add,Z];exact k1
 trans {Q R g s} h k:=fun gs w sl t q Sh hC=>by
  obtain⟨n,gs',w',K,O,U,W,g',s',Z,aa,ab,ae,ag,ah,ai⟩:=h gs w sl t q Sh hC
  obtain⟨aj,ak,al,am,an,ao,ap,aq,ar,k1,au,av,aw,ay,az,aA⟩:=k g' s' ab gs' w' K O U W aa
  refine⟨n+aj,ak,al,am,an,ao,ap,aq,ar,?_,au,av,fun b o h=>aw b o (ae b o h),ay.trans ag,az.trans ah,aA.trans ai⟩
  rw [runNT_add,Z];exact k1
 ghost {Q g s s₀} aB h:=fun gs w sl t q Sh hC=>by
  have aC:0<gs.size:=(Array.getElem?_eq_some_iff.1 hC.main).1
  have aD:Em P gs w t q Sh g s₀:=⟨hC.main,hC.lv,by
   rw [← Md (s:=s)];exact hC.BW.ghost aC (by simpa [lone] using aB),hC.over,hC.hears⟩
  obtain⟨n,gs',w',K,O,U,W,g',s',Z,aa,ab,ae,ag,ah,ai⟩:=h gs w sl t q Sh aD
  exact⟨n,gs',w',K,O,U,W,g',s',Z,aa,ab,fun b o h=>ae b o (aB.ext b o h),ag,ah,ai⟩
end Pal
namespace Pal
open Go Go.Conc
open Go.ConcN (upd upd_same upd_ne)
section
variable {t u:Trace}{w w':World}{N:Nat}{S:Nat→St}{Sh:Nat→Prop}
theorem BH.ext(h:BH t w N S Sh)(aa:∀said,¬Race said (t++u))(hu:∀op∈u,∀a,op.act.touch? =some a→∀b,Cx a.loc=some b→Sh b)
  (ab:∀op∈u,op.act.low w.heap.size) (hs:w'.heap.size=w.heap.size) (hw:∀b,¬Sh b→w'.heap[b]? =w.heap[b]?):BH (t++u) w' N S Sh:=by
 have hold:∀x a b,touchAt (t++u) x=some a→Cx a.loc=some b→¬Sh b→touchAt t x=some a:=by
  intro x a b U hb O;obtain⟨op,K,Z⟩:=touch_of U;rcases getElem?_append_cases K with⟨aj,ae⟩ | ⟨_,ag⟩
  ·rw [touchAt_of ae];exact Z
  ·exact absurd (hu op ag a Z b hb) O
 have O:∀i,i<N→∀b,((S i).H b≠none∨(S i).E b≠none)→¬Sh b:=by
  intro i hi b hb ah;have:=h.sh i hi b ah;exact hb.elim (fun x=>x this.1) (fun x=>x this.2)
 refine⟨fun i hi=>⟨fun b o K=>?_,fun b o K=>?_,(h.fits i hi).d⟩,h.hh,h.sh,fun b hb=>by rw [hs];exact h.Dy b hb,aa,fun op K=>?_,fun i hi b hb x a U W=>?_,fun i hi b hb x a U W ai=>?_⟩
 ·rw [hw b (O i hi b (.inr (by rw [K];simp)))];exact(h.fits i hi).e b o K
 ·rw [hw b (O i hi b (.inl (by rw [K];simp)))];exact(h.fits i hi).h b o K
 ·rcases Array.mem_append.1 K with K | K
  ·rw [hs];exact h.low op K
  ·rw [hs];exact ab op K
 ·exact(h.kH i hi b hb x a (hold x a b U W (O i hi b (.inl hb))) W).app _
 ·exact(h.kE i hi b hb x a (hold x a b U W (O i hi b (.inr hb))) W ai).app _
theorem BH.congr{S':Nat→St}(h:BH t w N S Sh)(K:∀i,i<N→(S' i).E=(S i).E∧(S' i).H=(S i).H):BH t w N S' Sh:=by
 refine⟨fun i hi=>⟨by rw [(K i hi).1];exact(h.fits i hi).e,by rw [(K i hi).2];exact(h.fits i hi).h,by rw [(K i hi).1,(K i hi).2];exact(h.fits i hi).d⟩,fun i j hi O U b=>?_,fun i hi b=>?_,h.Dy,h.clean,h.low,fun i hi b=>?_,fun i hi b=>?_⟩
 ·rw [(K i hi).2,(K j O).1,(K j O).2];exact h.hh i j hi O U b
 ·rw [(K i hi).1,(K i hi).2];exact h.sh i hi b
 ·rw [(K i hi).2];exact h.kH i hi b
 ·rw [(K i hi).1];exact h.kE i hi b
theorem BH.less(h:BH t w N S Sh){i:Nat}{s':St}(ah:∀b o,s'.E b=some o→(S i).E b=some o)(ai:∀b o,s'.H b=some o→(S i).H b=some o):BH t w N (upd S i s') Sh:=by
 have Z:∀j b o,(upd S i s' j).E b=some o→(S j).E b=some o:=by
  intro j b o K;by_cases e:j=i
  ·subst e;rw [upd_same] at K;exact ah b o K
  ·rwa [upd_ne _ _ e] at K
 have aa:∀j b o,(upd S i s' j).H b=some o→(S j).H b=some o:=by
  intro j b o K;by_cases e:j=i
  ·subst e;rw [upd_same] at K;exact ai b o K
  ·rwa [upd_ne _ _ e] at K
 have n1:∀j b,(S j).E b=none→(upd S i s' j).E b=none:=by
  intro j b hb;cases W:(upd S i s' j).E b with
  | none=>rfl
  | some o=>rw [Z j b o W] at hb;cases hb
 have U:∀j b,(S j).H b=none→(upd S i s' j).H b=none:=by
  intro j b hb;cases W:(upd S i s' j).H b with
  | none=>rfl
  | some o=>rw [aa j b o W] at hb;cases hb
 have p1:∀j b,(upd S i s' j).E b≠none→(S j).E b≠none:=fun j b hb x=>hb (n1 j b x);have p2:∀j b,(upd S i s' j).H b≠none→(S j).H b≠none:=fun j b hb x=>hb (U j b x);exact⟨fun j O=>⟨fun b o K=>(h.fits j O).e b o (Z j b o K),fun b o K=>(h.fits j O).h b o (aa j b o K),fun b hb=>U j b ((h.fits j O).d b (p1 j b hb))⟩,
  fun a c ab ae ag b hb=>⟨U c b (h.hh a c ab ae ag b (p2 a b hb)).1,n1 c b (h.hh a c ab ae ag b (p2 a b hb)).2⟩,
  fun j O b hb=>⟨U j b (h.sh j O b hb).1,n1 j b (h.sh j O b hb).2⟩,h.Dy,h.clean,h.low,
  fun j O b hb=>h.kH j O b (p2 j b hb),fun j O b hb=>h.kE j O b (p1 j b hb)⟩
theorem BH.grow(h:BH t w N S Sh){i:Nat}(hi:i<N){E':LH}{q:Bool}
  (ab:∀b o,E' b=some o→(S i).E b=some o∨∃j,j<N∧(S j).E b=some o∧∀x a,touchAt t x=some a→Cx a.loc=some b→a.write=true→Knows t i x):
  BH t w N (upd S i ⟨E',(S i).H,q⟩) Sh:=by
 have ai:∀{b},E' b≠none→∃j,j<N∧∃o,(S j).E b=some o:=by
  intro b hb;obtain⟨o,W⟩:=EW hb;rcases ab b o W with x | ⟨j,K,x,_⟩
  ·exact⟨i,hi,o,x⟩
  ·exact⟨j,K,o,x⟩
 have aj:∀a,a<N→∀b,(S a).H b≠none→E' b=none:=by
  intro a U b hb;cases O:E' b with
  | none=>rfl
  | some o=>
   obtain⟨j,K,o',Z⟩:=ai (b:=b) (by rw [O];simp);by_cases e:a=j
   ·subst e;have:=(h.fits a U).d b (by rw [Z];simp);exact absurd this hb
   ·have:=(h.hh a j U K e b hb).2;rw [Z] at this;cases this
 constructor
 ·intro j K;by_cases e:j=i
  ·subst e;rw [upd_same];refine⟨fun b o W=>?_,(h.fits j K).h,fun b hb=>?_⟩
   ·rcases ab b o W with x | ⟨k,aa,x,_⟩
    ·exact(h.fits j K).e b o x
    ·exact(h.fits k aa).e b o x
   ·cases O:(S j).H b with
    | none=>rfl
    | some o=>exact absurd (aj j K b (by rw [O];simp)) hb
  ·rw [upd_ne _ _ e];exact h.fits j K
 ·intro a c U ak al b hb;have ae:(S a).H b≠none:=by
   by_cases e:a=i
   ·subst e;rwa [upd_same] at hb
   ·rwa [upd_ne _ _ e] at hb
  by_cases e:c=i
  ·subst e;rw [upd_same];exact⟨(h.hh a c U ak al b ae).1,aj a U b ae⟩
  ·rw [upd_ne _ _ e];exact h.hh a c U ak al b ae
 ·intro j K b hb;by_cases e:j=i
  ·subst e;rw [upd_same];refine⟨(h.sh j K b hb).1,?_⟩;cases O:E' b with
   | none=>exact O
   | some o=>
    obtain⟨k,aa,o',Z⟩:=ai (b:=b) (by rw [O];simp);rw [(h.sh k aa b hb).2] at Z;cases Z
  ·rw [upd_ne _ _ e];exact h.sh j K b hb
 ·exact h.Dy
 ·exact h.clean
 ·exact h.low
 ·intro j K b hb;by_cases e:j=i
  ·subst e;rw [upd_same] at hb;exact h.kH j K b hb
  ·rw [upd_ne _ _ e] at hb;exact h.kH j K b hb
 ·intro j K b hb x a O ag ah;by_cases e:j=i
  ·subst e;rw [upd_same] at hb;obtain⟨o,W⟩:=EW hb;rcases ab b o W with y | ⟨k,aa,y,am⟩
   ·exact h.kE j K b (by rw [y];simp) x a O ag ah
   ·exact am x a O ag ah
  ·rw [upd_ne _ _ e] at hb;exact h.kE j K b hb x a O ag ah
theorem BH.push(h:BH t w N S Sh){i:Nat}(hi:i<N){E:LH}(aa:∀b o,E b=some o→(S i).E b=some o)
  (ag:∀b,E b≠none→∀x a,touchAt t x=some a→Cx a.loc=some b→a.write=true→Knows t N x):BH t w (N+1) (upd S N ⟨E,fun _=>none,false⟩) Sh:=by
 have O:∀j,j<N→upd S N ⟨E,fun _=>none,false⟩ j=S j:=fun j K=>upd_ne _ _ (by omega);have ai:∀b,E b≠none→(S i).E b≠none:=fun b hb=>by obtain⟨o,W⟩:=EW hb;rw [aa b o W];simp
 have ae:∀b,(S i).E b=none→E b=none:=fun b hb=>by
  cases ab:E b with
  | none=>rfl
  | some o=>rw [aa b o ab] at hb;cases hb
 have cs:∀j,j<N+1→j<N∨j=N:=fun j K=>by omega
 constructor
 ·intro j K;rcases cs j K with K | rfl
  ·rw [O j K];exact h.fits j K
  ·rw [upd_same];exact⟨fun b o W=>(h.fits i hi).e b o (aa b o W),fun b o W=>(by cases W),fun b _=>rfl⟩
 ·intro a c U Z ah b hb;rcases cs a U with U | rfl
  ·rw [O a U] at hb;rcases cs c Z with Z | rfl
   ·rw [O c Z];exact h.hh a c U Z ah b hb
   ·rw [upd_same];refine⟨rfl,ae b ?_⟩;by_cases e:a=i
    ·subst e;cases ab:(S a).E b with
     | none=>rfl
     | some o=>exact absurd ((h.fits a U).d b (by rw [ab];simp)) hb
    ·exact(h.hh a i U hi e b hb).2
  ·rw [upd_same] at hb;exact absurd rfl hb
 ·intro j K b hb;rcases cs j K with K | rfl
  ·rw [O j K];exact h.sh j K b hb
  ·rw [upd_same];exact⟨rfl,ae b (h.sh i hi b hb).2⟩
 ·exact h.Dy
 ·exact h.clean
 ·exact h.low
 ·intro j K b hb;rcases cs j K with K | rfl
  ·rw [O j K] at hb;exact h.kH j K b hb
  ·rw [upd_same] at hb;exact absurd rfl hb
 ·intro j K b hb;rcases cs j K with K | rfl
  ·rw [O j K] at hb;exact h.kE j K b hb
  ·rw [upd_same] at hb;exact ag b hb
theorem BH.share(h:BH t w N S Sh){i:Nat}(hi:i<N){b₀:Nat}{o₀:Obj}(U:(S i).H b₀=some o₀):
  BH t w N (upd S i {S i with H:=fun b=>if b=b₀ then none else(S i).H b}) (fun b=>Sh b∨b=b₀):=by
 have K:BH t w N (upd S i {S i with H:=fun b=>if b=b₀ then none else(S i).H b}) Sh:=
  h.less (fun b o O=>O) (fun b o O=>by simp only at O;split at O <;> first | (cases O;done) | exact O)
 have aa:b₀<w.heap.size:=by
  have:=(h.fits i hi).h b₀ o₀ U;rcases Nat.lt_or_ge b₀ w.heap.size with W | W
  ·exact W
  ·simp [Array.getElem?_eq_none W] at this
 refine⟨K.fits,K.hh,fun j Z b hb=>?_,fun b hb=>hb.elim (K.Dy b) (fun e=>e▸aa),K.clean,K.low,K.kH,K.kE⟩;rcases hb with hb | rfl
 ·exact K.sh j Z b hb
 ·by_cases e:j=i
  ·subst e;rw [upd_same];refine⟨by simp,?_⟩;cases ab:(S j).E b with
   | none=>rfl
   | some o=>have:=(h.fits j Z).d b (by rw [ab];simp);rw [U] at this;cases this
  ·rw [upd_ne _ _ e];exact h.hh i j hi Z (Ne.symm e) b (by rw [U];simp)
end
end Pal
namespace Pal
open Go Go.Conc
open Go.ConcN (upd upd_same upd_ne sumTo sumTo_upd)
abbrev GP:=Goroutine→St→Prop
inductive Ph where
 | BN (k:Nat) | Ej | FI | EM | Eh | Ex | C5
 | B9 | DN (m:Nat) | EN (v:Nat) | ES | Cp | Ew | DD | EA | Cw
 | Dx (j:Nat) | Fj (j:Nat) | Ey (j:Nat) | D7 (j:Nat) | Dp (j:Nat) | DT | BF (K:List Nat) (vs:List Value)
 | B6 | Fu | Fq | ET (j:Nat)
inductive Nx where
 | ph (p:Ph) | gone (d:Nat)
structure Fam where
 wg:Nat
 ch:Nat
 ty:TypeId
 n:Nat
 has:Nat→Bool
 msg:Nat→Value→LH→Prop
 fin:GP
namespace Fam
variable (F:Fam)
def KK:Int:=4294967296
def EB(st sm:Int):Obj:= .cells #[.int .u64 st,.int .u32 sm] F.ty (0,0)
def word(v wt:Nat):Int:=(v:Int)*KK+wt
def WG(w:World)(v wt sm:Nat):Prop:=w.heap[F.wg]? =some (F.EB (word v wt) sm)
def put(w:World)(v wt sm:Nat):World:={w with heap:=w.heap.setIfInBounds F.wg (F.EB (word v wt) sm)}
def sA:Addr:=⟨F.wg,0,none⟩
def mA:Addr:=⟨F.wg,1,none⟩
def Dq(a:Addr):Event:=⟨.cell a,false,true⟩
def Gc(a:Addr):Event:=⟨.cell a,true,true⟩
def CX(m:Mark):Event:=⟨.mark m,false,true⟩
def ChanAt(w:World)(closed:Bool)(k:Nat):Prop:=w.heap[F.ch]? =some (.chan 0 #[] closed k k false)
def act:Ph→Nat→Nat→Nat→Option ((Nat×Nat×Nat)×Array Event×Nx)
 | .Ej,v,wt,sm=>some ((v,wt,sm),#[CX (.releaseMerge F.sA)],.ph .FI)
 | .FI,v,wt,sm=>some ((v,wt,sm),#[CX .disable],.ph .EM)
 | .EM,v,wt,sm=>if 1≤v∧v<2147483648∧wt≤1 then some ((v - 1,wt,sm),#[Dq F.sA,Gc F.sA],if v=1∧wt=1 then .ph .Eh else .gone 1) else none
 | .Eh,v,wt,sm=>if v=0∧wt=1 then some ((0,1,sm),#[Dq F.sA],.ph .Ex) else none
 | .Ex,v,wt,sm=>if v=0∧wt=1 then some ((0,0,sm),#[Gc F.sA],.ph .C5) else none
 | .C5,v,wt,sm=>if sm=0 then some ((v,wt,1),semEvents F.mA,.gone 1) else none
 | .B9,v,wt,sm=>some ((v,wt,sm),#[CX .disable],.ph (.DN F.n))
 | .DN m,v,wt,sm=>if v≤m∧wt=0 then some ((v,0,sm),#[Dq F.sA],if v=0 then .ph .DD else .ph (.EN v)) else none
 | .EN m,v,wt,sm=>if v≤m∧1≤m∧wt=0 then some (if v=m then((v,1,sm),#[Dq F.sA,Gc F.sA],.ph .Fu) else((v,0,sm),#[Dq F.sA],.ph (.DN (m - 1)))) else none
 | .ES,v,wt,sm=>some ((v,wt,sm),#[CX (.write F.mA)],.ph .Cp)
 | .Cp,v,wt,sm=>if sm=1 then some ((v,wt,0),semEvents F.mA,.ph .Ew) else none
 | .Ew,v,wt,sm=>if v=0∧wt=0 then some ((0,0,sm),#[Dq F.sA],.ph .DD) else none
 | .DD,v,wt,sm=>some ((v,wt,sm),#[CX .enable],.ph .Fq)
 | .B6,v,wt,sm=>some ((v,wt,sm),#[],.ph .Ej)
 | .Fu,v,wt,sm=>some ((v,wt,sm),#[],.ph .ES)
 | .Fq,v,wt,sm=>some ((v,wt,sm),#[],.ph .EA)
 | .ET j,v,wt,sm=>some ((v,wt,sm),#[],.ph (.Ey j))
 | .EA,v,wt,sm=>some ((v,wt,sm),#[CX (.acquire F.sA)],.ph .Cw)
 | .Dx j,v,wt,sm=>some ((v,wt,sm),#[CX .disable],.ph (.Fj j))
 | .Fj j,v,wt,sm=>if v<2147483647∧wt=0 then some ((v+1,0,sm),#[Dq F.sA,Gc F.sA],if v=0 then .ph (.ET j) else .ph (.D7 j)) else none
 | .Ey j,v,wt,sm=>some ((v,wt,sm),#[CX (.read F.mA)],.ph (.D7 j))
 | .D7 j,v,wt,sm=>some ((v,wt,sm),#[CX .enable],.ph (.Dp j))
 | _,_,_,_=>none
def Cr:Ph→Bool
 | .Dx _ | .Fj _ | .Ey _ | .D7 _ | .Dp _ | .DT | .BF _ _ | .ET _=>true
 | _=>false
def CI:Ph→Bool
 | .FI | .EM | .Eh | .Ex | .C5=>true
 | _=>false
def ED:Ph→St→St
 | .Ej,_=> .quiet
 | _,s=>s
def start(k:Nat):Ph:=if F.has k then .BN k else .B6
def Cy(j:Nat):Ph:=if j+1=F.n then .DT else .Dx (j+1)
end Fam
def Way(P:Program)(main:Bool)(X:GP):GP:=(A4 P main).ok X
theorem Jr.mono{P:Program}{main:Bool}{Q K:GP}(h:∀g s,Q g s→K g s):∀{r:Rk} {g:Goroutine} {s:St},Jr P main Q r g s→Jr P main K r g s
 | .leaf,_,_,x=>h _ _ x
 | .node _,_,_,.inl x=> .inl (h _ _ x)
 | .node _,_,_,.inr ⟨O,x⟩=> .inr ⟨O,fun w f=>let ⟨g',s',w',es,U,W,Z⟩:=x w f;⟨g',s',w',es,U,Jr.mono h W,Z⟩⟩
theorem Way.mono{P:Program}{main:Bool}{Q K:GP}(h:∀g s,Q g s→K g s){g:Goroutine}{s:St}(x:Way P main Q g s):Way P main K g s:=
 let ⟨r,O⟩:=x;⟨r,Jr.mono (fun g s ⟨s₀,a,b⟩=>⟨s₀,a,h g s₀ b⟩) O⟩
section
variable (P:Program)(F:Fam)
def H8(X:Ph→GP)(main:Bool):Nx→GP
 | .ph p,g,s=>Way P main (X p) g s
 | .gone d,g,_=>∃q,QuitsD P q d g
structure DV (X:Ph→GP) (p:Ph) (g:Goroutine) (s:St):Prop where
 run:g.status= .running
 offers:g.offers=none
 quiet:Fam.CI p=true→s= .quiet
 live:Fam.CI p=false→s.q=false
 act:∀v wt sm v' wt' sm' es nx,F.act p v wt sm=some ((v',wt',sm'),es,nx)→
  ∃g',(∀w,F.WG w v wt sm→stepG P (Fam.Cr p) g w= .go g' (F.put w v' wt' sm') es)∧g'.status= .running∧H8 P X (Fam.Cr p) nx g' (Fam.ED p s)
 EL:p= .C5∨p= .Cw→mayWake P g=true
 C8:p= .Cp→∀w v wt,F.WG w v wt 0→stepG P false g w= .go {g with status:= .blocked} w #[]
 close:p= .Cw→∃g',g'.status= .running∧(∀w k,F.ChanAt w false k→stepG P false g w= .go g' (w.setChan F.ch 0 #[] true k k false) (closeEvents F.ch))∧∃q,QuitsD P q 0 g'
 send:∀k,p= .BN k→∃v z,F.msg k v s.E∧(∀w,stepG P false g w= .comm g #[scase F.ch v z] true .send w #[])∧Way P false (X .B6) (served g undef) s
 go:∀j,p= .Dp j→∃g' child,g'.status= .running∧child.status= .running∧(∀w,stepG P true g w= .spawn g' child w #[])∧Way P false (X (F.start j)) child ⟨s.E,fun _=>none,false⟩∧Way P true (X (F.Cy j)) g' s
 EC:p= .DT→∃g' child,g'.status= .running∧child.status= .running∧(∀w,stepG P true g w= .spawn g' child w #[])∧Way P false (X .B9) child ⟨s.E,fun _=>none,false⟩∧Way P true (X (.BF [] [])) g' s
 recv:∀K vs,p= .BF K vs→∃z,(∀w,stepG P true g w= .comm g #[rcase F.ch z] true (.recv true) w #[])∧
  (∀k v E',k<F.n→F.has k=true→k ∉ K→Le s.E E'→(∀b,E' b≠none→s.H b=none)→F.msg k v E'→Way P true (X (.BF (K++ [k]) (vs++ [v]))) (served g (.tuple #[v,.bool true])) ⟨E',s.H,false⟩)∧
  ((∀k,k<F.n→F.has k=true→k∈K)→F.fin (served g (.tuple #[z,.bool false])) s)
theorem H8.mono{X K:Ph→GP}(h:∀p g s,X p g s→K p g s){main:Bool}{nx:Nx}{g:Goroutine}{s:St}(x:H8 P X main nx g s):H8 P K main nx g s:=by
 cases nx with
 | ph p=>exact Way.mono (h p) x
 | gone d=>exact x
theorem DV.mono{X aa:Ph→GP}(h:∀p g s,X p g s→aa p g s){p:Ph}{g:Goroutine}{s:St}(x:DV P F X p g s):DV P F aa p g s where
 run:=x.run
 offers:=x.offers
 quiet:=x.quiet
 live:=x.live
 act v wt sm v' wt' sm' es nx e:=let ⟨g',K,O,U⟩:=x.act v wt sm v' wt' sm' es nx e;⟨g',K,O,U.mono P h⟩
 EL:=x.EL
 C8:=x.C8
 close:=x.close
 send k e:=let ⟨v,z,K,O,U⟩:=x.send k e;⟨v,z,K,O,U.mono (h _)⟩
 go j e:=let ⟨g',c,K,O,U,W,Z⟩:=x.go j e;⟨g',c,K,O,U,W.mono (h _),Z.mono (h _)⟩
 EC e:=let ⟨g',c,K,O,U,W,Z⟩:=x.EC e;⟨g',c,K,O,U,W.mono (h _),Z.mono (h _)⟩
 recv ab vs e:=let ⟨z,K,O,U⟩:=x.recv ab vs e;⟨z,K,fun k v E' a b c d e f=>(O k v E' a b c d e f).mono (h _),U⟩
def Stop(p:Ph)(g:Goroutine)(s:St):Prop:=∃X:Ph→GP,(∀p g s,X p g s→DV P F X p g s)∧X p g s
variable {P F}
theorem Stop.law{p:Ph}{g:Goroutine}{s:St}(h:Stop P F p g s):DV P F (Stop P F) p g s:=by
 obtain⟨X,O,K⟩:=h;exact(O p g s K).mono P F fun p g s K=>⟨X,O,K⟩
theorem DV.stop{p:Ph}{g:Goroutine}{s:St}(h:DV P F (Stop P F) p g s):Stop P F p g s:=
 ⟨fun p g s=>DV P F (Stop P F) p g s,fun _ _ _ x=>x.mono P F fun _ _ _ y=>y.law,h⟩
end
end Pal
namespace Pal
open Go Go.Conc
open Go.ConcN (upd upd_same upd_ne sumTo sumTo_upd sumTo_upd_out sumTo_congr le_sumTo sumTo_le)
def cU:Nx→Nat
 | .ph (.BN _) | .ph .B6 | .ph .Ej | .ph .FI | .ph .EM=>1
 | _=>0
def cL:Nx→Nat
 | .ph .Eh | .ph .Ex=>1
 | _=>0
def cS:Nx→Nat
 | .ph .C5=>1
 | _=>0
def pend:Nx→Nat
 | .ph (.ET _) | .ph (.Ey _) | .ph (.D7 _) | .ph (.Dp _)=>1
 | _=>0
def got:Nx→List Nat
 | .ph (.BF K _)=>K
 | _=> []
def Dk:Nx→Prop
 | .gone _=>True
 | _=>False
def Fb(n j:Nat)(c:Bool):Ph→Prop
 | .Dx K | .Fj K | .ET K | .Ey K | .D7 K | .Dp K=>K=j∧j<n∧c=false
 | .DT=>j=n∧c=false
 | .BF _ _=>j=n∧c=true
 | _=>False
def FE(F:Fam)(k:Nat):Nx→Prop
 | .gone _=>True
 | .ph (.BN k')=>k'=k∧F.has k=true
 | .ph .B6 | .ph .Ej | .ph .FI | .ph .EM | .ph .Eh | .ph .Ex | .ph .C5=>True
 | _=>False
def Fi:Nx→Prop
 | .gone _=>True
 | .ph .B9 | .ph (.DN _) | .ph (.EN _) | .ph .Fu | .ph .ES | .ph .Cp | .ph .Ew | .ph .DD | .ph .Fq | .ph .EA | .ph .Cw=>True
 | _=>False
def BZ(x:Nx)(v wt sm L S:Nat)(cl:Bool):Prop:=
 match x with
 | .ph .B9=>L=0∧S=0∧sm=0∧wt=0∧cl=false
 | .ph (.DN m)=>L=0∧S=0∧sm=0∧wt=0∧cl=false∧v≤m
 | .ph (.EN m)=>L=0∧S=0∧sm=0∧wt=0∧cl=false∧v≤m∧1≤m
 | .ph .Fu | .ph .ES | .ph .Cp=>L+S+sm+min v 1=1∧wt=L+min v 1∧cl=false
 | .ph .Ew | .ph .DD | .ph .Fq | .ph .EA | .ph .Cw=>L=0∧S=0∧sm=0∧wt=0∧v=0∧cl=false
 | .gone _=>L=0∧S=0∧sm=0∧wt=0∧v=0∧cl=true
 | _=>False
structure BE (F:Fam) (N0 N j:Nat) (c:Bool) (φ:Nat→Nx) (v wt sm:Nat) (cl:Bool):Prop where
 pos:0<N0
 n1:1≤F.n
 F9:F.n<2147483647
 size:N=N0+j+c.toNat
 jn:j≤F.n
 cj:c=true→j=F.n
 main:∃p,φ 0= .ph p∧Fb F.n j c p
 old:∀i,0<i→i<N0→Dk (φ i)
 work:∀k,k<j→FE F k (φ (N0+k))
 cls:c=true→Fi (φ (N0+F.n))
 cnt:v=sumTo N (fun i=>cU (φ i))+pend (φ 0)
 FN:v≤j+pend (φ 0)
 mode:BZ (if c=true then φ (N0+F.n) else .ph .B9) v wt sm (sumTo N fun i=>cL (φ i)) (sumTo N fun i=>cS (φ i)) cl
 ER:∀k,k<j→F.has k=true→(φ (N0+k)= .ph (.BN k)↔k ∉ got (φ 0))
 nd:(got (φ 0)).Nodup
 sub:∀k∈got (φ 0),k<j∧F.has k=true
section
variable {F:Fam}{N0 N j:Nat}{c:Bool}{φ:Nat→Nx}{v wt sm v' wt' sm':Nat}{cl cl':Bool}
theorem BE.DF(h:BE F N0 N j c φ v wt sm cl){i:Nat}(hi:i<N):i=0∨(0<i∧i<N0)∨(∃k,k<j∧i=N0+k)∨(c=true∧i=N0+F.n):=by
 have:=h.size;rcases Nat.eq_zero_or_pos i with K | K
 ·exact .inl K
 rcases Nat.lt_or_ge i N0 with U | U
 ·exact .inr (.inl ⟨K,U⟩)
 rcases Nat.lt_or_ge i (N0+j) with W | W
 ·exact .inr (.inr (.inl ⟨i - N0,by omega,by omega⟩))
 ·cases O:c with
  | false=>rw [O] at this;simp at this;omega
  | true=>have e:=h.cj O;rw [O] at this;simp at this;exact .inr (.inr (.inr ⟨rfl,by omega⟩))
theorem BE.Oh(h:BE F N0 N j c φ v wt sm cl):v≤F.n:=by
 have K:=h.FN;obtain⟨p,O,hm⟩:=h.main;have:=h.jn;rw [O] at K;cases p <;> simp [Fb] at hm <;> simp [pend] at K <;> omega
theorem BE.FJ(h:BE F N0 N j c φ v wt sm cl){k:Nat}(ae:k<j){x:Nx}(ag:FE F k x)(hs:∀k',φ (N0+k)≠ .ph (.BN k'))(ah:∀k',x≠ .ph (.BN k'))
  (aq:v'+cU (φ (N0+k))=v+cU x)
  (hm:∀L S,L+cL (φ (N0+k))=(sumTo N fun i=>cL (φ i))+cL x→S+cS (φ (N0+k))=(sumTo N fun i=>cS (φ i))+cS x→BZ (if c=true then φ (N0+F.n) else .ph .B9) v' wt' sm' L S cl'):
  BE F N0 N j c (upd φ (N0+k) x) v' wt' sm' cl':=by
 have ar:=h.size;have au:=h.jn;have av:=h.pos;have W:N0+k<N:=by omega
 have K:upd φ (N0+k) x 0=φ 0:=upd_ne _ _ (by omega);have ai:(if c=true then upd φ (N0+k) x (N0+F.n) else .ph .B9)=(if c=true then φ (N0+F.n) else .ph .B9):=by
  cases O:c with
  | false=>rfl
  | true=>have:=h.cj O;simp only [if_true];exact upd_ne _ _ (by omega)
 have s1:=sumTo_upd φ x cU W;have s2:=sumTo_upd φ x cL W;have aj:=sumTo_upd φ x cS W;have aw:=h.cnt;have ay:=h.FN;refine⟨h.pos,h.n1,h.F9,h.size,h.jn,h.cj,by rw [K];exact h.main,fun i ak al=>by rw [upd_ne _ _ (by omega)];exact h.old i ak al,fun k' U=>?_,fun O=>?_,by rw [K];omega,?_,?_,fun k' U hh=>?_,by rw [K];exact h.nd,by rw [K];exact h.sub⟩
 ·by_cases e:k'=k
  ·subst e;rw [upd_same];exact ag
  ·rw [upd_ne _ _ (by omega)];exact h.work k' U
 ·have:=h.cj O;rw [upd_ne _ _ (by omega)];exact h.cls O
 ·rw [K];have:cU x≤1:=by cases x with
   | gone d=>simp [cU]
   | ph p=>cases p <;> simp [cU]
  have hw:=h.work k ae;have key:cU x≤cU (φ (N0+k))∨cU (φ (N0+k))<cU x:=by omega
  rcases key with hle | az
  ·omega
  ·
   have:(sumTo N fun a=>cU (upd φ (N0+k) x a))≤j:=by
    have hb:∀M,M≤N→(sumTo M fun a=>cU (upd φ (N0+k) x a))≤min (M - N0) j:=by
     intro M
     induction M with
     | zero=>intro _;simp [sumTo]
     | succ M am=>
      intro aA;have:=am (by omega);simp only [sumTo];have aB:cU (upd φ (N0+k) x M)≤1:=by
       generalize upd φ (N0+k) x M=y;cases y with
       | gone d=>simp [cU]
       | ph p=>cases p <;> simp [cU]
      have aa:(M<N0∨N0+j≤M)→cU (upd φ (N0+k) x M)=0:=by
       intro aC;rw [upd_ne _ _ (by omega)];rcases h.DF (i:=M) (by omega) with rfl | ⟨a,b⟩ | ⟨k',a,rfl⟩ | ⟨a,rfl⟩
       ·obtain⟨p,an,hm⟩:=h.main;rw [an];cases p <;> simp [Fb] at hm <;> rfl
       ·have:=h.old M a b;cases Z:φ M with
        | gone d=>rfl
        | ph p=>rw [Z] at this;exact this.elim
       ·omega
       ·have:=h.cls a;cases Z:φ (N0+F.n) with
        | gone d=>rfl
        | ph p=>rw [Z] at this;cases p <;> simp [Fi] at this <;> rfl
      rcases Nat.lt_or_ge M N0 with q | q
      ·rw [aa (.inl q)];omega
      ·rcases Nat.lt_or_ge M (N0+j) with ab | ab
       ·omega
       ·rw [aa (.inr ab)];omega
    have:=hb N (Nat.le_refl _);omega
   omega
 ·rw [ai];exact hm _ _ s2 aj
 ·rw [K];by_cases e:k'=k
  ·subst e;rw [upd_same];have:=h.ER k' U hh;constructor
   ·intro ao;exact absurd ao (ah k')
   ·intro ap;exact absurd (this.2 ap) (hs k')
  ·rw [upd_ne _ _ (by omega)];exact h.ER k' U hh
theorem BE.D6(h:BE F N0 N j c φ v wt sm cl)(O:c=true){x:Nx}(Z:Fi x)
  (hm:BZ x v wt' sm' (sumTo N fun i=>cL (φ i)) (sumTo N fun i=>cS (φ i)) cl'):
  BE F N0 N j c (upd φ (N0+F.n) x) v wt' sm' cl':=by
 have aa:=h.size;have aj:=h.pos;have ak:=h.cj O;have U:N0+F.n<N:=by rw [O] at aa;simp at aa;omega
 have K:upd φ (N0+F.n) x 0=φ 0:=upd_ne _ _ (by omega);have z:∀y,Fi y→cU y=0∧cL y=0∧cS y=0:=by
  intro y ab;cases y with
  | gone d=>exact⟨rfl,rfl,rfl⟩
  | ph p=>cases p <;> simp [Fi] at ab <;> exact⟨rfl,rfl,rfl⟩
 have z1:=z _ (h.cls O);have al:=z x Z;have s1:=sumTo_upd φ x cU U;have s2:=sumTo_upd φ x cL U;have am:=sumTo_upd φ x cS U;have an:=h.cnt;refine⟨h.pos,h.n1,h.F9,h.size,h.jn,h.cj,by rw [K];exact h.main,fun i ae ag=>by rw [upd_ne _ _ (by omega)];exact h.old i ae ag,fun k' W=>?_,fun O=>?_,by rw [K];omega,by rw [K];exact h.FN,?_,fun k' W hh=>?_,by rw [K];exact h.nd,by rw [K];exact h.sub⟩
 ·rw [upd_ne _ _ (by omega)];exact h.work k' W
 ·rw [upd_same];exact Z
 ·rw [if_pos O,upd_same];have ah:(sumTo N fun i=>cL (upd φ (N0+F.n) x i))=sumTo N fun i=>cL (φ i):=by omega
  have ai:(sumTo N fun i=>cS (upd φ (N0+F.n) x i))=sumTo N fun i=>cS (φ i):=by omega
  rw [ah,ai];exact hm
 ·rw [K,upd_ne _ _ (by omega)];exact h.ER k' W hh
theorem LR{n j:Nat}{c:Bool}{p:Ph}(h:Fb n j c p):cU (.ph p)=0∧cL (.ph p)=0∧cS (.ph p)=0:=by
 cases p <;> simp [Fb] at h <;> exact⟨rfl,rfl,rfl⟩
theorem BE.Hb(h:BE F N0 N j c φ v wt sm cl){p:Ph}(W:Fb F.n j c p)(K:got (.ph p)=got (φ 0))(al:v'+pend (φ 0)=v+pend (.ph p))(Z:v'≤j+pend (.ph p))
  (hm:BZ (if c=true then φ (N0+F.n) else .ph .B9) v' wt' sm' (sumTo N fun i=>cL (φ i)) (sumTo N fun i=>cS (φ i)) cl'):
  BE F N0 N j c (upd φ 0 (.ph p)) v' wt' sm' cl':=by
 have am:=h.size;have an:=h.pos;have O:0<N:=by omega
 obtain⟨ao,aa,ab⟩:=h.main;have z1:=LR ab;have ap:=LR W;rw [← aa] at z1;have s1:=sumTo_upd φ (.ph p) cU O;have s2:=sumTo_upd φ (.ph p) cL O;have aq:=sumTo_upd φ (.ph p) cS O;have ar:=h.cnt;have ae:(if c=true then upd φ 0 (.ph p) (N0+F.n) else .ph .B9)=(if c=true then φ (N0+F.n) else .ph .B9):=by rw [upd_ne _ _ (by omega)]
 refine⟨h.pos,h.n1,h.F9,h.size,h.jn,h.cj,⟨p,upd_same _ _ _,W⟩,fun i ag ah=>by rw [upd_ne _ _ (by omega)];exact h.old i ag ah,fun k' U=>by rw [upd_ne _ _ (by omega)];exact h.work k' U,fun ai=>by rw [upd_ne _ _ (by omega)];exact h.cls ai,by rw [upd_same];omega,by rw [upd_same];exact Z,?_,fun k' U hh=>?_,by rw [upd_same,K];exact h.nd,by rw [upd_same,K];exact h.sub⟩
 ·rw [ae];have aj:(sumTo N fun i=>cL (upd φ 0 (.ph p) i))=sumTo N fun i=>cL (φ i):=by omega
  have ak:(sumTo N fun i=>cS (upd φ 0 (.ph p) i))=sumTo N fun i=>cS (φ i):=by omega
  rw [aj,ak];exact hm
 ·rw [upd_same,K,upd_ne _ _ (by omega)];exact h.ER k' U hh
theorem BE.act(h:BE F N0 N j c φ v wt sm cl){i:Nat}(hi:i<N){p:Ph}(U:φ i= .ph p){es:Array Event}{nx:Nx}(K:F.act p v wt sm=some ((v',wt',sm'),es,nx)):
  BE F N0 N j c (upd φ i nx) v' wt' sm' cl:=by
 have O:=h.mode;have au:=h.Oh;rcases h.DF hi with rfl | ⟨a,b⟩ | ⟨k,aj,rfl⟩ | ⟨aa,rfl⟩
 ·
  obtain⟨an,ar,ak⟩:=h.main;have:an=p:=by rw [ar] at U;exact Nx.ph.inj U
  subst this;have aw:∀q,Fb F.n j c q→(∀av vs,q≠ .BF av vs)→c=false:=by
   intro q ao ap;cases q <;> simp [Fb] at ao <;> first | exact ao.2.2 | exact ao.2 | exact absurd rfl (ap _ _)
  have ah:=h.FN;cases an <;> simp only [Fb] at ak <;> (try exact ak.elim) <;> simp only [Fam.act] at K <;> (try (cases K;done))
  ·cases K;obtain⟨rfl,ai,rfl⟩:=ak;exact h.Hb (p:= .Fj _) ⟨rfl,ai,rfl⟩ (by rw [U];rfl) (by rw [U];rfl) (by rw [U] at ah;exact ah) (by simpa [BZ] using O)
  ·split at K
   ·rename_i ab;cases K;obtain⟨rfl,ai,rfl⟩:=ak;rw [U] at ah;simp only [pend,Nat.add_zero] at ah;simp only [Bool.false_eq_true,if_false,BZ] at O;split
    ·exact h.Hb (p:= .ET _) ⟨rfl,ai,rfl⟩ (by rw [U];rfl) (by rw [U];simp [pend]) (by simp [pend];omega) ⟨O.1,O.2.1,O.2.2.1,rfl,O.2.2.2.2⟩
    ·exact h.Hb (p:= .D7 _) ⟨rfl,ai,rfl⟩ (by rw [U];rfl) (by rw [U];simp [pend]) (by simp [pend];omega) ⟨O.1,O.2.1,O.2.2.1,rfl,O.2.2.2.2⟩
   ·cases K
  ·cases K;obtain⟨rfl,ai,rfl⟩:=ak;exact h.Hb (p:= .D7 _) ⟨rfl,ai,rfl⟩ (by rw [U];rfl) (by rw [U];rfl) (by rw [U] at ah;exact ah) (by simpa [BZ] using O)
  ·cases K;obtain⟨rfl,ai,rfl⟩:=ak;exact h.Hb (p:= .Dp _) ⟨rfl,ai,rfl⟩ (by rw [U];rfl) (by rw [U];rfl) (by rw [U] at ah;exact ah) (by simpa [BZ] using O)
  ·cases K;obtain⟨rfl,ai,rfl⟩:=ak;exact h.Hb (p:= .Ey _) ⟨rfl,ai,rfl⟩ (by rw [U];rfl) (by rw [U];rfl) (by rw [U] at ah;exact ah) (by simpa [BZ] using O)
 ·have:=h.old i a b;rw [U] at this;exact this.elim
 ·
  have hw:=h.work k aj;rw [U] at hw;have ay:∀q k',q=Nx.ph p→(∀k',p≠ .BN k')→q≠ .ph (.BN k'):=by
   rintro q k' rfl ap e;exact ap k' (Nx.ph.inj e)
  cases p <;> simp only [FE] at hw <;> (try exact hw.elim) <;> simp only [Fam.act] at K <;> (try (cases K;done))
  ·cases K;refine h.FJ aj (x:= .ph .FI) trivial (fun k'=>by rw [U];simp) (by simp) (by rw [U];rfl) fun L S W Z=>?_;rw [U] at W Z;simp only [cL,cS,Nat.add_zero] at W Z;subst W Z;exact O
  ·cases K;refine h.FJ aj (x:= .ph .EM) trivial (fun k'=>by rw [U];simp) (by simp) (by rw [U];rfl) fun L S W Z=>?_;rw [U] at W Z;simp only [cL,cS,Nat.add_zero] at W Z;subst W Z;exact O
  ·split at K
   ·rename_i ab;cases K;have am:∀y ae ag L S,y=(if c=true then φ (N0+F.n) else .ph .B9)→BZ y v wt sm ae ag cl→(if v=1∧wt=1 then L=ae+1 else L=ae)→S=ag→BZ y (v - 1) wt sm L S cl:=by
     intro y ae ag L S az hm W Z;cases y with
     | gone d=>simp only [BZ] at hm ⊢;split at W <;> omega
     | ph q=>
      cases q <;> simp only [BZ] at hm ⊢ <;> (try exact hm) <;> (try (split at W <;> omega))
      ·split at W
       ·exfalso;omega
       ·exact⟨by omega,by omega,by omega,by omega,hm.2.2.2.2⟩
      ·split at W
       ·exfalso;omega
       ·exact⟨by omega,by omega,by omega,by omega,hm.2.2.2.2.1,by omega⟩
      ·split at W
       ·exfalso;omega
       ·exact⟨by omega,by omega,by omega,by omega,hm.2.2.2.2.1,by omega,by omega⟩
      ·split at W
       ·exact⟨by omega,by omega,hm.2.2⟩
       ·exact⟨by omega,by omega,hm.2.2⟩
      ·split at W
       ·exact⟨by omega,by omega,hm.2.2⟩
       ·exact⟨by omega,by omega,hm.2.2⟩
      ·split at W
       ·exact⟨by omega,by omega,hm.2.2⟩
       ·exact⟨by omega,by omega,hm.2.2⟩
    split
    ·rename_i al;refine h.FJ aj (x:= .ph .Eh) trivial (fun k'=>by rw [U];simp) (by simp) (by rw [U];simp [cU];omega) fun L S W Z=>?_;rw [U] at W Z;simp only [cL,cS,Nat.add_zero] at W Z;exact am _ _ _ L S rfl O (by rw [if_pos al];exact W) Z
    ·rename_i al;refine h.FJ aj (x:= .gone 1) trivial (fun k'=>by rw [U];simp) (by simp) (by rw [U];simp [cU];omega) fun L S W Z=>?_;rw [U] at W Z;simp only [cL,cS,Nat.add_zero] at W Z;exact am _ _ _ L S rfl O (by rw [if_neg al];exact W) Z
   ·cases K
  ·split at K
   ·rename_i ab;cases K;refine h.FJ aj (x:= .ph .Ex) trivial (fun k'=>by rw [U];simp) (by simp) (by rw [U];simp [cU];omega) fun L S W Z=>?_;rw [U] at W Z;simp only [cL,cS,Nat.add_zero] at W Z;have e:L=sumTo N fun i=>cL (φ i):=by
     have aA:L+1=(sumTo N fun i=>cL (φ i))+1:=W;omega
    obtain⟨al,aq⟩:=ab;subst e Z al aq;exact O
   ·cases K
  ·split at K
   ·rename_i ab;cases K;obtain⟨al,aq⟩:=ab;subst al aq;refine h.FJ aj (x:= .ph .C5) trivial (fun k'=>by rw [U];simp) (by simp) (by rw [U];simp [cU]) fun L S W Z=>?_;rw [U] at W Z;simp only [cL,cS,Nat.add_zero] at W Z;have am:∀y ae ag,BZ y 0 1 sm ae ag cl→L+1=ae→S=ag+1→BZ y 0 0 sm L S cl:=by
     intro y ae ag hm W Z;cases y with
     | gone d=>simp only [BZ] at hm ⊢;omega
     | ph q=>
      cases q <;> simp only [BZ] at hm ⊢ <;> (try exact hm) <;> (try (exfalso;omega))
      ·exact⟨by omega,by omega,hm.2.2⟩
      ·exact⟨by omega,by omega,hm.2.2⟩
      ·exact⟨by omega,by omega,hm.2.2⟩
    exact am _ _ _ O W Z
   ·cases K
  ·split at K
   ·rename_i ab;cases K;subst ab;refine h.FJ aj (x:= .gone 1) trivial (fun k'=>by rw [U];simp) (by simp) (by rw [U];simp [cU]) fun L S W Z=>?_;rw [U] at W Z;simp only [cL,cS,Nat.add_zero] at W Z;have am:∀y ae ag,BZ y v wt 0 ae ag cl→L=ae→S+1=ag→BZ y v wt 1 L S cl:=by
     intro y ae ag hm W Z;cases y with
     | gone d=>simp only [BZ] at hm ⊢;omega
     | ph q=>
      cases q <;> simp only [BZ] at hm ⊢ <;> (try exact hm) <;> (try (exfalso;omega))
      ·exact⟨by omega,by omega,hm.2.2⟩
      ·exact⟨by omega,by omega,hm.2.2⟩
      ·exact⟨by omega,by omega,hm.2.2⟩
    exact am _ _ _ O W Z
   ·cases K
  ·cases K;refine h.FJ aj (x:= .ph .Ej) trivial (fun k'=>by rw [U];simp) (by simp) (by rw [U];rfl) fun L S W Z=>?_;rw [U] at W Z;simp only [cL,cS,Nat.add_zero] at W Z;subst W Z;exact O
 ·
  have hw:=h.cls aa;rw [if_pos aa,U] at O;rw [U] at hw;obtain⟨an,ar,ak⟩:=h.main;cases p <;> simp only [Fi] at hw <;> (try exact hw.elim) <;> simp only [Fam.act] at K <;> (try (cases K;done)) <;> simp only [BZ] at O
  ·cases K;exact h.D6 aa (x:= .ph (.DN F.n)) trivial ⟨O.1,O.2.1,O.2.2.1,O.2.2.2.1,O.2.2.2.2,au⟩
  ·split at K
   ·rename_i m ab;cases K;split
    ·exact h.D6 aa (x:= .ph .DD) trivial ⟨O.1,O.2.1,O.2.2.1,rfl,by assumption,O.2.2.2.2.1⟩
    ·exact h.D6 aa (x:= .ph (.EN _)) trivial ⟨O.1,O.2.1,O.2.2.1,rfl,O.2.2.2.2.1,Nat.le_refl _,by omega⟩
   ·cases K
  ·split at K
   ·rename_i m ab;split at K
    ·cases K;exact h.D6 aa (x:= .ph .Fu) trivial ⟨by omega,by omega,O.2.2.2.2.1⟩
    ·cases K;exact h.D6 aa (x:= .ph (.DN _)) trivial ⟨O.1,O.2.1,O.2.2.1,rfl,O.2.2.2.2.1,by omega⟩
   ·cases K
  ·cases K;exact h.D6 aa (x:= .ph .Cp) trivial O
  ·split at K
   ·rename_i ab;cases K;exact h.D6 aa (x:= .ph .Ew) trivial ⟨by omega,by omega,rfl,by omega,by omega,O.2.2⟩
   ·cases K
  ·split at K
   ·rename_i ab;obtain⟨rfl,rfl⟩:=ab;cases K;exact h.D6 aa (x:= .ph .DD) trivial O
   ·cases K
  ·cases K;exact h.D6 aa (x:= .ph .Fq) trivial O
  ·cases K;exact h.D6 aa (x:= .ph .Cw) trivial O
  ·cases K;exact h.D6 aa (x:= .ph .ES) trivial O
  ·cases K;exact h.D6 aa (x:= .ph .EA) trivial O
end
end Pal
namespace Pal
open Go Go.Conc
open Go.ConcN (upd upd_same upd_ne sumTo sumTo_upd sumTo_upd_out sumTo_congr le_sumTo sumTo_le fork_knows)
section
variable {F:Fam}{N0 N j:Nat}{c:Bool}{φ:Nat→Nx}{v wt sm:Nat}{cl:Bool}
theorem BE.spawn(h:BE F N0 N j c φ v wt sm cl)(U:φ 0= .ph (.Dp j)):
  BE F N0 (N+1) (j+1) c (upd (upd φ N (.ph (F.start j))) 0 (.ph (F.Cy j))) v wt sm cl:=by
 obtain⟨ak,al,am⟩:=h.main;obtain rfl:ak= .Dp j:=by rw [al] at U;exact Nx.ph.inj U
 obtain⟨_,au,rfl⟩:=am;have an:=h.size;have av:=h.pos;simp only [Bool.toNat_false,Nat.add_zero] at an;have Z:cU (.ph (F.start j))=1∧cL (.ph (F.start j))=0∧cS (.ph (F.start j))=0:=by
  unfold Fam.start;split <;> exact⟨rfl,rfl,rfl⟩
 have K:cU (.ph (F.Cy j))=0∧cL (.ph (F.Cy j))=0∧cS (.ph (F.Cy j))=0∧pend (.ph (F.Cy j))=0∧got (.ph (F.Cy j))= []:=by
  unfold Fam.Cy;split <;> exact⟨rfl,rfl,rfl,rfl,rfl⟩
 have aa:cU (φ 0)=0∧cL (φ 0)=0∧cS (φ 0)=0:=by rw [U];exact⟨rfl,rfl,rfl⟩
 let W:Nat→Nx:=upd (upd φ N (.ph (F.start j))) 0 (.ph (F.Cy j));have O:W 0= .ph (F.Cy j):=upd_same _ _ _;have ab:W N= .ph (F.start j):=by show upd _ _ _ _=_;rw [upd_ne _ _ (by omega),upd_same]
 have ae:∀i,0<i→i≠N→W i=φ i:=fun i ag ah=>by show upd _ _ _ _=_;rw [upd_ne _ _ (by omega),upd_ne _ _ ah]
 have sum:∀f:Nx→Nat,f (φ 0)=0→f (.ph (F.Cy j))=0→(sumTo (N+1) fun i=>f (W i))=(sumTo N fun i=>f (φ i))+f (.ph (F.start j)):=by
  intro f f0 f1;simp only [sumTo,ab];congr 1;have ao:0<N:=by omega
  have:=sumTo_upd (upd φ N (.ph (F.start j))) (.ph (F.Cy j)) f ao;have ap:upd φ N (.ph (F.start j)) 0=φ 0:=upd_ne _ _ (by omega);rw [ap,f0,f1] at this;have aw:=sumTo_upd_out φ (.ph (F.start j)) f (i:=N) (j:=N) (Nat.le_refl _);show sumTo N (fun i=>f (upd (upd φ N (.ph (F.start j))) 0 (.ph (F.Cy j)) i))=_;omega
 have ai:=h.cnt;have aj:=h.FN;rw [U] at ai aj;simp only [pend] at ai aj;show BE F N0 (N+1) (j+1) false W v wt sm cl;have aq:got (φ 0)= []:=by rw [U];rfl
 refine⟨h.pos,h.n1,h.F9,by simp;omega,by omega,by simp,⟨F.Cy j,O,?_⟩,fun i ag ah=>by rw [ae i ag (by omega)];exact h.old i ag ah,fun k ar=>?_,by simp,?_,?_,?_,fun k ar hh=>?_,by rw [O,K.2.2.2.2];exact .nil,by rw [O,K.2.2.2.2];simp⟩
 ·unfold Fam.Cy;split
  ·exact⟨by assumption,rfl⟩
  ·exact⟨rfl,by omega,rfl⟩
 ·by_cases e:k=j
  ·subst e;rw [show N0+k=N by omega,ab];unfold Fam.start;split
   ·exact⟨rfl,by assumption⟩
   ·trivial
  ·rw [ae _ (by omega) (by omega)];exact h.work k (by omega)
 ·rw [O,K.2.2.2.1,sum cU aa.1 K.1,Z.1];exact ai
 ·rw [O,K.2.2.2.1];exact aj
 ·have hm:=h.mode;simp only [Bool.false_eq_true,if_false] at hm ⊢;rw [sum cL aa.2.1 K.2.1,sum cS aa.2.2 K.2.2.1,Z.2.1,Z.2.2];exact hm
 ·rw [O,K.2.2.2.2];by_cases e:k=j
  ·subst e;rw [show N0+k=N by omega,ab];unfold Fam.start;simp [hh]
  ·rw [ae _ (by omega) (by omega)];have:=h.ER k (by omega) hh
   rwa [aq] at this
theorem BE.Sl(h:BE F N0 N j c φ v wt sm cl)(O:φ 0= .ph .DT):
  BE F N0 (N+1) j true (upd (upd φ N (.ph .B9)) 0 (.ph (.BF [] []))) v wt sm cl:=by
 obtain⟨ak,al,am⟩:=h.main;obtain rfl:ak= .DT:=by rw [al] at O;exact Nx.ph.inj O
 obtain⟨aj,rfl⟩:=am;have an:=h.size;have ar:=h.pos;simp only [Bool.toNat_false,Nat.add_zero] at an;have W:cU (φ 0)=0∧cL (φ 0)=0∧cS (φ 0)=0:=by rw [O];exact⟨rfl,rfl,rfl⟩
 let U:Nat→Nx:=upd (upd φ N (.ph .B9)) 0 (.ph (.BF [] []));have K:U 0= .ph (.BF [] []):=upd_same _ _ _;have Z:U N= .ph .B9:=by show upd _ _ _ _=_;rw [upd_ne _ _ (by omega),upd_same]
 have aa:∀i,0<i→i≠N→U i=φ i:=fun i ab ae=>by show upd _ _ _ _=_;rw [upd_ne _ _ (by omega),upd_ne _ _ ae]
 have sum:∀f:Nx→Nat,f (φ 0)=0→f (.ph (.BF [] []))=0→f (.ph .B9)=0→(sumTo (N+1) fun i=>f (U i))=(sumTo N fun i=>f (φ i)):=by
  intro f f0 f1 f2;simp only [sumTo,Z,f2];have ao:0<N:=by omega
  have:=sumTo_upd (upd φ N (.ph .B9)) (.ph (.BF [] [])) f ao;have ap:upd φ N (.ph .B9) 0=φ 0:=upd_ne _ _ (by omega);rw [ap,f0,f1] at this;have au:=sumTo_upd_out φ (.ph .B9) f (i:=N) (j:=N) (Nat.le_refl _);show sumTo N (fun i=>f (upd (upd φ N (.ph .B9)) 0 (.ph (.BF [] [])) i))+0=_;omega
 have ag:=h.cnt;have ah:=h.FN;rw [O] at ag ah;simp only [pend] at ag ah;show BE F N0 (N+1) j true U v wt sm cl;have aq:got (φ 0)= []:=by rw [O];rfl
 refine⟨h.pos,h.n1,h.F9,by simp;omega,h.jn,fun _=>aj,⟨.BF [] [],K,aj,rfl⟩,fun i ab ae=>by rw [aa i ab (by omega)];exact h.old i ab ae,fun k ai=>?_,fun _=>by rw [show N0+F.n=N by omega,Z];trivial,?_,?_,?_,fun k ai hh=>?_,by rw [K];exact .nil,by rw [K];simp [got]⟩
 ·rw [aa _ (by omega) (by omega)];exact h.work k ai
 ·rw [K,sum cU W.1 rfl rfl];exact ag
 ·rw [K];exact ah
 ·have hm:=h.mode;simp only [Bool.false_eq_true,if_false,if_true] at hm ⊢;rw [show N0+F.n=N by omega,Z,sum cL W.2.1 rfl rfl,sum cS W.2.2 rfl rfl];exact hm
 ·rw [K];rw [aa _ (by omega) (by omega)];have:=h.ER k ai hh
  rwa [aq] at this
theorem BE.meet(h:BE F N0 N j c φ v wt sm cl){K:List Nat}{vs:List Value}{k:Nat}{x:Value}(O:φ 0= .ph (.BF K vs))(ag:k<j)(hw:φ (N0+k)= .ph (.BN k)):
  BE F N0 N j c (upd (upd φ (N0+k) (.ph .B6)) 0 (.ph (.BF (K++ [k]) (vs++ [x])))) v wt sm cl:=by
 obtain⟨al,am,an⟩:=h.main;obtain rfl:al= .BF K vs:=by rw [am] at O;exact Nx.ph.inj O
 obtain⟨ao,rfl⟩:=an;have ap:=h.size;have ay:=h.pos;have ah:F.has k=true:=by have:=h.work k ag;rw [hw] at this;exact this.2
 have aq:k ∉ K:=by have:=(h.ER k ag ah).1 hw;rwa [O] at this
 let W:Nat→Nx:=upd (upd φ (N0+k) (.ph .B6)) 0 (.ph (.BF (K++ [k]) (vs++ [x])));have U:W 0= .ph (.BF (K++ [k]) (vs++ [x])):=upd_same _ _ _;have ai:W (N0+k)= .ph .B6:=by show upd _ _ _ _=_;rw [upd_ne _ _ (by omega),upd_same]
 have Z:∀i,0<i→i≠N0+k→W i=φ i:=fun i aa ab=>by show upd _ _ _ _=_;rw [upd_ne _ _ (by omega),upd_ne _ _ ab]
 have sum:∀f:Nx→Nat,f (φ 0)=f (.ph (.BF (K++ [k]) (vs++ [x])))→f (.ph (.BN k))=f (.ph .B6)→(sumTo N fun i=>f (W i))=(sumTo N fun i=>f (φ i)):=by
  intro f f0 f1;have ar:0<N:=by omega
  have aa:=sumTo_upd (upd φ (N0+k) (.ph .B6)) (.ph (.BF (K++ [k]) (vs++ [x]))) f ar;have au:upd φ (N0+k) (.ph .B6) 0=φ 0:=upd_ne _ _ (by omega);have ab:=sumTo_upd φ (.ph .B6) f (show N0+k<N by omega);rw [au] at aa;rw [hw] at ab;show sumTo N (fun i=>f (upd (upd φ (N0+k) (.ph .B6)) 0 (.ph (.BF (K++ [k]) (vs++ [x]))) i))=_;omega
 have aj:=h.cnt;have ak:=h.FN;rw [O] at aj ak;show BE F N0 N j true W v wt sm cl;refine⟨h.pos,h.n1,h.F9,ap,h.jn,h.cj,⟨_,U,ao,rfl⟩,fun i aa ab=>by rw [Z i aa (by omega)];exact h.old i aa ab,fun k' ae=>?_,fun av=>?_,?_,?_,?_,fun k' ae hh=>?_,?_,?_⟩
 ·by_cases e:k'=k
  ·subst e;rw [ai];trivial
  ·rw [Z _ (by omega) (by omega)];exact h.work k' ae
 ·rw [Z _ (by omega) (by omega)];exact h.cls av
 ·rw [U,sum cU (by rw [O];rfl) rfl];exact aj
 ·rw [U];exact ak
 ·have hm:=h.mode;simp only [if_true] at hm ⊢;rw [Z _ (by omega) (by omega),sum cL (by rw [O];rfl) rfl,sum cS (by rw [O];rfl) rfl];exact hm
 ·rw [U];show _↔k' ∉ K++ [k];by_cases e:k'=k
  ·subst e;rw [ai];simp
  ·rw [Z _ (by omega) (by omega)];have:=h.ER k' ae hh;rw [O] at this;rw [this];show k' ∉ K↔_;simp [e]
 ·rw [U];have:=h.nd;rw [O] at this;show(K++ [k]).Nodup;rw [List.nodup_append];exact⟨this,by simp,fun a aw b hb=>by simp at hb;subst hb;exact fun e=>aq (e▸aw)⟩
 ·rw [U];intro k' ae;have hs:=h.sub;rw [O] at hs;rcases List.mem_append.1 ae with q | q
  ·exact hs k' q
  ·simp at q;subst q;exact⟨ag,ah⟩
theorem BE.close(h:BE F N0 N j c φ v wt sm cl)(K:c=true)(O:φ (N0+F.n)= .ph .Cw):BE F N0 N j c (upd φ (N0+F.n) (.gone 0)) v wt sm true:=by
 have hm:=h.mode;rw [if_pos K,O] at hm;exact h.D6 K (x:= .gone 0) trivial ⟨hm.1,hm.2.1,hm.2.2.1,hm.2.2.2.1,hm.2.2.2.2.1,rfl⟩
theorem BE.leave(h:BE F N0 N j c φ v wt sm cl){i d K:Nat}(hi:i<N)(O:φ i= .gone d):BE F N0 N j c (upd φ i (.gone K)) v wt sm cl:=by
 rcases h.DF hi with rfl | ⟨a,b⟩ | ⟨k,W,rfl⟩ | ⟨Z,rfl⟩
 ·obtain⟨p,aa,_⟩:=h.main;rw [O] at aa;cases aa
 ·have ah:=hi;have z:∀f:Nx→Nat,f (.gone d)=0→f (.gone K)=0→(sumTo N fun a=>f (upd φ i (.gone K) a))=sumTo N fun a=>f (φ a):=by
   intro f f0 f1;have:=sumTo_upd φ (.gone K) f ah;rw [O] at this;omega
  have am:=h.size;have U:upd φ i (.gone K) 0=φ 0:=upd_ne _ _ (by omega);refine⟨h.pos,h.n1,h.F9,h.size,h.jn,h.cj,by rw [U];exact h.main,fun ab ai aj=>?_,fun k W=>by rw [upd_ne _ _ (by omega)];exact h.work k W,fun Z=>by rw [upd_ne _ _ (by omega)];exact h.cls Z,by rw [U,z cU rfl rfl];exact h.cnt,by rw [U];exact h.FN,?_,fun k W hh=>by rw [U,upd_ne _ _ (by omega)];exact h.ER k W hh,by rw [U];exact h.nd,by rw [U];exact h.sub⟩
  ·by_cases e:ab=i
   ·subst e;rw [upd_same];trivial
   ·rw [upd_ne _ _ e];exact h.old ab ai aj
  ·rw [z cL rfl rfl,z cS rfl rfl,upd_ne _ _ (by omega)];exact h.mode
 ·refine h.FJ W (x:= .gone K) trivial (by rw [O];simp) (by simp) (by rw [O];rfl) fun L S ae ag=>?_;rw [O] at ae ag;have ak:L=sumTo N fun i=>cL (φ i):=ae;have al:S=sumTo N fun i=>cS (φ i):=ag;subst ak al;exact h.mode
 ·have hm:=h.mode;rw [if_pos Z,O] at hm;exact h.D6 Z (x:= .gone K) trivial hm
theorem BE.J8(h:BE F N0 N j c φ v wt sm cl)(O:c=true)(U:φ (N0+F.n)= .ph .Ew∨φ (N0+F.n)= .ph .DD∨φ (N0+F.n)= .ph .EA∨φ (N0+F.n)= .ph .Cw∨Dk (φ (N0+F.n))):∀k,k<j→Dk (φ (N0+k)):=by
 intro k W;have hm:=h.mode;rw [if_pos O] at hm;have Z:=h.size;have aa:=h.cnt;have ab:cU (φ (N0+k))≤sumTo N fun i=>cU (φ i):=le_sumTo (f:=fun i=>cU (φ i)) (show N0+k<N by omega);have ae:cL (φ (N0+k))≤sumTo N fun i=>cL (φ i):=le_sumTo (f:=fun i=>cL (φ i)) (show N0+k<N by omega);have ag:cS (φ (N0+k))≤sumTo N fun i=>cS (φ i):=le_sumTo (f:=fun i=>cS (φ i)) (show N0+k<N by omega);have ah:v=0∧(sumTo N fun i=>cL (φ i))=0∧(sumTo N fun i=>cS (φ i))=0:=by
  rcases U with e | e | e | e | e
  ·rw [e] at hm;exact⟨hm.2.2.2.2.1,hm.1,hm.2.1⟩
  ·rw [e] at hm;exact⟨hm.2.2.2.2.1,hm.1,hm.2.1⟩
  ·rw [e] at hm;exact⟨hm.2.2.2.2.1,hm.1,hm.2.1⟩
  ·rw [e] at hm;exact⟨hm.2.2.2.2.1,hm.1,hm.2.1⟩
  ·cases K:φ (N0+F.n) with
   | gone d=>rw [K] at hm;exact⟨hm.2.2.2.2.1,hm.1,hm.2.1⟩
   | ph p=>rw [K] at e;exact e.elim
 have hw:=h.work k W;cases K:φ (N0+k) with
 | gone d=>trivial
 | ph p=>
  have ai:1≤cU (φ (N0+k))+cL (φ (N0+k))+cS (φ (N0+k)):=by
   rw [K] at hw ⊢;cases p <;> simp only [FE] at hw <;> simp [cU,cL,cS]
  exfalso;omega
end
open Go.ConcN (RelBy)
def CN:Nx→Nat
 | .gone d=>d
 | .ph .EM | .ph .Eh | .ph .Ex | .ph .C5=>1
 | .ph (.DN _) | .ph (.EN _) | .ph .Fu | .ph .ES | .ph .Cp | .ph .Ew | .ph .DD=>1
 | .ph (.Fj _) | .ph (.ET _) | .ph (.Ey _) | .ph (.D7 _)=>1
 | _=>0
def late:Nx→Prop
 | .ph (.BN _) | .ph .B6 | .ph .Ej=>False
 | _=>True
def Gy(F:Fam)(N0 t0:Nat)(t:Trace)(q:Nat):Prop:=
 t.act? q=some (.mark (.acquire F.sA))∧t.g? q=some (N0+F.n)∧t.heard q∧∀k,k<F.n→∃ρ,t0≤ρ∧ρ<q∧RelBy F.sA t (N0+k) ρ
def H2(F:Fam)(N0 t0:Nat)(t:Trace)(p:Nat):Prop:=
 t.act? p=some (.close F.ch)∧t.g? p=some (N0+F.n)∧t.heard p∧(∃q,q<p∧Gy F N0 t0 t q)∧∀x,p<x→t.g? x=some (N0+F.n)→¬t.counts x
structure CG (F:Fam) (N0 t0 N j:Nat) (c:Bool) (φ:Nat→Nx) (t:Trace):Prop where
 deaf:∀i,i<N→Deaf t i=CN (φ i)
 above:∀i,N≤i→Deaf t i=0
 plain:∀x a b,touchAt t x=some a→Cx a.loc=some b→(b=F.wg∨b=F.ch)→a.kind= .plain→∀i,i<N→(i=0∨N0≤i)→Knows t i x
 said:∀x a b,touchAt t x=some a→Cx a.loc=some b→(b=F.wg∨b=F.ch)→a.kind= .said→Knows t (if c=true then N0+F.n else 0) x
 over:∀x g,t.g? x=some g→g≠0→t.counts x→(∃y,t.g? y=some 0∧HappensBefore t x y)∨(N0≤g∧g<N)
 norel:∀x,t0≤x→t.act? x≠some (.mark (.release F.sA))
 H3:t0≤t.size
 rel:∀k,k<j→late (φ (N0+k))→∃ρ,t0≤ρ∧RelBy F.sA t (N0+k) ρ
 acq:c=true→(φ (N0+F.n)= .ph .Cw∨Dk (φ (N0+F.n)))→∃q,Gy F N0 t0 t q
 Hj:c=true→Dk (φ (N0+F.n))→∃p,H2 F N0 t0 t p
section
variable {F:Fam}{N0 t0 N j:Nat}{c:Bool}{φ:Nat→Nx}{t u:Trace}
def EvS(F:Fam)(K:Prop)(e:Event):Prop:=
 (∀a,(MemAct.ofEvent e).touch? =some a→(∃b,Cx a.loc=some b∧(b=F.wg∨b=F.ch))∧a.kind≠ .plain∧(a.kind= .said→K))∧e.loc≠ .mark (.release F.sA)
theorem CG.noRace(h:CG F N0 t0 N j c φ t)(Z:∀said,¬Race said t){i:Nat}(hi:i<N)(aa:i=0∨N0≤i){fn:FuncId}{pos:String}{es:Array Event}
  (ab:∀e∈es,EvS F (i=if c=true then N0+F.n else 0) e):∀said,¬Race said (t++MemOp.ofEvents i fn pos es):=by
 intro said;refine noRace_append (g:=i) (Z said) (fun op K=>by obtain⟨e,_,rfl⟩:=mem_ofEvents K;rfl) fun x a O op K d ae ag=>?_;obtain⟨e,he,rfl⟩:=mem_ofEvents K;obtain⟨⟨b,hb,U⟩,ah,hs⟩:=(ab e he).1 d ae;obtain⟨ai,hm,al,aj⟩:=ag;have W:Cx a.loc=some b:=by rw [ai];exact hb
 rcases aj with q | q | ⟨_,q,ak⟩
 ·exact h.plain x a b O W U q i hi aa
 ·exact absurd q ah
 ·have:=h.said x a b O W U q
  rwa [← hs ak] at this
theorem Gy.app{q:Nat}(h:Gy F N0 t0 t q)(W:∀k ρ,k<F.n→RelBy F.sA t (N0+k) ρ→RelBy F.sA (t++u) (N0+k) ρ):Gy F N0 t0 (t++u) q:=by
 obtain⟨O,Z,aa,ab⟩:=h;have K:=lt_of_act? O;exact⟨by rw [act?_old K];exact O,by rw [g?_old K];exact Z,(heard_old K).2 aa,fun k U=>let ⟨ρ,a,b,d⟩:=ab k U;⟨ρ,a,b,W k ρ U d⟩⟩
theorem H2.app{p:Nat}(h:H2 F N0 t0 t p)(Z:∀k ρ,k<F.n→RelBy F.sA t (N0+k) ρ→RelBy F.sA (t++u) (N0+k) ρ)(aa:∀x,t.size≤x→(t++u).g? x=some (N0+F.n)→¬(t++u).counts x):H2 F N0 t0 (t++u) p:=by
 obtain⟨O,ab,ae,⟨q,ag,ah⟩,ai⟩:=h;have K:=lt_of_act? O;refine⟨by rw [act?_old K];exact O,by rw [g?_old K];exact ab,(heard_old K).2 ae,⟨q,ag,ah.app Z⟩,fun x aj U W=>?_⟩;rcases Nat.lt_or_ge x t.size with q | q
 ·exact ai x aj (by rw [← g?_old (u:=u) q];exact U) ((counts_old q).1 W)
 ·exact aa x q U W
theorem Mx(h:∀x g,t.g? x=some g→g≠0→t.counts x→(∃y,t.g? y=some 0∧HappensBefore t x y)∨(N0≤g∧g<N))(hu:∀op∈u,op.g=0∨(N0≤op.g∧op.g<N)∨op.act.touch? =none):
  ∀x g,(t++u).g? x=some g→g≠0→(t++u).counts x→(∃y,(t++u).g? y=some 0∧HappensBefore (t++u) x y)∨(N0≤g∧g<N):=by
 intro x g O U W;rcases Nat.lt_or_ge x t.size with q | q
 ·rcases h x g (by rw [← g?_old (u:=u) q];exact O) U ((counts_old q).1 W) with⟨y,K,hb⟩ | hh
  ·have ae:y<t.size:=by
    unfold Trace.g? at K;obtain⟨z,ag,_⟩:=Option.map_eq_some_iff.1 K;exact lt_size_of_getElem? ag
   exact .inl ⟨y,by rw [g?_old ae];exact K,hb_app u hb⟩
  ·exact .inr hh
 ·obtain⟨a,ah,_⟩:=W;obtain⟨op,Z,aa⟩:=touch_of ah;have ab:op.g=g:=by simpa [Trace.g?,Z] using O
  rcases getElem?_append_cases Z with⟨aj,_⟩ | ⟨_,ai⟩
  ·omega
  ·rcases hu op ai with z | z | z
   ·exact absurd (ab▸z) U
   ·exact .inr (ab▸z)
   ·rw [z] at aa;cases aa
theorem L8(h:∀x,t0≤x→t.act? x≠some (.mark (.release F.sA)))(hu:∀op∈u,op.act≠ .mark (.release F.sA)):∀x,t0≤x→(t++u).act? x≠some (.mark (.release F.sA)):=by
 intro x O e;obtain⟨op,U,K⟩:=Option.map_eq_some_iff.1 e;rcases getElem?_append_cases U with⟨_,W⟩ | ⟨_,Z⟩
 ·exact h x O (by rw [act?_of W,K])
 ·exact hu op Z K
theorem Oy{i g:Nat}(hu:∀op∈u,op.g=i)(K:i≠g):∀x,t.size≤x→(t++u).g? x=some g→¬(t++u).counts x:=by
 intro x aa O;obtain⟨op,U,W⟩:=Option.map_eq_some_iff.1 O;rcases getElem?_append_cases U with⟨ab,_⟩ | ⟨_,Z⟩
 ·omega
 ·exact absurd ((hu op Z).symm.trans W) K
theorem Li{g:Nat}(hu:∀op∈u,op.g=g→op.act.touch? =none):∀x,t.size≤x→(t++u).g? x=some g→¬(t++u).counts x:=by
 intro x ab U W;obtain⟨a,Z,_⟩:=W;obtain⟨op,K,O⟩:=touch_of Z;rcases getElem?_append_cases K with⟨ae,_⟩ | ⟨_,aa⟩
 ·omega
 ·rw [hu op aa (by simpa [Trace.g?,K] using U)] at O;cases O
theorem CG.app(h:CG F N0 t0 N j c φ t){i:Nat}(hi:i<N){x:Nx}{fn:FuncId}{pos:String}{es:Array Event}(aH:j≤F.n)
  (aw:deafBehind (CN (φ i)) es=CN x)
  (am:∀e∈es,(∀a b,(MemAct.ofEvent e).touch? =some a→Cx a.loc=some b→(b=F.wg∨b=F.ch)→a.kind≠ .plain∧(a.kind= .said→i=if c=true then N0+F.n else 0))∧e.loc≠ .mark (.release F.sA))
  (ay:(i=0∨N0≤i)∨∀e∈es,(MemAct.ofEvent e).touch? =none)
  (an:c=true→(φ (N0+F.n)= .ph .Cw∨Dk (φ (N0+F.n)))→∀k,k<F.n→late (φ (N0+k)))
  (az:∀k,k<F.n→i=N0+k→late (φ i)→∀ρ,RelBy F.sA t i ρ→RelBy F.sA (t++MemOp.ofEvents i fn pos es) i ρ)
  (aA:∀k,k<j→i=N0+k→late x→¬late (φ i)→∃ρ,t0≤ρ∧RelBy F.sA (t++MemOp.ofEvents i fn pos es) i ρ)
  (aB:c=true→i=N0+F.n→(x= .ph .Cw∨Dk x)→(∃q,Gy F N0 t0 (t++MemOp.ofEvents i fn pos es) q)∨(φ i= .ph .Cw∨Dk (φ i)))
  (aC:c=true→i=N0+F.n→Dk x→(∃p,H2 F N0 t0 (t++MemOp.ofEvents i fn pos es) p)∨(Dk (φ i)∧∀e∈es,(MemAct.ofEvent e).touch? =none)):
  CG F N0 t0 N j c (upd φ i x) (t++MemOp.ofEvents i fn pos es):=by
 generalize hu:MemOp.ofEvents i fn pos es=u at*;have aa:∀op∈u,op.g=i:=fun op O=>by rw [← hu] at O;obtain⟨e,_,rfl⟩:=mem_ofEvents O;rfl
 have ak:∀op∈u,∃e∈es,op.act=MemAct.ofEvent e:=fun op O=>by rw [← hu] at O;obtain⟨e,he,rfl⟩:=mem_ofEvents O;exact⟨e,he,rfl⟩
 have hold:∀{y a},touchAt (t++u) y=some a→touchAt t y=some a∨(Knows (t++u) i y∧∃e∈es,(MemAct.ofEvent e).touch? =some a):=by
  intro y a U;obtain⟨op,O,au⟩:=touch_of U;rcases getElem?_append_cases O with⟨aI,aD⟩ | ⟨_,av⟩
  ·left;rw [touchAt_of aD];exact au
  ·right;obtain⟨e,he,ab⟩:=ak op av;exact⟨by have:=knows_own O;rwa [aa op av] at this,e,he,by rw [← ab];exact au⟩
 have al:∀k ρ,k<F.n→late (φ (N0+k))→RelBy F.sA t (N0+k) ρ→RelBy F.sA (t++u) (N0+k) ρ:=by
  intro k ρ K ag Z;by_cases e:i=N0+k
  ·have:=az k K e (e▸ag) ρ (e▸Z)
   rwa [e] at this
  ·exact Z.appOther aa e
 refine⟨fun ae ah=>?_,fun ae ah=>?_,fun y a b ao hb ai K ae ah aj=>?_,fun y a b ao hb ai K=>?_,Mx h.over fun op O=>?_,L8 h.norel fun op O e=>?_,by simp;have:=h.H3;omega,fun k K ag=>?_,fun W U=>?_,fun W U=>?_⟩
 ·by_cases e:ae=i
  ·subst e;rw [upd_same,← hu,Deaf_own,h.deaf ae hi,aw]
  ·rw [upd_ne _ _ e,Deaf_other t (Ne.symm e) u aa];exact h.deaf ae ah
 ·rw [Deaf_other t (by omega) u aa];exact h.above ae ah
 ·rcases hold ao with q | ⟨_,e,he,ap⟩
  ·exact(h.plain y a b q hb ai K ae ah aj).app _
  ·exact absurd K ((am e he).1 a b ap hb ai).1
 ·rcases hold ao with q | ⟨aE,e,he,ap⟩
  ·exact(h.said y a b q hb ai K).app _
  ·rw [← ((am e he).1 a b ap hb ai).2 K];exact aE
 ·rw [aa op O];rcases ay with(q | q) | q
  ·exact .inl q
  ·exact .inr (.inl ⟨q,hi⟩)
  ·obtain⟨e,he,ab⟩:=ak op O;rw [ab];exact .inr (.inr (q e he))
 ·obtain⟨ev,aq,ab⟩:=ak op O;rw [ab] at e;exact(am ev aq).2 (by
   obtain⟨loc,wr,aF⟩:=ev
   cases loc with
   | mark m=>simp only [MemAct.ofEvent,MemAct.mark.injEq] at e;rw [e]
   | obj r=>cases wr <;> cases aF <;> simp [MemAct.ofEvent] at e
   | _=>simp [MemAct.ofEvent] at e)
 ·by_cases e:i=N0+k
  ·subst e;rw [upd_same] at ag;by_cases ar:late (φ (N0+k))
   ·obtain⟨ρ,a,b⟩:=h.rel k K ar;exact⟨ρ,a,al k ρ (by omega) ar b⟩
   ·exact aA k K rfl ag ar
  ·rw [upd_ne _ _ (Ne.symm e)] at ag;obtain⟨ρ,a,b⟩:=h.rel k K ag;exact⟨ρ,a,b.appOther aa e⟩
 ·have old:(φ (N0+F.n)= .ph .Cw∨Dk (φ (N0+F.n)))→∃q,Gy F N0 t0 (t++u) q:=by
   intro U;obtain⟨q,aG⟩:=h.acq W U;exact⟨q,aG.app fun k ρ K Z=>al k ρ K (an W U k K) Z⟩
  by_cases e:i=N0+F.n
  ·subst e;rw [upd_same] at U;rcases aB W rfl U with q | q
   ·exact q
   ·exact old q
  ·rw [upd_ne _ _ (Ne.symm e)] at U;exact old U
 ·by_cases e:i=N0+F.n
  ·subst e;rw [upd_same] at U;rcases aC W rfl U with q | ⟨q,hm⟩
   ·exact q
   ·obtain⟨p,aj⟩:=h.Hj W q;exact⟨p,aj.app (fun k ρ K Z=>al k ρ K (an W (.inr q) k K) Z) (Li fun op O _=>by obtain⟨ev,aq,ab⟩:=ak op O;rw [ab];exact hm ev aq)⟩
  ·rw [upd_ne _ _ (Ne.symm e)] at U;obtain⟨p,aj⟩:=h.Hj W U;exact⟨p,aj.app (fun k ρ K Z=>al k ρ K (an W (.inr U) k K) Z) (Oy aa e)⟩
end
end Pal
namespace Pal
open Go Go.Conc
open Go.ConcN (upd upd_same upd_ne sumTo sumTo_upd sumTo_upd_out sumTo_congr le_sumTo sumTo_le fork_knows RelBy)
section
variable {F:Fam}{N0 t0 N j:Nat}{c:Bool}{φ:Nat→Nx}{t u:Trace}{v wt sm v' wt' sm':Nat}{cl:Bool}
theorem Lt{x:Nx}(h:Dk x):late x:=by
 cases x with
 | gone d=>trivial
 | ph p=>exact h.elim
theorem J0{α:Type}(f:Nat→α)(i:Nat):upd f i (f i)=f:=by
 funext a;unfold upd;split
 ·rename_i e;rw [e]
 ·rfl
theorem BE.IF(K:BE F N0 N j c φ v wt sm cl)(O:c=true)(h:φ (N0+F.n)= .ph .Cw∨Dk (φ (N0+F.n))):∀k,k<F.n→late (φ (N0+k)):=fun k U=>
 Lt (K.J8 O (h.elim (fun e=> .inr (.inr (.inr (.inl e)))) fun e=> .inr (.inr (.inr (.inr e)))) k (by rw [K.cj O];exact U))
theorem PI{m:Mark}(K:∀a,m≠ .read a)(O:∀a,m≠ .write a):(MemAct.ofEvent (Fam.CX m)).touch? =none:=by
 cases m <;> first | rfl | exact absurd rfl (K _) | exact absurd rfl (O _)
theorem NN(p:Ph){es:Array Event}{nx:Nx}(K:F.act p v wt sm=some ((v',wt',sm'),es,nx)):
  (∀e∈es,EvS F (p= .ES∨∃j,p= .Ey j) e)∧deafBehind (CN (.ph p)) es=CN nx∧(∀e∈es,∀B,F.wg<B→(MemAct.ofEvent e).low B):=by
 have an:∀b w,(MemAct.ofEvent ⟨.cell F.sA,w,b⟩).touch? =some ⟨.cell F.sA,w,if b then .atomic else .plain⟩:=by intro b w;cases b <;> cases w <;> rfl
 have ab:∀(a:Addr) w (T:Prop),a.block=F.wg→EvS F T ⟨.cell a,w,true⟩:=by
  intro a w T hb;refine⟨fun x U=>?_,by simp⟩;have:x=⟨.cell a,w,.atomic⟩:=by cases w <;> (simp [MemAct.ofEvent,MemAct.touch?] at U;exact U.symm)
  subst this;exact⟨⟨F.wg,by simp [Cx,hb],.inl rfl⟩,by simp,by simp⟩
 have ae:∀(a:Addr) w B,a.block=F.wg→F.wg<B→(MemAct.ofEvent ⟨.cell a,w,true⟩).low B:=by
  intro a w B hb O;cases w <;> simp [MemAct.ofEvent,MemAct.low,Loc.low,hb,O]
 have aa:∀(m:Mark) (T:Prop),(∀a,m≠ .read a)→(∀a,m≠ .write a)→(∀a,m≠ .release a)→EvS F T (Fam.CX m):=by
  intro m T ak al am;exact⟨fun x U=>(by rw [PI ak al] at U;cases U),fun e=>am _ (Loc.mark.inj e)⟩
 have ag:F.mA.block=F.wg:=rfl;have Z:F.sA.block=F.wg:=rfl;have C8:∀(T:Prop),∀e∈semEvents F.mA,EvS F T e:=by
  intro T e he;simp only [semEvents,List.mem_toArray,List.mem_cons,List.not_mem_nil,or_false] at he;rcases he with rfl | rfl | rfl | rfl
  ·exact aa .disable T (by simp) (by simp) (by simp)
  ·exact ab _ _ _ ag
  ·exact ab _ _ _ ag
  ·exact aa .enable T (by simp) (by simp) (by simp)
 have aj:∀e∈semEvents F.mA,∀B,F.wg<B→(MemAct.ofEvent e).low B:=by
  intro e he B O;simp only [semEvents,List.mem_toArray,List.mem_cons,List.not_mem_nil,or_false] at he;rcases he with rfl | rfl | rfl | rfl
  ·trivial
  ·exact ae _ _ _ ag O
  ·exact ae _ _ _ ag O
  ·trivial
 have ah:∀(T:Prop),∀e∈(#[Fam.Dq F.sA,Fam.Gc F.sA]:Array Event),EvS F T e:=by
  intro T e he;simp only [List.mem_toArray,List.mem_cons,List.not_mem_nil,or_false] at he;rcases he with rfl | rfl <;> exact ab _ _ _ Z
 have ai:∀e∈(#[Fam.Dq F.sA,Fam.Gc F.sA]:Array Event),∀B,F.wg<B→(MemAct.ofEvent e).low B:=by
  intro e he B O;simp only [List.mem_toArray,List.mem_cons,List.not_mem_nil,or_false] at he;rcases he with rfl | rfl <;> exact ae _ _ _ Z O
 have one:∀{e:Event} {T:Prop},EvS F T e→∀x∈(#[e]:Array Event),EvS F T x:=by
  intro e T h x U;simp at U;subst U;exact h
 have W:∀{e:Event},(∀B,F.wg<B→(MemAct.ofEvent e).low B)→∀x∈(#[e]:Array Event),∀B,F.wg<B→(MemAct.ofEvent x).low B:=by
  intro e h x U;simp at U;subst U;exact h
 cases p <;> simp only [Fam.act] at K <;> (try (cases K;done))
 ·cases K;exact⟨one (aa _ _ (by simp) (by simp) (by simp)),rfl,W fun B O=>O⟩
 ·cases K;exact⟨one (aa _ _ (by simp) (by simp) (by simp)),rfl,W fun B O=>trivial⟩
 ·split at K
  ·cases K;exact⟨ah _,by split <;> rfl,ai⟩
  ·cases K
 ·split at K
  ·cases K;exact⟨one (ab _ _ _ Z),rfl,W fun B O=>ae _ _ _ Z O⟩
  ·cases K
 ·split at K
  ·cases K;exact⟨one (ab _ _ _ Z),rfl,W fun B O=>ae _ _ _ Z O⟩
  ·cases K
 ·split at K
  ·cases K;exact⟨C8 _,rfl,aj⟩
  ·cases K
 ·cases K;exact⟨one (aa _ _ (by simp) (by simp) (by simp)),rfl,W fun B O=>trivial⟩
 ·split at K
  ·cases K;exact⟨one (ab _ _ _ Z),by split <;> rfl,W fun B O=>ae _ _ _ Z O⟩
  ·cases K
 ·split at K
  ·split at K
   ·cases K;exact⟨ah _,rfl,ai⟩
   ·cases K;exact⟨one (ab _ _ _ Z),rfl,W fun B O=>ae _ _ _ Z O⟩
  ·cases K
 ·cases K;refine⟨one ⟨fun x U=>?_,by simp [Fam.CX]⟩,rfl,W fun B O=>O⟩;simp [Fam.CX,MemAct.ofEvent,MemAct.touch?] at U;subst U;exact⟨⟨F.wg,rfl,.inl rfl⟩,by simp,fun _=> .inl rfl⟩
 ·split at K
  ·cases K;exact⟨C8 _,rfl,aj⟩
  ·cases K
 ·split at K
  ·cases K;exact⟨one (ab _ _ _ Z),rfl,W fun B O=>ae _ _ _ Z O⟩
  ·cases K
 ·cases K;exact⟨one (aa _ _ (by simp) (by simp) (by simp)),rfl,W fun B O=>trivial⟩
 ·cases K;exact⟨one (aa _ _ (by simp) (by simp) (by simp)),rfl,W fun B O=>O⟩
 ·cases K;exact⟨one (aa _ _ (by simp) (by simp) (by simp)),rfl,W fun B O=>trivial⟩
 ·split at K
  ·cases K;exact⟨ah _,by split <;> rfl,ai⟩
  ·cases K
 ·cases K;refine⟨one ⟨fun x U=>?_,by simp [Fam.CX]⟩,rfl,W fun B O=>O⟩;simp [Fam.CX,MemAct.ofEvent,MemAct.touch?] at U;subst U;exact⟨⟨F.wg,rfl,.inl rfl⟩,by simp,fun _=> .inr ⟨_,rfl⟩⟩
 ·cases K;exact⟨one (aa _ _ (by simp) (by simp) (by simp)),rfl,W fun B O=>trivial⟩
 all_goals
  cases K;exact⟨by simp,rfl,by simp⟩
theorem Qt(p:Ph){es:Array Event}{nx:Nx}(K:F.act p v wt sm=some ((v',wt',sm'),es,nx)){k:Nat}(hw:FE F k (.ph p))(O:late (.ph p)):
  ∀m e,es[m]? =some e→(MemAct.ofEvent e).touch? =none∨((∃ad wr,e=⟨.cell ad,wr,true⟩)∧0<deafBehind (CN (.ph p)) (es.extract 0 m)):=by
 have two:∀m e,(#[Fam.Dq F.sA,Fam.Gc F.sA]:Array Event)[m]? =some e→(∃ad wr,e=⟨.cell ad,wr,true⟩)∧0<deafBehind 1 ((#[Fam.Dq F.sA,Fam.Gc F.sA]:Array Event).extract 0 m):=by
  intro m e h
  match m with
  | 0=>simp at h;subst h;exact⟨⟨_,_,rfl⟩,by simp [deafBehind]⟩
  | 1=>simp at h;subst h;exact⟨⟨_,_,rfl⟩,by simp [deafBehind,Fam.Dq]⟩
  | m+2=>simp at h
 cases p <;> simp only [FE] at hw <;> (try exact hw.elim) <;> simp only [late] at O <;> (try exact O.elim) <;> simp only [Fam.act] at K <;> (try (cases K;done))
 ·cases K;intro m e h
  match m with
  | 0=>simp at h;subst h;exact .inl rfl
  | m+1=>simp at h
 ·split at K
  ·cases K;exact fun m e h=> .inr (two m e h)
  ·cases K
 ·split at K
  ·cases K;intro m e h
   match m with
   | 0=>simp at h;subst h;exact .inr ⟨⟨_,_,rfl⟩,by simp [deafBehind,CN]⟩
   | m+1=>simp at h
  ·cases K
 ·split at K
  ·cases K;intro m e h
   match m with
   | 0=>simp at h;subst h;exact .inr ⟨⟨_,_,rfl⟩,by simp [deafBehind,CN]⟩
   | m+1=>simp at h
  ·cases K
 ·split at K
  ·cases K;intro m e h
   match m with
   | 0=>simp [semEvents] at h;subst h;exact .inl rfl
   | 1=>simp [semEvents] at h;subst h;exact .inr ⟨⟨_,_,rfl⟩,by simp [deafBehind,CN,semEvents]⟩
   | 2=>simp [semEvents] at h;subst h;exact .inr ⟨⟨_,_,rfl⟩,by simp [deafBehind,CN,semEvents]⟩
   | 3=>simp [semEvents] at h;subst h;exact .inl rfl
   | m+4=>simp [semEvents] at h
  ·cases K
theorem CG.act(h:CG F N0 t0 N j c φ t)(O:BE F N0 N j c φ v wt sm cl){i:Nat}(hi:i<N){p:Ph}(U:φ i= .ph p){es:Array Event}{nx:Nx}(K:F.act p v wt sm=some ((v',wt',sm'),es,nx))(fn:FuncId)(pos:String):
  CG F N0 t0 N j c (upd φ i nx) (t++MemOp.ofEvents i fn pos es)∧(∀e∈es,EvS F (i=if c=true then N0+F.n else 0) e)∧(i=0∨N0≤i):=by
 obtain⟨ai,am,_⟩:=NN p K;have ay:=O.size;have an:=O.jn;have ao:(p= .ES∨∃j,p= .Ey j)→i=if c=true then N0+F.n else 0:=by
  rintro(rfl | ⟨az,rfl⟩)
  ·rcases O.DF hi with rfl | ⟨a,b⟩ | ⟨k,Z,rfl⟩ | ⟨W,rfl⟩
   ·obtain⟨q,ae,hm⟩:=O.main;rw [U] at ae;cases ae;exact hm.elim
   ·have:=O.old i a b;rw [U] at this;exact this.elim
   ·have:=O.work k Z;rw [U] at this;exact this.elim
   ·rw [if_pos W]
  ·rcases O.DF hi with rfl | ⟨a,b⟩ | ⟨k,Z,rfl⟩ | ⟨W,rfl⟩
   ·obtain⟨q,ae,hm⟩:=O.main;rw [U] at ae;cases ae;obtain⟨_,_,rfl⟩:=hm;rfl
   ·have:=O.old i a b;rw [U] at this;exact this.elim
   ·have:=O.work k Z;rw [U] at this;exact this.elim
   ·have:=O.cls W;rw [U] at this;exact this.elim
 have aj:∀e∈es,EvS F (i=if c=true then N0+F.n else 0) e:=fun e he=>⟨fun a ag=>let ⟨x,y,z⟩:=(ai e he).1 a ag;⟨x,y,fun q=>ao (z q)⟩,(ai e he).2⟩
 have ak:i=0∨N0≤i:=by
  rcases O.DF hi with rfl | ⟨a,b⟩ | ⟨k,Z,rfl⟩ | ⟨W,rfl⟩
  ·exact .inl rfl
  ·have:=O.old i a b;rw [U] at this;exact this.elim
  ·exact .inr (by omega)
  ·exact .inr (by omega)
 refine⟨h.app hi an (by rw [U];exact am) (fun e he=>⟨fun a b ag hb aA=>⟨((aj e he).1 a ag).2.1,((aj e he).1 a ag).2.2⟩,(ai e he).2⟩) (.inl ak) (fun W aa=>O.IF W aa) (fun k Z e ah ρ ap=>?_) (fun k Z e ah al=>?_) (fun W e aa=>?_) (fun W e aa=>?_),aj,ak⟩
 ·subst e;rw [U] at ah;refine ap.appOwn fn pos es fun m e he=>?_;have ab:k<j∨(c=true∧F.n=k):=by
   rcases O.DF hi with q | ⟨a,b⟩ | ⟨k',aB,q⟩ | ⟨W,q⟩
   ·have:=O.pos;omega
   ·omega
   ·left;omega
   ·omega
  rcases ab with ab | ⟨_,q⟩
  ·have hw:=O.work k ab;rw [U] at hw;rw [h.deaf _ hi,U];exact Qt p K hw ah m e he
  ·omega
 ·subst e;rw [U] at al;have hw:=O.work k Z;rw [U] at hw;have aq:p= .Ej:=by
   cases p <;> simp only [FE] at hw <;> (try exact hw.elim) <;> simp [late] at al
   ·simp [Fam.act] at K
   ·rfl
   ·simp only [Fam.act] at K;cases K;exact ah.elim
  subst aq;simp only [Fam.act] at K;cases K;exact⟨t.size,h.H3,.new (by rw [h.deaf _ hi,U];rfl) fn pos⟩
 ·subst e;left;have hw:=O.cls W;rw [U] at hw;have ar:p= .EA∧nx= .ph .Cw:=by
   rcases aa with rfl | aa
   ·cases p <;> simp only [Fi] at hw <;> (try exact hw.elim) <;> simp only [Fam.act] at K <;> (try (cases K;done))
    ·split at K
     ·split at K <;> cases K
     ·cases K
    ·split at K
     ·split at K <;> cases K
     ·cases K
    ·split at K <;> cases K
    ·split at K <;> cases K
    ·exact⟨rfl,rfl⟩
   ·cases nx with
    | ph q=>exact aa.elim
    | gone d=>
     exfalso;cases p <;> simp only [Fi] at hw <;> (try exact hw.elim) <;> simp only [Fam.act] at K <;> (try (cases K;done))
     ·split at K
      ·split at K <;> cases K
      ·cases K
     ·split at K
      ·split at K <;> cases K
      ·cases K
     ·split at K <;> cases K
     ·split at K <;> cases K
  obtain⟨rfl,rfl⟩:=ar;simp only [Fam.act] at K;cases K;have au:MemOp.ofEvents (N0+F.n) fn pos #[Fam.CX (.acquire F.sA)]= #[{g:=N0+F.n,fn,pos,act:= .mark (.acquire F.sA)}]:=by rw [ofEvents_eq];simp [Fam.CX,MemAct.ofEvent]
  rw [au];have av:(t++ #[({g:=N0+F.n,fn,pos,act:= .mark (.acquire F.sA)}:MemOp)])[t.size]? =some {g:=N0+F.n,fn,pos,act:= .mark (.acquire F.sA)}:=by simp
  refine⟨t.size,by rw [act?_of av],by simp [Trace.g?],⟨N0+F.n,by simp [Trace.g?],by rw [deaf_old (Nat.le_refl _)];have:=h.deaf _ hi;rw [U] at this;exact this⟩,fun k Z=>?_⟩;have aw:=O.J8 W (.inr (.inr (.inl U)));have ab:k<j:=by rw [O.cj W];exact Z
  obtain⟨ρ,a,b⟩:=h.rel k ab (Lt (aw k ab));exact⟨ρ,a,lt_of_act? b.act,b.appOther (g:=N0+F.n) (by simp) (by omega)⟩
 ·subst e;exfalso;have hw:=O.cls W;rw [U] at hw;cases nx with
  | ph q=>exact aa.elim
  | gone d=>
   cases p <;> simp only [Fi] at hw <;> (try exact hw.elim) <;> simp only [Fam.act] at K <;> (try (cases K;done))
   ·split at K
    ·split at K <;> cases K
    ·cases K
   ·split at K
    ·split at K <;> cases K
    ·cases K
   ·split at K <;> cases K
   ·split at K <;> cases K
theorem CG.Cf(h:CG F N0 t0 N j c φ t)(au:BE F N0 N j c φ v wt sm cl)(hu:∀op∈u,op.act.touch? =none∧∀m,op.act≠ .mark m):CG F N0 t0 N j c φ (t++u):=by
 have ai:∀g,Deaf (t++u) g=Deaf t g:=by
  intro g;obtain⟨l⟩:=u;rw [Deaf_append]
  induction l generalizing t with
  | nil=>rfl
  | cons y l av=>
   have U:=(hu y (by simp)).2;have ak:deafStep g (Deaf t g) y=Deaf t g:=by
    unfold deafStep;split <;> first | (rename_i e;exact absurd e (U _)) | rfl
   rw [List.foldl_cons,ak];have key:∀(l:List MemOp) (d:Nat),(∀op∈l,∀m,op.act≠ .mark m)→l.foldl (deafStep g) d=d:=by
    intro l
    induction l with
    | nil=>intro d _;rfl
    | cons z l al=>
     intro d aa;have am:=aa z (by simp);have an:deafStep g d z=d:=by
      unfold deafStep;split <;> first | (rename_i e;exact absurd e (am _)) | rfl
     rw [List.foldl_cons,an];exact al d fun op K=>aa op (by simp [K])
   exact key l _ fun op K=>(hu op (by simp at K ⊢;exact .inr K)).2
 have hold:∀{y a},touchAt (t++u) y=some a→touchAt t y=some a:=by
  intro y a O;obtain⟨op,K,ab⟩:=touch_of O;rcases getElem?_append_cases K with⟨aw,ao⟩ | ⟨_,ap⟩
  ·rw [touchAt_of ao];exact ab
  ·rw [(hu op ap).1] at ab;cases ab
 have aj:∀g x,t.size≤x→(t++u).g? x=some g→¬(t++u).counts x:=fun g=>Li fun op K _=>(hu op K).1;have W:∀g ρ,RelBy F.sA t g ρ→RelBy F.sA (t++u) g ρ:=fun g ρ W=>W.app fun x O aq=>aj g x O aq;refine⟨fun i hi=>by rw [ai];exact h.deaf i hi,fun i hi=>by rw [ai];exact h.above i hi,fun y a b U hb ae Z i hi ag=>(h.plain y a b (hold U) hb ae Z i hi ag).app _,fun y a b U hb ae Z=>(h.said y a b (hold U) hb ae Z).app _,
  Mx h.over fun op K=> .inr (.inr (hu op K).1),L8 h.norel fun op K=>(hu op K).2 _,by simp;have:=h.H3;omega,fun k Z aa=>let ⟨ρ,a,b⟩:=h.rel k Z aa;⟨ρ,a,W _ _ b⟩,
  fun ah O=>let ⟨q,ar⟩:=h.acq ah O;⟨q,ar.app fun k ρ _=>W _ ρ⟩,fun ah O=>let ⟨p,ag⟩:=h.Hj ah O;⟨p,ag.app (fun k ρ _=>W _ ρ) (aj _)⟩⟩
theorem CG.Q8(h:CG F N0 t0 N j c φ t){U:Nat→Nx}(aa:∀i,i<N→CN (U i)=CN (φ i))(ab:∀k,k<j→late (U (N0+k))→late (φ (N0+k)))(W:c=true→U (N0+F.n)=φ (N0+F.n)):CG F N0 t0 N j c U t:=
 ⟨fun i hi=>by rw [aa i hi];exact h.deaf i hi,h.above,h.plain,h.said,h.over,h.norel,h.H3,fun k Z K=>h.rel k Z (ab k Z K),fun O K=>h.acq O (by rwa [W O] at K),fun O K=>h.Hj O (by rwa [W O] at K)⟩
theorem CG.spawn(h:CG F N0 t0 N j c φ t)(ab:BE F N0 N j c φ v wt sm cl)(an:c=false){Z:Nat→Nx}{ah:Nat}{ai:Bool}(ao:∀i,i<N→CN (Z i)=CN (φ i))(ap:CN (Z N)=0)(aq:CN (φ 0)=0)
  (ar:∀k,k<ah→late (Z (N0+k))→k<j∧late (φ (N0+k))) (ae:ai=true→N0+F.n=N∧Z (N0+F.n)= .ph .B9)
  {x y:MemOp} (K:x.g=0∧x.act= .go N) (aj:y.g=N∧y.act= .start):CG F N0 t0 (N+1) ah ai Z (t++ #[x,y]):=by
 have ak:0<N:=by have:=ab.size;have:=ab.pos;omega
 have hu:∀op∈(#[x,y]:Array MemOp),op.act.touch? =none∧∀m,op.act≠ .mark m:=by
  intro op al;simp only [List.mem_toArray,List.mem_cons,List.not_mem_nil,or_false] at al;rcases al with rfl | rfl
  ·rw [K.2];exact⟨rfl,by simp⟩
  ·rw [aj.2];exact⟨rfl,by simp⟩
 have O:=h.Cf ab hu;have am:∀z,Knows t 0 z→Knows (t++ #[x,y]) N z:=fun z U=>fork_knows K aj (by rw [h.deaf 0 ak];exact aq) (h.above N (Nat.le_refl _)) U;have hold:∀{z a},touchAt (t++ #[x,y]) z=some a→touchAt t z=some a:=by
  intro z a U;obtain⟨op,au,ag⟩:=touch_of U;rcases getElem?_append_cases au with⟨aC,av⟩ | ⟨_,aw⟩
  ·rw [touchAt_of av];exact ag
  ·rw [(hu op aw).1] at ag;cases ag
 refine⟨fun i hi=>?_,fun i hi=>O.above i (by omega),fun z a b U hb aa W i hi ay=>?_,fun z a b U hb aa W=>?_,fun z g az aA aB=>?_,O.norel,O.H3,fun k W K=>?_,fun e K=>?_,fun e K=>?_⟩
 ·rcases Nat.lt_or_ge i N with q | q
  ·rw [ao i q];exact O.deaf i q
  ·obtain rfl:i=N:=by omega
   rw [ap];exact O.above i (Nat.le_refl _)
 ·rcases Nat.lt_or_ge i N with q | q
  ·exact O.plain z a b U hb aa W i q ay
  ·obtain rfl:i=N:=by omega
   exact am z (h.plain z a b (hold U) hb aa W 0 ak (.inl rfl))
 ·have:=h.said z a b (hold U) hb aa W;rw [an] at this;simp only [Bool.false_eq_true,if_false] at this;split
  ·rename_i e;rw [(ae e).1];exact am z this
  ·exact this.app _
 ·rcases O.over z g az aA aB with q | q
  ·exact .inl q
  ·exact .inr ⟨q.1,by omega⟩
 ·obtain⟨a,b⟩:=ar k W K;exact O.rel k a b
 ·have:=(ae e).2;rw [this] at K;rcases K with q | q
  ·cases q
  ·exact q.elim
 ·have:=(ae e).2;rw [this] at K;exact K.elim
end
end Pal
namespace Pal
open Go Go.Conc
open Go.ConcN (upd upd_same upd_ne sumTo sumTo_upd sumTo_upd_out sumTo_congr le_sumTo sumTo_le fork_knows RelBy)
def Dn(N:Nat)(K r:Nat→Rk):Prop:=∃i,i<N∧Rk.sub (K i) (r i)∧∀j,j≠i→K j=r j
theorem Dn.wf:∀N,WellFounded (Dn N)
 | 0=>⟨fun _=>⟨_,fun _ ⟨_,h,_⟩=>by omega⟩⟩
 | N+1=>⟨by
  have key:∀x:Rk,∀r:Nat→Rk,r N=x→Acc (Dn (N+1)) r:=by
   intro x
   induction x using Rk.wf.induction with
   | _ x W=>
    intro r
    induction r using (Dn.wf N).induction with
    | _ r Z=>
     intro e
     refine⟨_,fun K ⟨i,hi,hs,O⟩=>?_⟩
     by_cases U:i=N
     ·subst U;exact W (K i) (by rw [← e];exact hs) K rfl
     ·exact Z K ⟨i,by omega,hs,O⟩ (by rw [O N (Ne.symm U),e])
  exact fun r=>key _ r rfl⟩
def chain:Nat→Rk
 | 0=> .leaf
 | n+1=> .node fun _=>chain n
theorem PH(n:Nat)(w:World):Rk.sub (chain n) (chain (n+1)):=⟨_,w,rfl,rfl⟩
def Mu:=Nat×(Nat×((Nat→Rk)×Nat))
def Mu.lt(a b:Mu):Prop:=a.1<b.1∨(a.1=b.1∧a.2.1=b.2.1∧(Dn b.2.1 a.2.2.1 b.2.2.1∨(a.2.2.1=b.2.2.1∧a.2.2.2<b.2.2.2)))
theorem Mu.wf:WellFounded Mu.lt:=⟨by
 have key:∀(A:Nat) (N:Nat) (r:Nat→Rk) (B:Nat),Acc Mu.lt (A,N,r,B):=by
  intro A
  induction A using Nat.strongRecOn with
  | _ A aa=>
   intro N r
   induction r using (Dn.wf N).induction with
   | _ r ab=>
    intro B
    induction B using Nat.strongRecOn with
    | _ B ae=>
     refine⟨_,fun⟨ag,ah,U,B'⟩ h=>?_⟩
     rcases h with h | ⟨K,O,h | ⟨W,Z⟩⟩
     ·exact aa ag h ah U B'
     ·simp only at K O h;subst K O;exact ab U h B'
     ·simp only at K O W Z;subst K O W;exact ae B' Z
 exact fun⟨A,N,r,B⟩=>key A N r B⟩
def wt(n:Nat):Nx→Nat
 | .gone _=>0
 | .ph p=>match p with
  | .BN _=>10 | .B6=>9 | .Ej=>8 | .FI=>7 | .EM=>6 | .Eh=>5 | .Ex=>4 | .C5=>3
  | .B9=>3*n+25 | .DN m=>3*m+20 | .EN m=>3*m+19 | .Fu=>14 | .ES=>13 | .Cp=>12 | .Ew=>11 | .DD=>10 | .Fq=>9 | .EA=>8 | .Cw=>7
  | .Dx j=>5*n+60+20*(n - j) | .Fj j=>5*n+59+20*(n - j) | .ET j=>5*n+58+20*(n - j) | .Ey j=>5*n+57+20*(n - j) | .D7 j=>5*n+56+20*(n - j) | .Dp j=>5*n+55+20*(n - j)
  | .DT=>5*n+60 | .BF _ _=>2
theorem Nv{F:Fam}{p:Ph}{v w sm v' w' sm':Nat}{es:Array Event}{nx:Nx}(h:F.act p v w sm=some ((v',w',sm'),es,nx)):wt F.n nx<wt F.n (.ph p):=by
 cases p <;> simp only [Fam.act] at h <;> (try (cases h;done))
 ·cases h;simp [wt]
 ·cases h;simp [wt]
 ·split at h
  ·cases h;split <;> simp [wt]
  ·cases h
 ·split at h
  ·cases h;simp [wt]
  ·cases h
 ·split at h
  ·cases h;simp [wt]
  ·cases h
 ·split at h
  ·cases h;simp [wt]
  ·cases h
 ·cases h;simp [wt]
 ·split at h
  ·cases h;split <;> simp [wt] <;> omega
  ·cases h
 ·split at h
  ·split at h <;> cases h <;> simp [wt] <;> omega
  ·cases h
 ·cases h;simp [wt]
 ·split at h
  ·cases h;simp [wt]
  ·cases h
 ·split at h
  ·cases h;simp [wt]
  ·cases h
 ·cases h;simp [wt]
 ·cases h;simp [wt]
 ·cases h;simp [wt]
 ·split at h
  ·cases h;split <;> simp [wt]
  ·cases h
 ·cases h;simp [wt]
 ·cases h;simp [wt]
 all_goals cases h;simp [wt]
inductive Ch (P:Program) (F:Fam) (main:Bool):Nx→Rk→Bool→Goroutine→St→Prop
 | walk {p:Ph} {r:Rk} {g:Goroutine} {s:St}:main=Fam.Cr p→(Fam.CI p=true→s= .quiet)→Jr P main (JQ (Stop P F p)) r g s→Ch P F main (.ph p) r true g s
 | again {K:List Nat} {vs:List Value} {r:Rk} {g:Goroutine} {s:St} {z:Value}:main=true→Stop P F (.BF K vs) g s→Ch P F main (.ph (.BF K vs)) r true {parked g #[rcase F.ch z] (.recv true) with status:= .running} s
 | Dw {K:List Nat} {vs:List Value} {r:Rk} {g:Goroutine} {s:St} {z:Value}:main=true→Stop P F (.BF K vs) g s→Ch P F main (.ph (.BF K vs)) r false (parked g #[rcase F.ch z] (.recv true)) s
 | DO {k:Nat} {r:Rk} {g:Goroutine} {s:St} {v z:Value}:main=false→F.msg k v s.E→s.q=false→Way P false (Stop P F .B6) (served g undef) s→Ch P F main (.ph (.BN k)) r false (parked g #[scase F.ch v z] .send) s
 | blk {r:Rk} {g:Goroutine} {s:St}:main=false→Stop P F .Cp g s→Ch P F main (.ph .Cp) r false {g with status:= .blocked} s
 | gone {q d:Nat} {g:Goroutine}:main=false→QuitsD P q d g→Ch P F main (.gone d) (chain q) true g .quiet
section
variable {P:Program}{F:Fam}{main:Bool}
theorem Jr.running{p:Ph}{r:Rk}{g:Goroutine}{s:St}(h:Jr P main (JQ (Stop P F p)) r g s):g.status= .running:=by
 cases r with
 | leaf=>obtain⟨s₀,_,hs⟩:=h;exact hs.law.run
 | node f=>
  rcases h with⟨s₀,_,hs⟩ | ⟨K,_⟩
  ·exact hs.law.run
  ·exact K
theorem Jr.at_{Q:GP}{r:Rk}{g:Goroutine}{s:St}(h:Q g s):Jr P main Q r g s:=by
 cases r with
 | leaf=>exact h
 | node f=>exact .inl h
theorem Ch.awake{x:Nx}{r:Rk}{b:Bool}{g:Goroutine}{s:St}(h:Ch P F main x r b g s):Go.Conc.awake g:=by
 cases h with
 | walk _ _ K=>exact awake_of (.inl K.running)
 | again _ _=>exact awake_of (.inl rfl)
 | Dw _ _=>exact awake_of (.inr (.inl rfl))
 | DO _ _ _ _=>exact awake_of (.inr (.inl rfl))
 | blk _ _=>exact awake_of (.inr (.inl rfl))
 | gone _ O=>exact awake_of (O.status.elim .inl fun x=> .inr (.inr x))
theorem OJ{g:Goroutine}(h:g.status= .running):{({g with status:= .blocked}:Goroutine) with status:= .running}=g:=by
 obtain⟨a,b,c,d,e⟩:=g;simp only at h;subst h;rfl
theorem Ch.woken{x:Nx}{r:Rk}{b:Bool}{o:Goroutine}{s:St}(h:Ch P F main x r b o s){g g':Goroutine}{w':World}{cl:Bool}{k:Nat}(Z:F.ChanAt w' cl k)(ak:cl=true→∀k,x≠ .ph (.BN k)):
  ∃aa,Ch P F main x r aa (Go.Conc.woken P g g' w' o) s∧(b=true→aa=true)∧(mayWake P g=true→g'.status= .running→(x= .ph .Cp∨cl=true)→aa=true):=by
 have hw:∀(o:Goroutine),mayWake P g=true→g'.status= .running→Go.Conc.woken P g g' w' o=o.again w':=by
  intro o K U;unfold Go.Conc.woken;rw [if_pos (by simp [K,U])]
 have W:∀(o:Goroutine),Go.Conc.woken P g g' w' o=o.again w'∨Go.Conc.woken P g g' w' o=o:=by
  intro o;unfold Go.Conc.woken;split
  ·exact .inl rfl
  ·exact .inr rfl
 cases h with
 | walk K U ab=>exact⟨true,by rw [woken_run ab.running];exact .walk K U ab,fun _=>rfl,fun _ _ _=>rfl⟩
 | again K hs=>exact⟨true,by rw [woken_run rfl];exact .again K hs,fun _=>rfl,fun _ _ _=>rfl⟩
 | @Dw am vs _ go _ z K hs=>
  cases cl with
  | false=>
   have:=again_recv_open (g:=go) (z:=z) (sh:= .recv true) (w:=w') Z;rcases W (parked go #[rcase F.ch z] (.recv true)) with e | e
   ·exact⟨false,by rw [e,this];exact .Dw K hs,fun e=>e,fun _ _ h=>by simp at h⟩
   ·exact⟨false,by rw [e];exact .Dw K hs,fun e=>e,fun _ _ h=>by simp at h⟩
  | true=>
   have:=again_recv_closed (g:=go) (z:=z) (sh:= .recv true) (w:=w') Z;by_cases O:mayWake P g=true∧g'.status= .running
   ·exact⟨true,by rw [hw _ O.1 O.2,this];exact .again K hs,fun e=>rfl,fun _ _ _=>rfl⟩
   ·rcases W (parked go #[rcase F.ch z] (.recv true)) with e | e
    ·exact⟨true,by rw [e,this];exact .again K hs,fun _=>rfl,fun a b=>absurd ⟨a,b⟩ O⟩
    ·exact⟨false,by rw [e];exact .Dw K hs,fun e=>e,fun a b=>absurd ⟨a,b⟩ O⟩
 | @DO k' _ go _ v z K U ae ag=>
  cases cl with
  | true=>exact absurd rfl (ak rfl k')
  | false=>
   have:=again_send_open (g:=go) (v:=v) (z:=z) (sh:= .send) (w:=w') Z;rcases W (parked go #[scase F.ch v z] .send) with e | e
   ·exact⟨false,by rw [e,this];exact .DO K U ae ag,fun e=>e,fun _ _ h=>by simp at h⟩
   ·exact⟨false,by rw [e];exact .DO K U ae ag,fun e=>e,fun _ _ h=>by simp at h⟩
 | @blk _ go _ K hs=>
  have ah:({go with status:= .blocked}:Goroutine).again w'=go:=by
   have:=hs.law.offers;have al:({go with status:= .blocked}:Goroutine).again w'={({go with status:= .blocked}:Goroutine) with status:= .running}:=by simp [Goroutine.again,this]
   rw [al];exact OJ hs.law.run
  have ai:Ch P F main (.ph .Cp) r true go s:= .walk (p:= .Cp) (by rw [K];rfl) (by simp [Fam.CI]) (Jr.at_ ⟨s,.refl _,hs⟩);by_cases O:mayWake P g=true∧g'.status= .running
  ·exact⟨true,by rw [hw _ O.1 O.2,ah];exact ai,fun _=>rfl,fun _ _ _=>rfl⟩
  ·rcases W ({go with status:= .blocked}:Goroutine) with e | e
   ·exact⟨true,by rw [e,ah];exact ai,fun _=>rfl,fun a b=>absurd ⟨a,b⟩ O⟩
   ·exact⟨false,by rw [e];exact .blk K hs,fun e=>e,fun a b=>absurd ⟨a,b⟩ O⟩
 | gone K aj=>exact⟨true,by rw [woken_quitsD aj];exact .gone K aj,fun _=>rfl,fun _ _ _=>rfl⟩
end
structure Base where
 N0:Nat
 t0:Nat
 E0:LH
 w0:World
structure Inv (P:Program) (F:Fam) (B:Base) (gs:Array Goroutine) (w:World) (t:Trace) (φ:Nat→Nx) (r:Nat→Rk) (bt:Nat→Bool) (S:Nat→St) (Sh:Nat→Prop) (j:Nat) (c:Bool) (v wt sm:Nat) (cl:Bool) (k:Nat):Prop where
 A5:BE F B.N0 gs.size j c φ v wt sm cl
 C6:CG F B.N0 B.t0 gs.size j c φ t
 C7:∀i g,gs[i]? =some g→Ch P F (i==0) (φ i) (r i) (bt i) g (S i)
 BW:BH t w gs.size S Sh
 FO:Sh F.wg
 El:Sh F.ch
 ne:F.wg≠F.ch
 wg:F.WG w v wt sm
 EU:F.ChanAt w cl k
 Jp:bt 0=false→cl=false∧∀i k',i<gs.size→φ i= .ph (.BN k')→bt i=true
 blk:c=true→bt (B.N0+F.n)=false→sm=0
 le:Le B.E0 (S 0).E
 tape:w.tape=B.w0.tape
 os:w.os=B.w0.os
 output:w.output=B.w0.output
def bit(b:Bool):Nat:=if b then 1 else 0
def mu(F:Fam)(N:Nat)(φ:Nat→Nx)(r:Nat→Rk)(bt:Nat→Bool):Mu:=(sumTo N fun i=>wt F.n (φ i),N,r,sumTo N fun i=>bit (bt i))
section
variable {P:Program}{F:Fam}{B:Base}{gs:Array Goroutine}{w w':World}{t:Trace}{φ:Nat→Nx}{r:Nat→Rk}{bt:Nat→Bool}{S:Nat→St}{Sh:Nat→Prop}{j:Nat}{c:Bool}{v wt' sm v₁ wt₁ sm₁:Nat}{cl cl₁:Bool}{k k₁:Nat}
theorem Inv.at_(h:Inv P F B gs w t φ r bt S Sh j c v wt' sm cl k)(d:Nat):Inv P F B gs (w.at d) t φ r bt S Sh j c v wt' sm cl k:=
 have K:BH t (w.at d) gs.size S Sh:=by
  have:=h.BW.mute (u:= #[]) (w':=w.at d) (g:=0) (by simp) (by simp) (by simp) rfl;simpa using this
 {h with BW:=K}
theorem Inv.go(h:Inv P F B gs w t φ r bt S Sh j c v wt' sm cl k){i:Nat}{g g':Goroutine}{es:Array Event}{x:Nx}{ρ:Rk}{s':St}(hi:gs[i]? =some g)
  (aq:BE F B.N0 gs.size j c (upd φ i x) v₁ wt₁ sm₁ cl₁)
  (ar:CG F B.N0 B.t0 gs.size j c (upd φ i x) (t++MemOp.ofEvents i g.frame.fn g.frame.place es))
  (au:Ch P F (i==0) x ρ true g' s')
  (hC:BH (t++MemOp.ofEvents i g.frame.fn g.frame.place es) w' gs.size (upd S i s') Sh)
  (av:F.WG w' v₁ wt₁ sm₁) (ak:F.ChanAt w' cl₁ k₁)
  (aw:cl₁=cl∨(mayWake P g=true∧g'.status= .running))
  (ay:cl₁=true→∀al k',al<gs.size→φ al≠ .ph (.BN k'))
  (az:sm₁=sm∨sm₁=0∨(mayWake P g=true∧g'.status= .running∧φ (B.N0+F.n)= .ph .Cp)∨(c=true→bt (B.N0+F.n)=true))
  (aA:i=0→Le (S 0).E s'.E) (aB:w'.tape=w.tape) (aC:w'.os=w.os) (aD:w'.output=w.output) (aN:∀k',x= .ph (.BN k')→φ i= .ph (.BN k')):
  ∃O,Inv P F B ((gs.map (woken P g g' w')).setIfInBounds i g') w' (t++MemOp.ofEvents i g.frame.fn g.frame.place es) (upd φ i x) (upd r i ρ) O (upd S i s') Sh j c v₁ wt₁ sm₁ cl₁ k₁:=by
 have aE:i<gs.size:=(Array.getElem?_eq_some_iff.1 hi).1;have ab:((gs.map (woken P g g' w')).setIfInBounds i g').size=gs.size:=by simp
 have am:∀a,∃aa,(a=i→aa=true)∧(a≠i→∀o,gs[a]? =some o→Ch P F (a==0) (φ a) (r a) aa (woken P g g' w' o) (S a)∧(bt a=true→aa=true)∧(mayWake P g=true→g'.status= .running→(φ a= .ph .Cp∨cl₁=true)→aa=true)):=by
  intro a;by_cases e:a=i
  ·exact⟨true,fun _=>rfl,fun q=>absurd e q⟩
  ·cases K:gs[a]? with
   | none=>exact⟨true,fun _=>rfl,fun _ o q=>by cases q⟩
   | some o=>
    have W:a<gs.size:=(Array.getElem?_eq_some_iff.1 K).1;obtain⟨aa,aF,aG,aH⟩:=(h.C7 a o K).woken (g:=g) (g':=g') ak fun q k'=>ay q a k' W;exact⟨aa,fun q=>absurd q e,fun _ o' q=>by cases q;exact⟨aF,aG,aH⟩⟩
 let O:Nat→Bool:=fun a=>Classical.choose (am a);have hb:∀a,(a=i→O a=true)∧(a≠i→∀o,gs[a]? =some o→Ch P F (a==0) (φ a) (r a) (O a) (woken P g g' w' o) (S a)∧(bt a=true→O a=true)∧(mayWake P g=true→g'.status= .running→(φ a= .ph .Cp∨cl₁=true)→O a=true)):=fun a=>Classical.choose_spec (am a);have ae:∀a,a<gs.size→bt a=true→O a=true:=by
  intro a W aI;by_cases e:a=i
  ·exact(hb a).1 e
  ·exact((hb a).2 e _ (Array.getElem?_eq_getElem W)).2.1 aI
 refine⟨O,by rw [ab];exact aq,by rw [ab];exact ar,fun a o K=>?_,by rw [ab];exact hC,h.FO,h.El,h.ne,av,ak,fun U=>⟨?_,fun a k' W an=>?_⟩,fun ag U=>?_,fun b o K=>?_,aB.trans h.tape,aC.trans h.os,aD.trans h.output⟩
 ·by_cases e:a=i
  ·subst e;rw [Array.getElem?_setIfInBounds_self_of_lt (by simpa using aE)] at K;obtain rfl:=Option.some.inj K;rw [upd_same,upd_same,upd_same,(hb a).1 rfl];exact au
  ·rw [Array.getElem?_setIfInBounds_ne (Ne.symm e),Array.getElem?_map] at K;obtain⟨o',aJ,rfl⟩:=Option.map_eq_some_iff.1 K;rw [upd_ne _ _ e,upd_ne _ _ e,upd_ne _ _ e];exact((hb a).2 e o' aJ).1
 ·have ah:0<gs.size:=by omega
  have aK:0≠i:=fun e=>by have:=(hb 0).1 e;rw [U] at this;cases this
  have Z:bt 0=false:=by
   cases q:bt 0 with
   | false=>rfl
   | true=>have:=ae 0 ah q;rw [U] at this;cases this
  cases ao:cl₁ with
  | false=>rfl
  | true=>
   rcases aw with e | ⟨ai,aj⟩
   ·have:=(h.Jp Z).1;rw [← e,ao] at this;cases this
   ·have:=((hb 0).2 aK _ (Array.getElem?_eq_getElem ah)).2.2 ai aj (.inr ao);rw [U] at this;cases this
 ·rw [ab] at W;have ah:0<gs.size:=by omega
  have Z:bt 0=false:=by
   cases q:bt 0 with
   | false=>rfl
   | true=>have:=ae 0 ah q;rw [U] at this;cases this
  by_cases e:a=i
  ·exact(hb a).1 e
  ·rw [upd_ne _ _ e] at an;exact ae a W ((h.Jp Z).2 a k' W an)
 ·have ap:B.N0+F.n<gs.size:=by have:=h.A5.size;have:=h.A5.cj ag;rw [ag] at*;simp at*;omega
  have aL:B.N0+F.n≠i:=fun e=>by have:=(hb _).1 e;rw [U] at this;cases this
  have Z:bt (B.N0+F.n)=false:=by
   cases q:bt (B.N0+F.n) with
   | false=>rfl
   | true=>have:=ae _ ap q;rw [U] at this;cases this
  rcases az with e | e | ⟨ai,aj,aM⟩ | e
  ·rw [e];exact h.blk ag Z
  ·exact e
  ·have:=((hb _).2 aL _ (Array.getElem?_eq_getElem ap)).2.2 ai aj (.inl aM);rw [U] at this;cases this
  ·rw [e ag] at Z;cases Z
 ·by_cases e:i=0
  ·subst e;rw [upd_same];exact aA rfl b o (h.le b o K)
  ·rw [upd_ne _ _ (Ne.symm e)];exact h.le b o K
end
end Pal
namespace Pal
open Go Go.Conc
open Go.ConcN (upd upd_same upd_ne sumTo sumTo_upd sumTo_upd_out sumTo_congr le_sumTo sumTo_le fork_knows RelBy)
def Over(P:Program)(F:Fam)(B:Base)(gs:Array Goroutine)(w:World)(t:Trace):Prop:=
 ∃q Sh g s,Em P gs w t q Sh g s∧F.fin g s∧Le B.E0 s.E∧w.tape=B.w0.tape∧w.os=B.w0.os∧w.output=B.w0.output
def Fh(P:Program)(F:Fam)(B:Base)(gs:Array Goroutine)(w:World)(sl:Option (Nat×Nat))(t:Trace)(i:Nat)(K:Mu):Prop:=
 ∃gs' w' O u,runT P (crowd gs w sl) i=(.next (crowd gs' w' O),u)∧
  ((∃φ r bt S Sh j c v wt' sm cl k,Inv P F B gs' w' (t++u) φ r bt S Sh j c v wt' sm cl k∧Mu.lt (mu F gs'.size φ r bt) K)∨Over P F B gs' w' (t++u))
section
variable {P:Program}{F:Fam}{B:Base}{gs:Array Goroutine}{w w':World}{sl:Option (Nat×Nat)}{t:Trace}{φ:Nat→Nx}{r:Nat→Rk}{bt:Nat→Bool}{S:Nat→St}{Sh:Nat→Prop}{j:Nat}{c:Bool}{v wt' sm v₁ wt₁ sm₁:Nat}{cl cl₁:Bool}{k k₁:Nat}
theorem NX{N:Nat}{φ K:Nat→Nx}{r U:Nat→Rk}{b W:Nat→Bool}{O:Nat}(h:(sumTo O fun i=>wt F.n (K i))<sumTo N fun i=>wt F.n (φ i)):Mu.lt (mu F O K U W) (mu F N φ r b):= .inl h
theorem R9{N i:Nat}{x:Nx}{ρ:Rk}{K:Nat→Bool}(hi:i<N)(h:wt F.n x<wt F.n (φ i)∨(wt F.n x=wt F.n (φ i)∧Rk.sub ρ (r i))):Mu.lt (mu F N (upd φ i x) (upd r i ρ) K) (mu F N φ r bt):=by
 have:=sumTo_upd φ x (wt F.n) hi;rcases h with h | ⟨W,O⟩
 ·exact .inl (by show(sumTo N fun a=>wt F.n (upd φ i x a))<sumTo N fun a=>wt F.n (φ a);omega)
 ·exact .inr ⟨by show(sumTo N fun a=>wt F.n (upd φ i x a))=sumTo N fun a=>wt F.n (φ a);omega,rfl,.inl ⟨i,hi,by show Rk.sub (upd r i ρ i) _;rw [upd_same];exact O,fun a U=>upd_ne _ _ U⟩⟩
theorem Inv.go'(h:Inv P F B gs w t φ r bt S Sh j c v wt' sm cl k){i:Nat}{g g':Goroutine}{es:Array Event}{x:Nx}{ρ:Rk}{s':St}(hi:gs[i]? =some g)(O:stepG P (i==0) g w= .go g' w' es)
  (U:BE F B.N0 gs.size j c (upd φ i x) v₁ wt₁ sm₁ cl₁)
  (W:CG F B.N0 B.t0 gs.size j c (upd φ i x) (t++MemOp.ofEvents i g.frame.fn g.frame.place es))
  (Z:Ch P F (i==0) x ρ true g' s')
  (hC:BH (t++MemOp.ofEvents i g.frame.fn g.frame.place es) w' gs.size (upd S i s') Sh)
  (aa:F.WG w' v₁ wt₁ sm₁) (ab:F.ChanAt w' cl₁ k₁)
  (ae:cl₁=cl∨(mayWake P g=true∧g'.status= .running))
  (ag:cl₁=true→∀K k',K<gs.size→φ K≠ .ph (.BN k'))
  (ah:sm₁=sm∨sm₁=0∨(mayWake P g=true∧g'.status= .running∧φ (B.N0+F.n)= .ph .Cp)∨(c=true→bt (B.N0+F.n)=true))
  (ai:i=0→Le (S 0).E s'.E) (aj:w'.tape=w.tape) (ak:w'.os=w.os) (al:w'.output=w.output) (am:∀k',x= .ph (.BN k')→φ i= .ph (.BN k'))
  (hm:wt F.n x<wt F.n (φ i)∨(wt F.n x=wt F.n (φ i)∧Rk.sub ρ (r i))):Fh P F B gs w sl t i (mu F gs.size φ r bt):=by
 obtain⟨ap,an⟩:=h.go hi U W Z hC aa ab ae ag ah ai aj ak al am;refine⟨_,_,_,_,runT_crowd_go hi O,.inl ⟨_,_,_,_,_,_,_,_,_,_,_,_,an,?_⟩⟩;have ao:((gs.map (woken P g g' w')).setIfInBounds i g').size=gs.size:=by simp
 rw [ao];exact R9 (Array.getElem?_eq_some_iff.1 hi).1 hm
theorem Inv.noSend(h:Inv P F B gs w t φ r bt S Sh j c v wt' sm cl k)(Z:cl=true):∀K k',K<gs.size→φ K≠ .ph (.BN k'):=by
 intro K k' U e;have hm:=h.A5.mode;subst Z;have aa:v=0:=by
  split at hm
  ·cases W:φ (B.N0+F.n) with
   | gone d=>rw [W] at hm;exact hm.2.2.2.2.1
   | ph p=>rw [W] at hm;cases p <;> simp [BZ] at hm
  ·simp [BZ] at hm
 have ab:=h.A5.cnt;have:=le_sumTo (f:=fun a=>cU (φ a)) U;simp only [e,cU] at this;have ae:(sumTo gs.size fun a=>cU (φ a))=0:=by omega
 have O:cU (φ K)≤sumTo gs.size fun a=>cU (φ a):=le_sumTo (f:=fun a=>cU (φ a)) U;rw [e] at O;simp only [cU] at O;have ag:1≤sumTo gs.size fun a=>cU (φ a):=O;omega
theorem CG.Qv{F:Fam}{N0 t0 N j:Nat}{c:Bool}{φ:Nat→Nx}{t:Trace}(h:CG F N0 t0 N j c φ t)(K:BE F N0 N j c φ v wt' sm cl){i:Nat}(hi:i<N){fn:FuncId}{pos:String}{es:Array Event}{p:Ph}(W:φ i= .ph p)
  (Z:∀e∈es,(∀a b,(MemAct.ofEvent e).touch? =some a→Cx a.loc=some b→b≠F.wg∧b≠F.ch)∧e.loc≠ .mark (.release F.sA)∧e.loc≠ .mark .disable∧e.loc≠ .mark .enable)
  (ae:Fam.CI p=true→es= #[]):CG F N0 t0 N j c φ (t++MemOp.ofEvents i fn pos es):=by
 have ag:i=0∨N0≤i:=by
  rcases K.DF hi with rfl | ⟨a,b⟩ | ⟨k,ab,rfl⟩ | ⟨U,rfl⟩
  ·exact .inl rfl
  ·have:=K.old i a b;rw [W] at this;exact this.elim
  ·exact .inr (by omega)
  ·exact .inr (by omega)
 have:=h.app (x:=φ i) (fn:=fn) (pos:=pos) (es:=es) hi K.jn (deafBehind_still (fun e he=>⟨(Z e he).2.2.1,(Z e he).2.2.2⟩) _) (fun e he=>⟨fun a b ah hb ai=>absurd ai (by have:=(Z e he).1 a b ah hb;rintro(q | q);exact this.1 q;exact this.2 q),(Z e he).2.1⟩) (.inl ag)
  (fun U O=>K.IF U O) (fun k ab e aa ρ aj=>?_) (fun k ab e aa ak=>absurd aa ak) (fun U e O=> .inr O) (fun U e O=>by rw [W] at O;exact O.elim)
 ·rwa [J0] at this
 ·
  have am:=K.size;have an:=K.jn;have al:k<j:=by
   rcases K.DF hi with q | ⟨a,b⟩ | ⟨k',ao,q⟩ | ⟨U,q⟩
   ·have:=K.pos;omega
   ·omega
   ·omega
   ·omega
  have hw:=K.work k al;rw [← e,W] at hw;rw [W] at aa;have:es= #[]:=ae (by cases p <;> simp only [FE] at hw <;> (try exact hw.elim) <;> first | rfl | exact aa.elim)
  subst this;have:MemOp.ofEvents i fn pos #[]= #[]:=by rw [ofEvents_eq];simp
  rw [this];simpa using aj
theorem Inv.own(h:Inv P F B gs w t φ r bt S Sh j c v wt' sm cl k){i:Nat}{g g':Goroutine}{es:Array Event}{p:Ph}{ρ:Rk}{s':St}(hi:gs[i]? =some g)(O:φ i= .ph p)(ah:(i==0)=Fam.Cr p)(ab:Fam.CI p=true→S i= .quiet)
  (ai:stepG P (i==0) g w= .go g' w' es) (aj:Jr P (i==0) (JQ (Stop P F p)) ρ g' s') (ak:Fits s' w') (K:Fr (S i) w s' w') (W:∀e∈es,Ev (S i) w w' e) (ae:S i= .quiet→s'= .quiet∧w'=w∧es= #[]) (al:Rk.sub ρ (r i)):
  Fh P F B gs w sl t i (mu F gs.size φ r bt):=by
 have U:i<gs.size:=(Array.getElem?_eq_some_iff.1 hi).1;have ag:upd φ i (.ph p)=φ:=by rw [← O];exact J0 _ _
 have Z:=h.BW.sh i U F.wg h.FO;have aa:=h.BW.sh i U F.ch h.El;have am:=h.BW.Dy F.wg h.FO;have an:=h.BW.Dy F.ch h.El;have ao:∀b wr,D2 (S i) w w' b wr→b≠F.wg∧b≠F.ch:=by
  intro b wr ht;constructor
  ·rintro rfl;rcases ht.2 with q | q | ⟨q,_⟩
   ·exact q Z.1
   ·omega
   ·exact q Z.2
  ·rintro rfl;rcases ht.2 with q | q | ⟨q,_⟩
   ·exact q aa.1
   ·omega
   ·exact q aa.2
 refine h.go' hi ai (k₁:=k) (x:= .ph p) (ρ:=ρ) (s':=s') (by rw [ag];exact h.A5) (by
   rw [ag]
   refine h.C6.Qv h.A5 U O (fun e he=>⟨fun a b ap hb=>ao b a.write (Iy (W e he) ap hb),?_,?_,?_⟩) fun q=>(ae (ab q)).2.2
   all_goals
    intro aq
    have:=W e he
    unfold Ev at this
    rw [aq] at this
    exact this)
  (.walk ah (fun q=>(ae (ab q)).1) aj) (h.BW.own U ak K W) ?_ ?_ (.inl rfl) (fun q=>h.noSend q) (.inl rfl) (fun e=>by subst e;exact fun b o ar=>K.ext b o ar) K.tape K.os K.output (fun k' e=>by rw [O];exact e) (.inr ⟨by rw [O],al⟩)
 ·show w'.heap[F.wg]? =_;rw [K.keep _ am Z.1];exact h.wg
 ·show w'.heap[F.ch]? =_;rw [K.keep _ an aa.1];exact h.EU
theorem Inv.slip(h:Inv P F B gs w t φ r bt S Sh j c v wt' sm cl k){i:Nat}{g:Goroutine}(hi:gs[i]? =some g)(U:g.status= .running){d q:Nat}(K:φ i= .gone d)(W:r i=chain q)(Z:(i==0)=false)(ae:QuitsD P q d g)(ak:S i= .quiet):
  Fh P F B gs w sl t i (mu F gs.size φ r bt):=by
 have ag:i<gs.size:=(Array.getElem?_eq_some_iff.1 hi).1;cases q with
 | zero=>rw [ae.1] at U;cases U
 | succ q=>
  rcases ae with⟨al,_⟩ | ⟨_,g',es,hm,am,an⟩
  ·rw [al] at U;cases U
  have ao:∀op∈MemOp.ofEvents i g.frame.fn g.frame.place es,op.act.touch? =none:=fun op O=>by obtain⟨e,he,rfl⟩:=mem_ofEvents O;exact touch_mute (hm e he)
  have ap:∀e∈es,e.loc≠ .mark (.release F.sA):=by
   intro e he ah;have:=hm e he;obtain⟨loc,wr,av⟩:=e;simp only at ah;subst ah;simp [Event.mute] at this
  refine h.go' hi (by rw [Z];exact am w) (x:= .gone (deafBehind d es)) (ρ:=chain q) (s':= .quiet) (h.A5.leave ag K) ?_ (.gone Z an) ?_ h.wg h.EU (.inl rfl) (fun q=>h.noSend q) (.inl rfl) (fun e=>by subst e;simp at Z) rfl rfl rfl (by simp) (.inr ⟨by rw [K];rfl,by rw [W];exact PH q w⟩)
  ·refine h.C6.app ag h.A5.jn (by rw [K];rfl) (fun e he=>⟨fun a b ai=>(by rw [touch_mute (hm e he)] at ai;cases ai),ap e he⟩) (.inr fun e he=>touch_mute (hm e he)) (fun aa ab=>h.A5.IF aa ab) (fun k aq e ar ρ W=>?_) (fun k aq e ar aj=>by rw [K] at aj;exact absurd trivial aj) (fun aa e ab=> .inr (.inr (by rw [K];trivial))) (fun aa e ab=> .inr ⟨by rw [K];trivial,fun e he=>touch_mute (hm e he)⟩);exact W.appOwn _ _ es fun m e he=> .inl (touch_mute (hm e (Array.mem_of_getElem? he)))
  ·have au:upd S i .quiet=S:=by rw [← ak];exact J0 _ _
   rw [au];exact h.BW.mute (g:=i) (fun op O=>by obtain⟨e,_,rfl⟩:=mem_ofEvents O;rfl) ao (fun op O=>by obtain⟨e,he,rfl⟩:=mem_ofEvents O;exact low_mute (hm e he) _) rfl
theorem BE.enabled{N0 N:Nat}(h:BE F N0 N j c φ v wt' sm cl){i:Nat}(hi:i<N){p:Ph}(K:φ i= .ph p)(am:∀k,p≠ .BN k)(an:∀k,p≠ .Dp k)(ao:p≠ .DT)(ap:∀aq vs,p≠ .BF aq vs)(ar:p≠ .Cw)(au:p= .Cp→sm=1):
  ∃v' w' sm' es nx,F.act p v wt' sm=some ((v',w',sm'),es,nx):=by
 have hm:=h.mode;have az:=h.Oh;have aA:=h.F9;have O:=h.cnt;have aa:cU (φ i)≤sumTo N fun a=>cU (φ a):=le_sumTo (f:=fun a=>cU (φ a)) hi;have ab:cL (φ i)≤sumTo N fun a=>cL (φ a):=le_sumTo (f:=fun a=>cL (φ a)) hi;have ai:cS (φ i)≤sumTo N fun a=>cS (φ a):=le_sumTo (f:=fun a=>cS (φ a)) hi;rw [K] at aa ab ai;have av:wt'≤1:=by
  generalize (if c=true then φ (N0+F.n) else Nx.ph .B9)=y at hm
  cases y with
  | gone d=>simp only [BZ] at hm;omega
  | ph q=>cases q <;> simp only [BZ] at hm <;> (try exact hm.elim) <;> omega
 have ae:1≤(sumTo N fun a=>cL (φ a))+(sumTo N fun a=>cS (φ a))→v=0∧sm=0∧wt'=sumTo N fun a=>cL (φ a):=by
  intro hh;generalize (if c=true then φ (N0+F.n) else Nx.ph .B9)=y at hm
  cases y with
  | gone d=>simp only [BZ] at hm;omega
  | ph q=>cases q <;> simp only [BZ] at hm <;> (try exact hm.elim) <;> omega
 have ag:∀x,φ i= .ph x→Fi (.ph x)→c=true∧(if c=true then φ (N0+F.n) else Nx.ph .B9)= .ph x:=by
  intro x W aj;rcases h.DF hi with rfl | ⟨a,b⟩ | ⟨k,ah,rfl⟩ | ⟨O,rfl⟩
  ·obtain⟨q,U,Z⟩:=h.main;rw [W] at U;cases U;cases x <;> simp [Fb] at Z <;> exact aj.elim
  ·have:=h.old i a b;rw [W] at this;exact this.elim
  ·have:=h.work k ah;rw [W] at this;cases x <;> simp [FE] at this <;> exact aj.elim
  ·exact⟨O,by rw [if_pos O];exact W⟩
 cases p <;> simp only [Fam.act]
 ·exact absurd rfl (am _)
 ·exact⟨_,_,_,_,_,rfl⟩
 ·exact⟨_,_,_,_,_,rfl⟩
 ·simp only [cU] at aa;have:1≤v:=by
   have aB:1≤sumTo N fun a=>cU (φ a):=aa;omega
  rw [if_pos ⟨this,by omega,av⟩];exact⟨_,_,_,_,_,rfl⟩
 ·have aw:1≤sumTo N fun a=>cL (φ a):=ab;have:=ae (by omega);rw [if_pos ⟨this.1,by omega⟩];exact⟨_,_,_,_,_,rfl⟩
 ·have aw:1≤sumTo N fun a=>cL (φ a):=ab;have:=ae (by omega);rw [if_pos ⟨this.1,by omega⟩];exact⟨_,_,_,_,_,rfl⟩
 ·have aC:1≤sumTo N fun a=>cS (φ a):=ai;have:=ae (by omega);rw [if_pos this.2.1];exact⟨_,_,_,_,_,rfl⟩
 ·exact⟨_,_,_,_,_,rfl⟩
 ·obtain⟨ak,e⟩:=ag _ K trivial;rw [e] at hm;rw [if_pos ⟨hm.2.2.2.2.2,hm.2.2.2.1⟩];exact⟨_,_,_,_,_,rfl⟩
 ·obtain⟨ak,e⟩:=ag _ K trivial;rw [e] at hm;rw [if_pos ⟨hm.2.2.2.2.2.1,hm.2.2.2.2.2.2,hm.2.2.2.1⟩];split <;> exact⟨_,_,_,_,_,rfl⟩
 ·exact⟨_,_,_,_,_,rfl⟩
 ·rw [if_pos (au rfl)];exact⟨_,_,_,_,_,rfl⟩
 ·obtain⟨ak,e⟩:=ag _ K trivial;rw [e] at hm;rw [if_pos ⟨hm.2.2.2.2.1,hm.2.2.2.1⟩];exact⟨_,_,_,_,_,rfl⟩
 ·exact⟨_,_,_,_,_,rfl⟩
 ·exact⟨_,_,_,_,_,rfl⟩
 ·exact absurd rfl ar
 ·exact⟨_,_,_,_,_,rfl⟩
 ·have ay:c=false∧v≤j∧j<F.n:=by
   rcases h.DF hi with rfl | ⟨a,b⟩ | ⟨k,ah,rfl⟩ | ⟨O,rfl⟩
   ·obtain⟨q,U,Z⟩:=h.main;rw [K] at U;cases U;have al:=h.FN;rw [K] at al;exact⟨Z.2.2,by simpa [pend] using al,Z.2.1⟩
   ·have:=h.old i a b;rw [K] at this;exact this.elim
   ·have:=h.work k ah;rw [K] at this;exact this.elim
   ·have:=h.cls O;rw [K] at this;exact this.elim
  rw [ay.1] at hm;simp only [Bool.false_eq_true,if_false,BZ] at hm;rw [if_pos ⟨by omega,hm.2.2.2.1⟩];exact⟨_,_,_,_,_,rfl⟩
 ·exact⟨_,_,_,_,_,rfl⟩
 ·exact⟨_,_,_,_,_,rfl⟩
 ·exact absurd rfl (an _)
 ·exact absurd rfl ao
 ·exact absurd rfl (ap _ _)
 all_goals exact⟨_,_,_,_,_,rfl⟩
end
end Pal
namespace Pal
open Go Go.Conc
open Go.ConcN (upd upd_same upd_ne sumTo sumTo_upd sumTo_upd_out sumTo_congr le_sumTo sumTo_le fork_knows RelBy)
theorem Kd{α:Type}(f:Nat→α)(i:Nat)(x y:α):upd (upd f i x) i y=upd f i y:=by
 funext a;unfold upd;split <;> rfl
section
variable {P:Program}{F:Fam}{B:Base}{gs:Array Goroutine}{w w':World}{sl:Option (Nat×Nat)}{t:Trace}{φ:Nat→Nx}{r:Nat→Rk}{bt:Nat→Bool}{S:Nat→St}{Sh:Nat→Prop}{j:Nat}{c:Bool}{v wt' sm v₁ wt₁ sm₁:Nat}{cl cl₁:Bool}{k k₁:Nat}
theorem Rt{p:Ph}{es:Array Event}{nx:Nx}(K:F.act p v wt' sm=some ((v₁,wt₁,sm₁),es,nx)):
  (∀q,nx= .ph q→Fam.Cr q=Fam.Cr p∧(Fam.CI q=true→p= .Ej∨Fam.CI p=true))∧(∀k,nx≠ .ph (.BN k))∧(sm₁=sm∨sm₁=0∨p= .C5)∧(∀d,nx= .gone d→Fam.Cr p=false):=by
 cases p <;> simp only [Fam.act] at K <;> (try (cases K;done))
 ·cases K;exact⟨fun q e=>by cases e;exact⟨rfl,fun _=> .inl rfl⟩,by simp,.inl rfl,by simp⟩
 ·cases K;exact⟨fun q e=>by cases e;exact⟨rfl,fun _=> .inr rfl⟩,by simp,.inl rfl,by simp⟩
 ·split at K
  ·cases K;refine⟨fun q e=>?_,?_,.inl rfl,fun _ _=>rfl⟩
   ·split at e
    ·cases e;exact⟨rfl,fun _=> .inr rfl⟩
    ·cases e
   ·intro k;split <;> simp
  ·cases K
 ·split at K
  ·cases K;exact⟨fun q e=>by cases e;exact⟨rfl,fun _=> .inr rfl⟩,by simp,.inl rfl,by simp⟩
  ·cases K
 ·split at K
  ·cases K;exact⟨fun q e=>by cases e;exact⟨rfl,fun _=> .inr rfl⟩,by simp,.inl rfl,by simp⟩
  ·cases K
 ·split at K
  ·cases K;exact⟨fun q e=>(by cases e),by simp,.inr (.inr rfl),fun _ _=>rfl⟩
  ·cases K
 ·cases K;exact⟨fun q e=>by cases e;exact⟨rfl,fun h=>by cases h⟩,by simp,.inl rfl,by simp⟩
 ·split at K
  ·cases K;refine⟨fun q e=>?_,?_,.inl rfl,?_⟩
   ·split at e <;> cases e <;> exact⟨rfl,fun h=>by cases h⟩
   ·intro k;split <;> simp
   ·intro d;split <;> simp
  ·cases K
 ·split at K
  ·split at K
   ·cases K;exact⟨fun q e=>by cases e;exact⟨rfl,fun h=>by cases h⟩,by simp,.inl rfl,by simp⟩
   ·cases K;exact⟨fun q e=>by cases e;exact⟨rfl,fun h=>by cases h⟩,by simp,.inl rfl,by simp⟩
  ·cases K
 ·cases K;exact⟨fun q e=>by cases e;exact⟨rfl,fun h=>by cases h⟩,by simp,.inl rfl,by simp⟩
 ·split at K
  ·cases K;exact⟨fun q e=>by cases e;exact⟨rfl,fun h=>by cases h⟩,by simp,.inr (.inl rfl),by simp⟩
  ·cases K
 ·split at K
  ·cases K;exact⟨fun q e=>by cases e;exact⟨rfl,fun h=>by cases h⟩,by simp,.inl rfl,by simp⟩
  ·cases K
 ·cases K;exact⟨fun q e=>by cases e;exact⟨rfl,fun h=>by cases h⟩,by simp,.inl rfl,by simp⟩
 ·cases K;exact⟨fun q e=>by cases e;exact⟨rfl,fun h=>by cases h⟩,by simp,.inl rfl,by simp⟩
 ·cases K;exact⟨fun q e=>by cases e;exact⟨rfl,fun h=>by cases h⟩,by simp,.inl rfl,by simp⟩
 ·split at K
  ·cases K;refine⟨fun q e=>?_,?_,.inl rfl,?_⟩
   ·split at e <;> cases e <;> exact⟨rfl,fun h=>by cases h⟩
   ·intro k;split <;> simp
   ·intro d;split <;> simp
  ·cases K
 ·cases K;exact⟨fun q e=>by cases e;exact⟨rfl,fun h=>by cases h⟩,by simp,.inl rfl,by simp⟩
 all_goals
  cases K;exact⟨fun q e=>by cases e;exact⟨rfl,fun h=>by cases h⟩,by simp,.inl rfl,by simp⟩
theorem Qg(w:World)(v wt sm:Nat):(F.put w v wt sm).heap.size=w.heap.size:=by simp [Fam.put]
theorem Nc(w:World)(v wt sm:Nat){b:Nat}(h:b≠F.wg):(F.put w v wt sm).heap[b]? =w.heap[b]? :=by simp [Fam.put,Array.getElem?_setIfInBounds_ne (Ne.symm h)]
theorem NS(w:World)(v wt sm:Nat)(h:F.wg<w.heap.size):F.WG (F.put w v wt sm) v wt sm:=by simp [Fam.WG,Fam.put,h]
theorem Inv.act(h:Inv P F B gs w t φ r bt S Sh j c v wt' sm cl k){i:Nat}{g:Goroutine}(hi:gs[i]? =some g){p:Ph}(Z:φ i= .ph p)(U:(i==0)=Fam.Cr p){s₀:St}(al:B4 (S i) s₀)(hs:Stop P F p g s₀)
  {es:Array Event} {nx:Nx} (O:F.act p v wt' sm=some ((v₁,wt₁,sm₁),es,nx)):Fh P F B gs w sl t i (mu F gs.size φ r bt):=by
 have aa:i<gs.size:=(Array.getElem?_eq_some_iff.1 hi).1;obtain⟨g',aA,aB,am⟩:=hs.law.act _ _ _ _ _ _ _ _ O;obtain⟨n1,an,aC,aD⟩:=Rt O;have ab:=h.BW.Dy F.wg h.FO;have ao:=h.A5.act aa Z O;obtain⟨ap,aq,aE⟩:=h.C6.act h.A5 aa Z O g.frame.fn g.frame.place;have aF:BH t w gs.size (upd S i s₀) Sh:=h.BW.ghost aa al;have ae:BH (t++MemOp.ofEvents i g.frame.fn g.frame.place es) (F.put w v₁ wt₁ sm₁) gs.size (upd S i s₀) Sh:=by
  refine aF.ext (h.C6.noRace h.BW.clean aa aE aq) (fun op ag a aG b hb=>?_) (fun op ag=>?_) (Qg ..) (fun b hb=>Nc _ _ _ _ fun e=>hb (e▸h.FO))
  ·obtain⟨e,he,rfl⟩:=mem_ofEvents ag;obtain⟨⟨aN,ar,aH⟩,_⟩:=(aq e he).1 a aG;rw [hb] at ar;cases ar;rcases aH with rfl | rfl
   ·exact h.FO
   ·exact h.El
  ·obtain⟨e,he,rfl⟩:=mem_ofEvents ag;exact(NN p O).2.2 e he _ ab
 have au:stepG P (i==0) g w= .go g' (F.put w v₁ wt₁ sm₁) es:=by rw [U];exact aA w h.wg
 have av:F.ChanAt (F.put w v₁ wt₁ sm₁) cl k:=by show(F.put w v₁ wt₁ sm₁).heap[F.ch]? =_;rw [Nc _ _ _ _ (Ne.symm h.ne)];exact h.EU
 have aw:sm₁=sm∨sm₁=0∨(mayWake P g=true∧g'.status= .running∧φ (B.N0+F.n)= .ph .Cp)∨(c=true→bt (B.N0+F.n)=true):=by
  rcases aC with q | q | q
  ·exact .inl q
  ·exact .inr (.inl q)
  ·subst q;have aI:=hs.law.EL (.inl rfl);by_cases e:φ (B.N0+F.n)= .ph .Cp
   ·exact .inr (.inr (.inl ⟨aI,aB,e⟩))
   ·refine .inr (.inr (.inr fun ah=>?_));have aJ:B.N0+F.n<gs.size:=by have ay:=h.A5.size;have aO:=h.A5.cj ah;rw [ah] at ay;simp at ay;omega
    obtain⟨o,K⟩:∃o,gs[B.N0+F.n]? =some o:=⟨_,Array.getElem?_eq_getElem aJ⟩;have W:=h.C7 _ _ K;generalize r (B.N0+F.n)=aP at W;generalize S (B.N0+F.n)=aQ at W;have ai:=h.A5.cls ah;generalize hb:bt (B.N0+F.n)=b at W ⊢;generalize aR:φ (B.N0+F.n)=x at W ai e;cases W with
    | walk _ _ _=>rfl
    | again _ _=>rfl
    | Dw _ _=>exact ai.elim
    | DO _ _ _ _=>exact ai.elim
    | blk _ _=>exact absurd rfl e
    | gone _ _=>rfl
 cases nx with
 | ph q=>
  obtain⟨aK,aL⟩:=n1 q rfl;obtain⟨ρ,aM⟩:=am;have aj:BH (t++MemOp.ofEvents i g.frame.fn g.frame.place es) (F.put w v₁ wt₁ sm₁) gs.size (upd S i (Fam.ED p s₀)) Sh:=by
   by_cases e:p= .Ej
   ·subst e;have:=ae.less (i:=i) (s':= .quiet) (fun b o K=>by cases K) (fun b o K=>by cases K)
    rwa [Kd] at this
   ·have:Fam.ED p s₀=s₀:=by cases p <;> first | rfl | exact absurd rfl e
    rw [this];exact ae
  refine h.go' hi au ao ap (x:= .ph q) (ρ:=ρ) (s':=Fam.ED p s₀) (.walk (by rw [U,aK]) (fun ak=>?_) (by rw [U];exact aM)) aj (NS _ _ _ _ ab) av (.inl rfl) (fun e=>h.noSend e) aw (fun e=>?_) rfl rfl rfl (fun k' e=>absurd e (an k')) (.inl (by rw [Z];exact Nv O))
  ·rcases aL ak with e | e
   ·subst e;rfl
   ·have:Fam.ED p s₀=s₀:=by cases p <;> first | rfl | cases e
    rw [this];exact hs.law.quiet e
  ·have:Fam.ED p s₀=s₀:=by
    cases p <;> first | rfl | (subst e;simp [Fam.Cr] at U)
   rw [this];subst e;exact fun b o K=>al.ext b o K
 | gone d=>
  obtain⟨q,ak⟩:=am;have az:(i==0)=false:=by rw [U];exact aD d rfl
  have aj:BH (t++MemOp.ofEvents i g.frame.fn g.frame.place es) (F.put w v₁ wt₁ sm₁) gs.size (upd S i .quiet) Sh:=by
   have:=ae.less (i:=i) (s':= .quiet) (fun b o K=>by cases K) (fun b o K=>by cases K)
   rwa [Kd] at this
  exact h.go' hi au ao ap (x:= .gone d) (ρ:=chain q) (s':= .quiet) (.gone az ak) aj (NS _ _ _ _ ab) av (.inl rfl) (fun e=>h.noSend e) aw (fun e=>by subst e;simp at az) rfl rfl rfl (fun k' e=>absurd e (an k')) (.inl (by rw [Z];exact Nv O))
theorem OM{g g' o:Goroutine}(h:g'.status= .blocked):woken P g g' w o=o:=by
 unfold woken;rw [if_neg (by simp [h])]
theorem Inv.rest(h:Inv P F B gs w t φ r bt S Sh j c v wt' sm cl k){i:Nat}{g':Goroutine}{u:Trace}{s₀:St}(ae:i<gs.size)(am:bt i=true)(ai:B4 (S i) s₀)(an:Ch P F (i==0) (φ i) (r i) false g' s₀)(hu:u= #[])
  (ao:i=0→cl=false∧∀a k',a<gs.size→φ a= .ph (.BN k')→bt a=true) (hsend:∀k',φ i= .ph (.BN k')→bt 0=true) (ap:c=true→i=B.N0+F.n→sm=0):
  ∃aj,Inv P F B (gs.setIfInBounds i g') w (t++u) φ r aj (upd S i s₀) Sh j c v wt' sm cl k∧Mu.lt (mu F (gs.setIfInBounds i g').size φ r aj) (mu F gs.size φ r bt):=by
 subst hu;have O:(gs.setIfInBounds i g').size=gs.size:=by simp
 have aq:t++(#[]:Trace)=t:=by simp
 have ab:∀{a},a≠i→upd bt i false a=bt a:=fun e=>upd_ne _ _ e;rw [aq];refine⟨upd bt i false,⟨by rw [O];exact h.A5,by rw [O];exact h.C6,fun a o U=>?_,by rw [O];exact h.BW.ghost ae ai,h.FO,h.El,h.ne,h.wg,h.EU,fun K=>?_,fun ak K=>?_,?_,h.tape,h.os,h.output⟩,?_⟩
 ·by_cases e:a=i
  ·subst e;rw [Array.getElem?_setIfInBounds_self_of_lt ae] at U;obtain rfl:=Option.some.inj U;rw [upd_same,upd_same];exact an
  ·rw [Array.getElem?_setIfInBounds_ne (Ne.symm e)] at U;rw [upd_ne _ _ e,upd_ne _ _ e];exact h.C7 a o U
 ·by_cases e:0=i
  ·subst e;obtain⟨ag,ah⟩:=ao rfl;refine⟨ag,fun a k' W Z=>?_⟩;rw [O] at W;by_cases aa:a=0
   ·subst aa;obtain⟨p,al,hm⟩:=h.A5.main;rw [Z] at al;cases al;exact hm.elim
   ·rw [ab aa];exact ah a k' W Z
  ·rw [ab e] at K;obtain⟨ag,ah⟩:=h.Jp K;refine⟨ag,fun a k' W Z=>?_⟩;rw [O] at W;by_cases aa:a=i
   ·subst aa;rw [hsend k' Z] at K;cases K
   ·rw [ab aa];exact ah a k' W Z
 ·by_cases e:B.N0+F.n=i
  ·exact ap ak e.symm
  ·rw [ab e] at K;exact h.blk ak K
 ·by_cases e:0=i
  ·subst e;rw [upd_same];exact fun b o U=>ai.ext b o (h.le b o U)
  ·rw [upd_ne _ _ e];exact h.le
 ·rw [O];have:=sumTo_upd bt false bit ae;rw [am] at this;exact .inr ⟨rfl,rfl,.inr ⟨rfl,by show(sumTo gs.size fun a=>bit (upd bt i false a))<sumTo gs.size fun a=>bit (bt a);simp only [bit] at this ⊢;simp only [if_true,Bool.false_eq_true,if_false] at this;omega⟩⟩
theorem Inv.block(h:Inv P F B gs w t φ r bt S Sh j c v wt' sm cl k){i:Nat}{g:Goroutine}(hi:gs[i]? =some g)(O:φ i= .ph .Cp)(W:bt i=true)(K:(i==0)=false){s₀:St}(Z:B4 (S i) s₀)(hs:Stop P F .Cp g s₀)(aa:sm=0):
  Fh P F B gs w sl t i (mu F gs.size φ r bt):=by
 have ab:i<gs.size:=(Array.getElem?_eq_some_iff.1 hi).1;subst aa;have ae:=hs.law.C8 rfl w v wt' h.wg;have U:=runT_crowd_go (P:=P) (sl:=sl) (i:=i) hi (by rw [K];exact ae);have ag:(gs.map (woken P g {g with status:= .blocked} w)).setIfInBounds i {g with status:= .blocked}=gs.setIfInBounds i {g with status:= .blocked}:=by
  have:(woken P g {g with status:= .blocked} w)=id:=by funext o;exact OM rfl
  rw [this,Array.map_id]
 rw [ag] at U;obtain⟨aj,ah,ai⟩:=h.rest (g':={g with status:= .blocked}) (u:=MemOp.ofEvents i g.frame.fn g.frame.place #[]) ab W Z (by rw [O];exact .blk K hs) (by rw [ofEvents_eq];simp) (fun e=>by subst e;simp at K) (fun k' e=>by rw [O] at e;cases e) (fun _ _=>rfl);exact⟨_,_,_,_,U,.inl ⟨_,_,_,_,_,_,_,_,_,_,_,_,ah,ai⟩⟩
theorem Inv.close(h:Inv P F B gs w t φ r bt S Sh j c v wt' sm cl k){i:Nat}{g:Goroutine}(hi:gs[i]? =some g)(K:φ i= .ph .Cw)(ae:(i==0)=false){s₀:St}(hs:Stop P F .Cw g s₀):
  Fh P F B gs w sl t i (mu F gs.size φ r bt):=by
 have Z:i<gs.size:=(Array.getElem?_eq_some_iff.1 hi).1;have aq:c=true∧i=B.N0+F.n:=by
  rcases h.A5.DF Z with rfl | ⟨a,b⟩ | ⟨k',ar,rfl⟩ | q
  ·simp at ae
  ·have:=h.A5.old i a b;rw [K] at this;exact this.elim
  ·have:=h.A5.work k' ar;rw [K] at this;exact this.elim
  ·exact q
 obtain⟨O,rfl⟩:=aq;have au:cl=false:=by
  have hm:=h.A5.mode;rw [if_pos O,K] at hm;exact hm.2.2.2.2.2
 subst au;have aJ:v=0:=by
  have hm:=h.A5.mode;rw [if_pos O,K] at hm;exact hm.2.2.2.2.1
 obtain⟨g',av,aw,q,ay⟩:=hs.law.close rfl;have ai:=h.BW.Dy F.ch h.El;have az:=hs.law.EL (.inr rfl);have aA:MemOp.ofEvents (B.N0+F.n) g.frame.fn g.frame.place (closeEvents F.ch)= #[{g:=B.N0+F.n,fn:=g.frame.fn,pos:=g.frame.place,act:= .access ⟨.obj F.ch,false,true⟩},{g:=B.N0+F.n,fn:=g.frame.fn,pos:=g.frame.place,act:= .close F.ch}]:=by
  simp [MemOp.ofEvents,closeEvents,MemAct.ofEvent]
 have aj:∀b,b≠F.ch→(w.setChan F.ch 0 #[] true k k false).heap[b]? =w.heap[b]? :=fun b hb=>by simp [World.setChan,Array.getElem?_setIfInBounds_ne (Ne.symm hb)]
 have ak:∀e∈closeEvents F.ch,∀a,(MemAct.ofEvent e).touch? =some a→a=⟨.obj F.ch,false,.atomic⟩:=by
  intro e he a U;simp only [closeEvents,List.mem_toArray,List.mem_cons,List.not_mem_nil,or_false] at he;rcases he with rfl | rfl
  ·simp [MemAct.ofEvent,MemAct.touch?] at U;exact U.symm
  ·simp [MemAct.ofEvent,MemAct.touch?] at U
 have aa:∀e∈closeEvents F.ch,EvS F (B.N0+F.n=if c=true then B.N0+F.n else 0) e:=by
  intro e he;refine⟨fun a U=>?_,?_⟩
  ·have:=ak e he a U;subst this;exact⟨⟨F.ch,rfl,.inr rfl⟩,by simp,by simp⟩
  ·simp only [closeEvents,List.mem_toArray,List.mem_cons,List.not_mem_nil,or_false] at he;rcases he with rfl | rfl <;> simp
 have aK:=h.A5.n1;have aL:=h.A5.pos;refine h.go' hi (w':=w.setChan F.ch 0 #[] true k k false) (by rw [ae];exact aw w k h.EU) (x:= .gone 0) (ρ:=chain q) (s':= .quiet) (cl₁:=true) (k₁:=k) (h.A5.close O K) ?_ (.gone ae ay) ?_ ?_ ?_ (.inr ⟨az,av⟩) (fun _ aB k' aC e=>?_) (.inl rfl) (fun e=>absurd e (by omega)) rfl rfl rfl (by simp) (.inl (by rw [K];simp [wt]))
 ·refine h.C6.app Z h.A5.jn (by rw [K];rfl) (fun e he=>⟨fun a b U hb aM=>⟨((aa e he).1 a U).2.1,((aa e he).1 a U).2.2⟩,(aa e he).2⟩) (.inl (.inr (by omega))) (fun O ab=>h.A5.IF O ab) (fun k' al e aD ρ am=>by omega) (fun k' al e aD aN=>by have:=h.A5.cj O;omega) (fun O e ab=> .inr (.inl K)) (fun aO e ab=> .inl ?_);obtain⟨an,ao⟩:=h.C6.acq O (.inl K);have aP:an<t.size:=lt_of_act? ao.1;rw [aA];generalize hu:(#[({g:=B.N0+F.n,fn:=g.frame.fn,pos:=g.frame.place,act:= .access ⟨.obj F.ch,false,true⟩}:MemOp),{g:=B.N0+F.n,fn:=g.frame.fn,pos:=g.frame.place,act:= .close F.ch}]:Trace)=u;have aE:(t++u)[t.size]? =some {g:=B.N0+F.n,fn:=g.frame.fn,pos:=g.frame.place,act:= .access ⟨.obj F.ch,false,true⟩}:=by subst hu;simp
  have ag:(t++u)[t.size+1]? =some {g:=B.N0+F.n,fn:=g.frame.fn,pos:=g.frame.place,act:= .close F.ch}:=by
   subst hu;rw [Array.getElem?_append_right (by omega)];simp
  refine⟨t.size+1,by rw [act?_of ag],by simp [Trace.g?,ag],⟨B.N0+F.n,by simp [Trace.g?,ag],?_⟩,⟨an,by omega,ao.app fun k' ρ al am=>am.appOther (g:=B.N0+F.n) (by subst hu;simp) (by omega)⟩,fun x ab aF aG=>?_⟩
  ·rw [deaf_succ aE,deaf_old (Nat.le_refl _)];have:=h.C6.deaf _ Z;rw [K] at this;show deafStep _ (Deaf t _) _=0;rw [this];rfl
  ·obtain⟨op,W,_⟩:=Option.map_eq_some_iff.1 aF;have:=lt_size_of_getElem? W;subst hu;simp at this;omega
 ·have aH:BH (t++MemOp.ofEvents (B.N0+F.n) g.frame.fn g.frame.place (closeEvents F.ch)) (w.setChan F.ch 0 #[] true k k false) gs.size S Sh:=by
   refine h.BW.ext (h.C6.noRace h.BW.clean Z (.inr (by omega)) aa) (fun op ah a aI b hb=>?_) (fun op ah=>?_) (by simp [World.setChan]) (fun b hb=>aj b fun e=>hb (e▸h.El))
   ·obtain⟨e,he,rfl⟩:=mem_ofEvents ah;have:=ak e he a aI;subst this;simp [Cx] at hb;subst hb;exact h.El
   ·obtain⟨e,he,rfl⟩:=mem_ofEvents ah;simp only [closeEvents,List.mem_toArray,List.mem_cons,List.not_mem_nil,or_false] at he;rcases he with rfl | rfl <;> simpa [MemAct.ofEvent,MemAct.low,Loc.low] using ai
  exact aH.less (i:=B.N0+F.n) (s':= .quiet) (fun b o W=>by cases W) (fun b o W=>by cases W)
 ·show(w.setChan F.ch 0 #[] true k k false).heap[F.wg]? =_;rw [aj _ h.ne];exact h.wg
 ·show(w.setChan F.ch 0 #[] true k k false).heap[F.ch]? =_;simp [World.setChan,ai]
 ·have aG:=h.A5.cnt;have ap:cU (φ aB)≤sumTo gs.size fun a=>cU (φ a):=le_sumTo (f:=fun a=>cU (φ a)) aC;rw [e] at ap;have aQ:1≤sumTo gs.size fun a=>cU (φ a):=ap;omega
end
end Pal
namespace Pal
open Go Go.Conc
open Go.ConcN (upd upd_same upd_ne sumTo sumTo_upd sumTo_upd_out sumTo_congr le_sumTo sumTo_le fork_knows RelBy)
section
variable {P:Program}{F:Fam}{B:Base}{gs gs':Array Goroutine}{w w':World}{sl:Option (Nat×Nat)}{t:Trace}{φ:Nat→Nx}{r:Nat→Rk}{bt:Nat→Bool}{S:Nat→St}{Sh:Nat→Prop}{j:Nat}{c:Bool}{v wt' sm v₁ wt₁ sm₁:Nat}{cl cl₁:Bool}{k k₁:Nat}{main:Bool}
theorem Ch.Nf{x:Nx}{r:Rk}{b:Bool}{o:Goroutine}{s:St}(h:Ch P F main x r b o s)(hb:main=true→b=true):offersAt o F.ch false= []:=by
 cases h with
 | walk _ _ K=>exact offersAt_of_not_blocked (by rw [K.running];simp) _ _
 | again _ _=>exact offersAt_of_not_blocked (by simp) _ _
 | Dw O _=>cases hb O
 | DO _ _ _ _=>exact offersAt_parked_send' _ _ _ _ _ _
 | blk _ hs=>simp [offersAt,hs.law.offers]
 | gone _ U=>exact offersAt_of_not_blocked (by rcases U.status with e | e <;> rw [e] <;> simp) _ _
theorem Ch.noSend{x:Nx}{r:Rk}{b:Bool}{o:Goroutine}{s:St}(h:Ch P F main x r b o s)(hb:∀k,x= .ph (.BN k)→b=true):offersAt o F.ch true= []:=by
 cases h with
 | walk _ _ K=>exact offersAt_of_not_blocked (by rw [K.running];simp) _ _
 | again _ _=>exact offersAt_of_not_blocked (by simp) _ _
 | Dw U _=>exact offersAt_parked_recv' _ _ _ _ _
 | DO _ _ _ _=>cases hb _ rfl
 | blk _ hs=>simp [offersAt,hs.law.offers]
 | gone _ O=>exact offersAt_of_not_blocked (by rcases O.status with e | e <;> rw [e] <;> simp) _ _
theorem Ch.Kk{k:Nat}{r:Rk}{o:Goroutine}{s:St}(h:Ch P F main (.ph (.BN k)) r false o s):∃g v z,o=parked g #[scase F.ch v z] .send∧F.msg k v s.E∧s.q=false∧Way P false (Stop P F .B6) (served g undef) s:=by
 generalize K:Nx.ph (.BN k)=x at h;generalize hb:false=b at h;cases h with
 | walk _ _ _=>cases hb
 | again _ _=>cases K
 | Dw _ _=>cases K
 | DO _ O U W=>cases K;exact⟨_,_,_,rfl,O,U,W⟩
 | blk _ _=>cases K
 | gone _ _=>cases K
theorem Ch.JR{x:Nx}{r:Rk}{b:Bool}{o:Goroutine}{s:St}(h:Ch P F main x r b o s)(K:offersAt o F.ch true≠ []):∃k,x= .ph (.BN k)∧b=false:=by
 cases h with
 | walk _ _ O=>exact absurd (offersAt_of_not_blocked (by rw [O.running];simp) _ _) K
 | again _ _=>exact absurd (offersAt_of_not_blocked (by simp) _ _) K
 | Dw W _=>exact absurd (offersAt_parked_recv' _ _ _ _ _) K
 | DO _ _ _ _=>exact⟨_,rfl,rfl⟩
 | blk _ hs=>exact absurd (by simp [offersAt,hs.law.offers]) K
 | gone _ U=>exact absurd (offersAt_of_not_blocked (by rcases U.status with e | e <;> rw [e] <;> simp) _ _) K
theorem Ch.receiver{p:Ph}{r:Rk}{b:Bool}{o:Goroutine}{s:St}(h:Ch P F main (.ph p) r b o s)(hb:b=false)(hm:main=true):∃O vs g z,p= .BF O vs∧o=parked g #[rcase F.ch z] (.recv true)∧Stop P F (.BF O vs) g s:=by
 generalize U:Nx.ph p=x at h;cases h with
 | walk _ _ _=>cases hb
 | again _ _=>cases hb
 | Dw _ W=>cases U;exact⟨_,_,_,_,rfl,rfl,W⟩
 | DO K _ _ _=>rw [K] at hm;cases hm
 | blk K _=>rw [K] at hm;cases hm
 | gone _ _=>cases U
theorem O4{g g':Goroutine}{cs K:Array CommCase}{sh O:CommShape}(h:parked g cs sh=parked g' K O):cs=K∧sh=O∧∀x,served g x=served g' x:=by
 obtain⟨a,b,c,d,e⟩:=g;obtain⟨U,W,Z,aa,ab⟩:=g';simp only [parked,Goroutine.mk.injEq,Option.some.injEq,Prod.mk.injEq,true_and] at h;obtain⟨rfl,rfl,rfl,rfl,rfl⟩:=h;exact⟨rfl,rfl,fun _=>rfl⟩
theorem LM(w:World)(c cap:Nat)(buf:Array Value)(cl:Bool)(s r:Nat)(K:Bool){b:Nat}(h:b≠c):(w.setChan c cap buf cl s r K).heap[b]? =w.heap[b]? :=by simp [World.setChan,Array.getElem?_setIfInBounds_ne (Ne.symm h)]
def Ff(E E':LH):LH:=fun b=>match E b with | some o=>some o | none=>E' b
def Ee(i s:Nat)(c:Nat)(f1 f2:FuncId)(p1 p2:String):Trace:=
 #[{g:=i,fn:=f1,pos:=p1,act:= .send c s},{g:=0,fn:=f2,pos:=p2,act:= .recv c s 0},{g:=i,fn:=f1,pos:=p1,act:= .sendDone c s},{g:=0,fn:=f2,pos:=p2,act:= .recvDone c s}]
theorem Pc{i s K:Nat}{f1 f2:FuncId}{p1 p2:String}(hi:i≠0)(W:Deaf t i=0)(Z:Deaf t 0=0){x:Nat}(aa:Knows t i x):Knows (t++Ee i s K f1 f2 p1 p2) 0 x:=by
 generalize hu:Ee i s K f1 f2 p1 p2=u;have O:(t++u)[t.size]? =some {g:=i,fn:=f1,pos:=p1,act:= .send K s}:=by subst hu;rw [Array.getElem?_append_right (by omega)];simp [Ee]
 have ab:(t++u)[t.size+1]? =some {g:=0,fn:=f2,pos:=p2,act:= .recv K s 0}:=by subst hu;rw [Array.getElem?_append_right (by omega)];simp [Ee]
 have ae:(t++u)[t.size+2]? =some {g:=i,fn:=f1,pos:=p1,act:= .sendDone K s}:=by subst hu;rw [Array.getElem?_append_right (by omega)];simp [Ee]
 have U:(t++u)[t.size+3]? =some {g:=0,fn:=f2,pos:=p2,act:= .recvDone K s}:=by subst hu;rw [Array.getElem?_append_right (by omega)];simp [Ee]
 have ag:=aa.hb_new (Nat.le_refl _) O rfl;have ah:(t++u).heard t.size:=⟨i,by simp [Trace.g?,O],by rw [deaf_old (Nat.le_refl _)];exact W⟩;have ai:(t++u).heard (t.size+3):=⟨0,by simp [Trace.g?,U],by
  rw [deaf_succ ae,deaf_succ ab,deaf_succ O,deaf_old (Nat.le_refl _)]
  simp only [deafStep];exact Z⟩
 exact⟨t.size+3,_,U,rfl,.inr (ag.trans (.single (.inr ⟨.handOver (by rw [act?_of O]) (by rw [act?_of U]),ah,ai⟩)))⟩
theorem Inv.meet(h:Inv P F B gs w t φ r bt S Sh j c v wt' sm cl k)(aN:∀k v E E',Le E E'→F.msg k v E→F.msg k v E'){i k':Nat}(ak:k'<j)(al:i=B.N0+k')(aa:φ i= .ph (.BN k')){U:List Nat}{vs:List Value}(ai:φ 0= .ph (.BF U vs))
  {aB aC:Goroutine} {s₀ K:St} (aD:B4 (S 0) s₀) (aO:B4 (S i) K) (aP:Stop P F (.BF U vs) aB s₀) {x:Value} (aQ:F.msg k' x K.E) (aR:Way P false (Stop P F .B6) (served aC undef) K)
  (am:gs'.size=gs.size) (aS:gs'[0]? =some (served aB (.tuple #[x,.bool true]))) (hi:gs'[i]? =some (served aC undef)) (W:∀a,a≠0→a≠i→gs'[a]? =gs[a]?) (aT:cl=false) {f1 f2:FuncId} {p1 p2:String}:
  ∃aE aF aG S',Inv P F B gs' (w.setChan F.ch 0 #[] false (k+1) (k+1) false) (t++Ee i k F.ch f1 f2 p1 p2) aE aF aG S' Sh j c v wt' sm false (k+1)∧Mu.lt (mu F gs'.size aE aF aG) (mu F gs.size φ r bt):=by
 subst aT;have bf:=h.A5.pos;have bg:=h.A5.size;have ab:i<gs.size:=by omega
 have ae:0<gs.size:=by omega
 have aj:i≠0:=by omega
 have aH:F.has k'=true:=by have:=h.A5.work k' ak;rw [← al,aa] at this;exact this.2
 have aU:k' ∉ U:=by have:=(h.A5.ER k' ak aH).1 (by rw [← al];exact aa);rwa [ai] at this
 have aI:=h.A5.meet (x:=x) ai ak (by rw [← al];exact aa);rw [← al] at aI;have hu:∀op∈Ee i k F.ch f1 f2 p1 p2,op.act.touch? =none∧∀m,op.act≠ .mark m:=by
  intro op O;simp only [Ee,List.mem_toArray,List.mem_cons,List.not_mem_nil,or_false] at O;rcases O with rfl | rfl | rfl | rfl <;> exact⟨rfl,by simp⟩
 have aV:=h.C6.Cf h.A5 hu;have aJ:=h.BW.Dy F.ch h.El;have an:BH t w gs.size (upd (upd S i K) 0 s₀) Sh:=by
  have:=(h.BW.ghost ab aO).ghost (i:=0) (s₀:=s₀) ae (by rw [upd_ne _ _ (Ne.symm aj)];exact aD);exact this
 have au:upd (upd S i K) 0 s₀ 0=s₀:=upd_same _ _ _;have av:upd (upd S i K) 0 s₀ i=K:=by rw [upd_ne _ _ aj,upd_same]
 have aW:BH (t++Ee i k F.ch f1 f2 p1 p2) (w.setChan F.ch 0 #[] false (k+1) (k+1) false) gs.size (upd (upd S i K) 0 s₀) Sh:=by
  refine an.ext (fun said=>?_) (fun op O a ao=>by rw [(hu op O).1] at ao;cases ao) (fun op O=>?_) (by simp [World.setChan]) (fun b hb=>LM _ _ _ _ _ _ _ _ fun e=>hb (e▸h.El))
  ·have key:∀(l:List MemOp) (t:Trace),¬Race said t→(∀op∈l,op.act.touch? =none)→¬Race said (t++l.toArray):=by
    intro l
    induction l with
    | nil=>intro t ht _;simpa using ht
    | cons y l aX=>
     intro t ht ag;have e:t++(y::l).toArray=(t++ #[y])++l.toArray:=by apply Array.ext';simp
     rw [e];exact aX _ (noRace_append (g:=y.g) ht (by simp) fun z a _ op O b hb _=>by simp at O;subst O;rw [ag op (by simp)] at hb;cases hb) fun op O=>ag op (by simp [O])
   exact key _ t (h.BW.clean said) fun op O=>(hu op (by simpa [Ee] using O)).1
  ·simp only [Ee,List.mem_toArray,List.mem_cons,List.not_mem_nil,or_false] at O;rcases O with rfl | rfl | rfl | rfl <;> exact aJ
 have aY:∀b o o',s₀.E b=some o→K.E b=some o'→o=o':=by
  intro b o o' aw ay;have az:=(an.fits 0 ae).e b o (by rw [au];exact aw);have ap:=(an.fits i ab).e b o' (by rw [av];exact ay);rw [az] at ap;exact Option.some.inj ap
 have aK:Le s₀.E (Ff s₀.E K.E):=fun b o W=>by simp [Ff,W]
 have aZ:Le K.E (Ff s₀.E K.E):=fun b o W=>by
  unfold Ff;cases aq:s₀.E b with
  | none=>exact W
  | some o'=>simp only;rw [aY b o' o aq W]
 have a0:Deaf t 0=0:=by rw [h.C6.deaf 0 ae,ai];rfl
 have a1:Deaf t i=0:=by rw [h.C6.deaf i ab,aa];rfl
 have aL:BH (t++Ee i k F.ch f1 f2 p1 p2) (w.setChan F.ch 0 #[] false (k+1) (k+1) false) gs.size (upd (upd S i K) 0 ⟨Ff s₀.E K.E,s₀.H,false⟩) Sh:=by
  have:=aW.grow (i:=0) (E':=Ff s₀.E K.E) (q:=false) ae (fun b o hb=>by
   rw [au]
   unfold Ff at hb
   cases aq:s₀.E b with
   | some o'=>rw [aq] at hb;exact .inl hb
   | none=>
    rw [aq] at hb
    have aM:K.E b=some o:=hb
    refine .inr ⟨i,ab,by rw [av];exact aM,fun y a a2 a3 a4=>?_⟩
    have hold:touchAt t y=some a:=by
     obtain⟨op,W,aA⟩:=touch_of a2
     rcases getElem?_append_cases W with⟨_,a5⟩ | ⟨_,a6⟩
     ·rw [touchAt_of a5];exact aA
     ·rw [(hu op a6).1] at aA;cases aA
    exact Pc aj a1 a0 (an.kE i ab b (by rw [av,aM];simp) y a hold a3 a4))
  rw [au,Kd] at this;exact this
 have a7:∀b,Ff s₀.E K.E b≠none→s₀.H b=none:=by
  intro b hb;have:=(aL.fits 0 ae).d b (by rw [upd_same];exact hb)
  rwa [upd_same] at this
 have a8:k'<F.n:=Nat.lt_of_lt_of_le ak h.A5.jn;obtain⟨z,_,a9,_⟩:=aP.law.recv U vs rfl;obtain⟨ba,bb⟩:=a9 k' x (Ff s₀.E K.E) a8 aH aU aK a7 (aN _ _ _ _ aZ aQ);obtain⟨bc,bd⟩:=aR;have f0:∀a,a≠0→a≠i→upd (upd φ i (.ph .B6)) 0 (.ph (.BF (U++ [k']) (vs++ [x]))) a=φ a:=fun a aw ay=>by rw [upd_ne _ _ aw,upd_ne _ _ ay]
 have fi:upd (upd φ i (.ph .B6)) 0 (.ph (.BF (U++ [k']) (vs++ [x]))) i= .ph .B6:=by rw [upd_ne _ _ aj,upd_same]
 refine⟨upd (upd φ i (.ph .B6)) 0 (.ph (.BF (U++ [k']) (vs++ [x]))),upd (upd r i bc) 0 ba,upd (upd bt i true) 0 true,upd (upd S i K) 0 ⟨Ff s₀.E K.E,s₀.H,false⟩,⟨by rw [am];exact aI,?_,fun a o ah=>?_,by rw [am];exact aL,h.FO,h.El,h.ne,?_,?_,fun hb=>(by rw [upd_same] at hb;cases hb),fun ar hb=>?_,?_,h.tape,h.os,h.output⟩,?_⟩
 ·rw [am];refine aV.Q8 (fun a ao=>?_) (fun a ao ag=>?_) (fun ar=>?_)
  ·by_cases q:a=0
   ·subst q;rw [upd_same,ai];rfl
   ·by_cases Z:a=i
    ·subst Z;rw [fi,aa];rfl
    ·rw [f0 a q Z]
  ·by_cases q:B.N0+a=i
   ·rw [q,fi] at ag;exact ag.elim
   ·rwa [f0 _ (by omega) q] at ag
  ·have:=h.A5.cj ar;exact f0 _ (by omega) (by omega)
 ·by_cases q:a=0
  ·subst q;rw [aS] at ah;obtain rfl:=Option.some.inj ah;rw [upd_same,upd_same,upd_same,upd_same];exact .walk rfl (fun q=>by cases q) bb
  ·by_cases Z:a=i
   ·subst Z;rw [hi] at ah;obtain rfl:=Option.some.inj ah;rw [fi,upd_ne _ _ q,upd_same,upd_ne _ _ q,upd_same,upd_ne _ _ q,upd_same];have hm:(a==0)=false:=by simp [q]
    exact .walk (by rw [hm];rfl) (fun q=>by cases q) (by rw [hm];exact bd)
   ·rw [W a q Z] at ah;rw [f0 a q Z,upd_ne _ _ q,upd_ne _ _ Z,upd_ne _ _ q,upd_ne _ _ Z,upd_ne _ _ q,upd_ne _ _ Z];exact h.C7 a o ah
 ·show(w.setChan F.ch 0 #[] false (k+1) (k+1) false).heap[F.wg]? =_;rw [LM _ _ _ _ _ _ _ _ h.ne];exact h.wg
 ·show(w.setChan F.ch 0 #[] false (k+1) (k+1) false).heap[F.ch]? =_;simp [World.setChan,aJ]
 ·have bh:=h.A5.cj ar;rw [upd_ne _ _ (by omega),upd_ne _ _ (by omega)] at hb;exact h.blk ar hb
 ·rw [upd_same];exact(h.le.trans fun b o W=>aD.ext b o W).trans aK
 ·rw [am];refine NX ?_;have az:=sumTo_upd (upd φ i (.ph .B6)) (.ph (.BF (U++ [k']) (vs++ [x]))) (wt F.n) ae;have ap:=sumTo_upd φ (.ph .B6) (wt F.n) ab;rw [upd_ne _ _ (Ne.symm aj),ai] at az;rw [aa] at ap;have bi:wt F.n (.ph (.BF U vs))=2:=rfl;have bj:wt F.n (.ph (.BF (U++ [k']) (vs++ [x])))=2:=rfl;have bk:wt F.n (.ph (.BN k'))=10:=rfl;have bl:wt F.n (.ph .B6)=9:=rfl;omega
theorem Inv.send(h:Inv P F B gs w t φ r bt S Sh j c v wt' sm cl k)(az:∀k v E E',Le E E'→F.msg k v E→F.msg k v E'){i k':Nat}{g:Goroutine}(hi:gs[i]? =some g)(K:φ i= .ph (.BN k'))(aA:bt i=true)(ab:(i==0)=false){s₀:St}(am:B4 (S i) s₀)(hs:Stop P F (.BN k') g s₀):
  Fh P F B gs w sl t i (mu F gs.size φ r bt):=by
 have W:i<gs.size:=(Array.getElem?_eq_some_iff.1 hi).1;have an:0<gs.size:=by omega
 have O:i≠0:=by simpa using ab
 have aB:k'<j∧i=B.N0+k':=by
  rcases h.A5.DF W with rfl | ⟨a,b⟩ | ⟨aC,Z,rfl⟩ | ⟨ae,rfl⟩
  ·exact absurd rfl O
  ·have:=h.A5.old i a b;rw [K] at this;exact this.elim
  ·have:=h.A5.work aC Z;rw [K] at this;obtain⟨rfl,_⟩:=this;exact⟨Z,rfl⟩
  ·have:=h.A5.cls ae;rw [K] at this;exact this.elim
 obtain⟨Z,aD⟩:=aB;have aE:cl=false:=by
  cases aF:cl with
  | false=>rfl
  | true=>exact absurd K (h.noSend aF i k' W)
 subst aE;obtain⟨x,z,ao,aG,ap⟩:=hs.law.send k' rfl;have aq:stepG P (i==0) g w= .comm g #[scase F.ch x z] true .send w #[]:=by rw [ab];exact aG w
 have ar:∀(a:Nat) (fn:FuncId) (pos:String),MemOp.ofEvents a fn pos #[]= #[]:=fun a fn pos=>by rw [ofEvents_eq];simp
 cases ag:bt 0 with
 | true=>
  have aH:partners (gs.setIfInBounds i ph) F.ch false= []:=by
   refine partners_nil fun a o ah=>?_;rcases getElem?_stand gs i a o ah with⟨_,rfl⟩ | ⟨_,ai⟩
   ·exact offersAt_ph _ _
   ·exact(h.C7 a o ai).Nf fun e=>by
     have:a=0:=by simpa using e
     subst this;exact ag
  have aa:=crowd_waits (sl:=sl) hi aq fun aS au=>by
   simp at au;subst au;exact ways_send_none (v:=x) (z:=z) h.EU (Nat.le_refl _) aH
  obtain⟨av,aj,ak⟩:=h.rest (g':=parked g #[scase F.ch x z] .send) (u:=MemOp.ofEvents i g.frame.fn g.frame.place #[]) W aA am (by rw [K];exact .DO ab ao (hs.law.live rfl) ap) (ar _ _ _) (fun e=>absurd e O) (fun _ _=>ag) (fun ae e=>by have:=h.A5.cj ae;omega);exact⟨_,_,_,_,aa,.inl ⟨_,_,_,_,_,_,_,_,_,_,_,_,aj,ak⟩⟩
 | false=>
  obtain⟨aI,al⟩:∃o,gs[0]? =some o:=⟨_,Array.getElem?_eq_getElem an⟩;obtain⟨p0,aw,hm⟩:=h.A5.main;have ay:=h.C7 0 aI al;rw [ag,aw] at ay;obtain⟨aT,vs,U,aJ,rfl,rfl,aK⟩:=ay.receiver rfl rfl;have aL:partners (gs.setIfInBounds i ph) F.ch false= [(0,0)]:=by
   rw [partners_one (j:=0) (g:=parked U #[rcase F.ch aJ] (.recv true)) (stand_get (Ne.symm O) al) fun a o aM ah=>?_]
   ·rw [offersAt_parked_recv];simp
   ·rcases getElem?_stand gs i a o ah with⟨_,rfl⟩ | ⟨_,ai⟩
    ·exact offersAt_ph _ _
    ·exact(h.C7 a o ai).Nf fun e=>by
      have:a=0:=by simpa using e
      exact absurd this aM
  have aa:=crowd_send_meets (sl:=sl) hi aq h.EU (Ne.symm O) al aL;rw [finishComm_recv,finishComm_send,ar] at aa;have aN:((gs.setIfInBounds 0 (served U (recvd true x true))).setIfInBounds i (served g undef)).size=gs.size:=by simp
  obtain⟨aO,aP,av,S',aj,ak⟩:=h.meet az Z aD K aw (.refl _) am aK ao ap (gs':=(gs.setIfInBounds 0 (served U (recvd true x true))).setIfInBounds i (served g undef)) aN
   (by rw [Array.getElem?_setIfInBounds_ne O,Array.getElem?_setIfInBounds_self_of_lt an];rfl) (by rw [Array.getElem?_setIfInBounds_self_of_lt (by simpa using W)]) (fun a aQ aR=>by rw [Array.getElem?_setIfInBounds_ne (Ne.symm aR),Array.getElem?_setIfInBounds_ne (Ne.symm aQ)]) rfl
   (f1:=g.frame.fn) (f2:=U.frame.fn) (p1:=g.frame.place) (p2:=U.frame.place)
  refine⟨_,_,_,_,aa,.inl ⟨aO,aP,av,S',Sh,j,c,v,wt',sm,false,k+1,?_,ak⟩⟩;rw [Array.empty_append];exact aj
end
end Pal
namespace Pal
open Go Go.Conc
open Go.ConcN (upd upd_same upd_ne sumTo sumTo_upd sumTo_upd_out sumTo_congr le_sumTo sumTo_le fork_knows RelBy)
section
variable {P:Program}{F:Fam}{B:Base}{gs gs':Array Goroutine}{w w':World}{sl:Option (Nat×Nat)}{t:Trace}{φ:Nat→Nx}{r:Nat→Rk}{bt:Nat→Bool}{S:Nat→St}{Sh:Nat→Prop}{j:Nat}{c:Bool}{v wt' sm v₁ wt₁ sm₁:Nat}{cl cl₁:Bool}{k k₁:Nat}{main:Bool}
theorem Inv.M4(h:Inv P F B gs w t φ r bt S Sh j c v wt' sm true k):c=true∧Dk (φ (B.N0+F.n))∧∀i,0<i→i<gs.size→∃d,φ i= .gone d:=by
 have hm:=h.A5.mode;have K:c=true∧Dk (φ (B.N0+F.n)):=by
  split at hm
  ·rename_i K;refine⟨K,?_⟩;cases O:φ (B.N0+F.n) with
   | gone d=>trivial
   | ph p=>rw [O] at hm;cases p <;> simp [BZ] at hm
  ·simp [BZ] at hm
 refine⟨K.1,K.2,fun i hi U=>?_⟩;have:Dk (φ i):=by
  rcases h.A5.DF U with rfl | ⟨a,b⟩ | ⟨k',W,rfl⟩ | ⟨_,rfl⟩
  ·omega
  ·exact h.A5.old i a b
  ·exact h.A5.J8 K.1 (.inr (.inr (.inr (.inr K.2)))) k' W
  ·exact K.2
 cases O:φ i with
 | gone d=>exact⟨d,rfl⟩
 | ph p=>rw [O] at this;exact this.elim
theorem Inv.over(h:Inv P F B gs w t φ r bt S Sh j c v wt' sm true k){aF:List Nat}{vs:List Value}(aq:φ 0= .ph (.BF aF vs)){s₀:St}(ar:B4 (S 0) s₀){g':Goroutine}(aG:F.fin g' s₀)
  (au:gs'.size=gs.size) (aH:gs'[0]? =some g') (ab:∀a,a≠0→gs'[a]? =gs[a]?) {f1:FuncId} {p1:String}:
  Over P F B gs' w (t++ #[{g:=0,fn:=f1,pos:=p1,act:= .recvClosed F.ch}]):=by
 obtain⟨ah,av,aI⟩:=h.M4;have a0:=h.A5.pos;have aw:=h.A5.size;have ak:0<gs.size:=by omega
 have aJ:F.ch<w.heap.size:=h.BW.Dy F.ch h.El;generalize hu:(#[{g:=0,fn:=f1,pos:=p1,act:= .recvClosed F.ch}]:Trace)=u;have ay:∀op∈u,op.act.touch? =none∧∀m,op.act≠ .mark m:=by
  intro op O;subst hu;simp at O;subst O;exact⟨rfl,by simp⟩
 have ae:=h.C6.Cf h.A5 ay;have aK:Deaf t 0=0:=by rw [h.C6.deaf 0 ak,aq];rfl
 have az:∀i g,0<i→gs[i]? =some g→∃q d,φ i= .gone d∧QuitsD P q d g∧S i= .quiet:=by
  intro i g hi K;obtain⟨d,aA⟩:=aI i hi (Array.getElem?_eq_some_iff.1 K).1;have hs:=h.C7 i g K;rw [aA] at hs;generalize W:Nx.gone d=x at hs;generalize S i=s at hs ⊢;generalize r i=ρ at hs;generalize bt i=a1 at hs;cases hs with
  | gone _ ai=>cases W;exact⟨_,_,aA,ai,rfl⟩
  | _=>cases W
 have ai:∀i,∃q,∀g,0<i→gs[i]? =some g→QuitsD P q (Deaf t i) g:=by
  intro i;by_cases hi:0<i∧i<gs.size
  ·obtain⟨q,d,U,aa,_⟩:=az i _ hi.1 (Array.getElem?_eq_getElem hi.2);refine⟨q,fun g _ K=>?_⟩;rw [Array.getElem?_eq_getElem hi.2] at K;obtain rfl:=Option.some.inj K;rw [h.C6.deaf i hi.2,U];exact aa
  ·exact⟨0,fun g U aa=>absurd ⟨U,(Array.getElem?_eq_some_iff.1 aa).1⟩ hi⟩
 have aB:∀op∈u,op.g=0:=by intro op O;subst hu;simp at O;subst O;rfl
 have aL:BH t w gs.size (lone s₀) Sh:=by
  have U:=h.BW.ghost ak ar;refine U.congr fun i hi=>?_;by_cases e:i=0
  ·subst e;rw [upd_same];exact⟨rfl,rfl⟩
  ·rw [upd_ne _ _ e];obtain⟨_,_,_,_,aM⟩:=az i _ (by omega) (Array.getElem?_eq_getElem hi);rw [aM];simp [lone,e]
 have aN:BH (t++u) w gs.size (lone s₀) Sh:=aL.mute (g:=0) aB (fun op ab=>(ay op ab).1) (fun op O=>by subst hu;simp at O;subst O;exact aJ) rfl;refine⟨fun i=>Classical.choose (ai i),Sh,g',s₀,⟨aH,⟨fun i g hi K=>?_,fun i hi=>?_⟩,by rw [au];exact aN,fun x g K aO al=>?_,?_⟩,aG,h.le.trans fun b o ab=>ar.ext b o ab,h.tape,h.os,h.output⟩
 ·rw [Deaf_other t (by omega) u aB];rw [ab i (by omega)] at K;exact Classical.choose_spec (ai i) g hi K
 ·exact ae.above i (by rw [← au];exact hi)
 ·rcases ae.over x g K aO al with q | ⟨q1,q2⟩
  ·exact q
  obtain⟨p,Z⟩:=ae.Hj ah av;have a2:p<t.size:=by
   obtain⟨a3,a4⟩:=h.C6.Hj ah av;rcases Nat.lt_or_ge p t.size with q | q
   ·exact q
   ·have U:=Z.1;obtain⟨op,O,aP⟩:=Option.map_eq_some_iff.1 U;rcases getElem?_append_cases O with⟨aQ,_⟩ | ⟨_,hm⟩
    ·exact aQ
    ·subst hu;simp at hm;subst hm;cases aP
  have am:(t++u)[t.size]? =some {g:=0,fn:=f1,pos:=p1,act:= .recvClosed F.ch}:=by subst hu;simp
  have aR:(t++u).heard t.size:=⟨0,by simp [Trace.g?,am],by rw [deaf_old (Nat.le_refl _)];exact aK⟩;have aj:HappensBefore (t++u) p t.size:= .single (.inr ⟨.closed Z.1 (by rw [act?_of am]),Z.2.2.1,aR⟩);have aC:(t++u).g? t.size=some 0:=by simp [Trace.g?,am]
  have an:∀{a b:Nat} {g:Nat},a<b→(t++u).g? a=some g→(t++u).g? b=some g→HappensBefore (t++u) a b:=fun U aa aS=> .single (.inl ⟨U,_,aa,aS⟩);rcases Nat.lt_or_ge g (B.N0+F.n) with aT | aT
  ·
   obtain⟨q,aU,aV,aW,aX,aY⟩:=Z.2.2.2.1;obtain⟨ρ,a5,aZ,ag⟩:=aY (g - B.N0) (by omega);have ao:B.N0+(g - B.N0)=g:=by omega
   rw [ao] at ag;have aD:HappensBefore (t++u) ρ q:= .single (.inr ⟨.marked aZ (.inr ag.act) aV (fun z U aa=>ae.norel z (by omega)),ag.heard,aX⟩);have aE:HappensBefore (t++u) q p:=an aU aW Z.2.1;have hle:x≤ρ:=Nat.le_of_not_lt fun ap=>ag.after x ap K al;refine⟨t.size,aC,?_⟩;rcases Nat.lt_or_ge x ρ with W | W
   ·exact((an W K ag.g).trans (aD.trans aE)).trans aj
   ·obtain rfl:x=ρ:=by omega
    exact(aD.trans aE).trans aj
  ·
   have ao:g=B.N0+F.n:=by rw [ah] at aw;have:=h.A5.cj ah;simp at aw;omega
   subst ao;have hle:x≤p:=Nat.le_of_not_lt fun ap=>Z.2.2.2.2 x ap K al;refine⟨t.size,aC,?_⟩;rcases Nat.lt_or_ge x p with W | W
   ·exact(an W K Z.2.1).trans aj
   ·obtain rfl:x=p:=by omega
    exact aj
 ·have:=ae.deaf 0 ak;rw [aq] at this;exact this
theorem Inv.recv(h:Inv P F B gs w t φ r bt S Sh j c v wt' sm cl k)(aM:∀k v E E',Le E E'→F.msg k v E→F.msg k v E'){x:Goroutine}(hi:gs[0]? =some x){ak:List Nat}{vs:List Value}(ab:φ 0= .ph (.BF ak vs))(aN:bt 0=true)
  {O:Goroutine} {s₀:St} (al:B4 (S 0) s₀) (hs:Stop P F (.BF ak vs) O s₀) (am:∀w,stepG P true x w=stepG P true O w) (a6:x.frame=O.frame):
  Fh P F B gs w sl t 0 (mu F gs.size φ r bt):=by
 have an:0<gs.size:=(Array.getElem?_eq_some_iff.1 hi).1;obtain⟨z,aO,_,aP⟩:=hs.law.recv ak vs rfl;have ao:stepG P (0==0) x w= .comm O #[rcase F.ch z] true (.recv true) w #[]:=by rw [show((0:Nat)==0)=true from rfl,am];exact aO w
 have ap:∀(a:Nat) (fn:FuncId) (pos:String),MemOp.ofEvents a fn pos #[]= #[]:=fun a fn pos=>by rw [ofEvents_eq];simp
 by_cases ae:partners (gs.setIfInBounds 0 ph) F.ch true= []
 ·cases ag:cl with
  | false=>
   have Z:=h.EU;rw [ag] at Z;have aa:=crowd_waits (sl:=sl) hi ao fun a7 aB=>by
    simp at aB;subst aB;exact ways_recv_none (z:=z) Z ae
   have aQ:∀a k',a<gs.size→φ a= .ph (.BN k')→bt a=true:=by
    intro a k' ai aq;cases hb:bt a with
    | true=>rfl
    | false=>
     have W:=h.C7 a _ (Array.getElem?_eq_getElem ai);rw [aq,hb] at W;obtain⟨g,y,ar,hgo,_⟩:=W.Kk;have aj:a≠0:=fun e=>by subst e;rw [ab] at aq;cases aq
     have:(a,0)∈partners (gs.setIfInBounds 0 ph) F.ch true:=mem_partners.2 ⟨gs[a],stand_get aj (Array.getElem?_eq_getElem ai),by rw [hgo,offersAt_parked_send];simp⟩;rw [ae] at this;cases this
   obtain⟨aC,au,av⟩:=h.rest (g':=parked O #[rcase F.ch z] (.recv true)) (u:=MemOp.ofEvents 0 x.frame.fn x.frame.place #[]) an aN al (by rw [ab];exact .Dw rfl hs) (ap _ _ _) (fun _=>⟨ag,aQ⟩) (fun k' e=>by rw [ab] at e;cases e) (fun Z e=>by have:=h.A5.pos;omega);exact⟨_,_,_,_,aa,.inl ⟨_,_,_,_,_,_,_,_,_,_,_,_,au,av⟩⟩
  | true=>
   subst ag;have aa:=crowd_recv_closed (sl:=sl) hi ao h.EU ae;rw [finishComm_recv,ap] at aa;obtain⟨Z,a8,aR⟩:=h.M4;have aS:=aP fun k' U hh=>by
    have aT:k'<j:=by rw [h.A5.cj Z];exact U
    have aD:=h.A5.ER k' aT hh;rw [ab] at aD;have a9:=h.A5.size;have ba:=h.A5.pos;obtain⟨d,aE⟩:=aR (B.N0+k') (by omega) (by omega);apply Classical.byContradiction;intro aU;rw [aD.2 aU] at aE;cases aE
   have aV:=h.over (gs':=gs.setIfInBounds 0 (served O (recvd true z false))) ab al aS (by simp) (by rw [Array.getElem?_setIfInBounds_self_of_lt an];rfl) (fun a ai=>by rw [Array.getElem?_setIfInBounds_ne (Ne.symm ai)]) (f1:=O.frame.fn) (p1:=O.frame.place);refine⟨_,_,_,_,aa,.inr ?_⟩;rw [Array.empty_append];exact aV
 ·have ag:cl=false:=by
   obtain⟨⟨a,b⟩,aw⟩:=List.exists_mem_of_ne_nil _ ae;obtain⟨o,ay,K⟩:=mem_partners.1 aw;rcases getElem?_stand gs 0 a o ay with⟨_,rfl⟩ | ⟨_,ah⟩
   ·rw [offersAt_ph] at K;cases K
   ·obtain⟨k',U,_⟩:=(h.C7 a o ah).JR fun e=>by rw [e] at K;cases K
    cases am:cl with
    | false=>rfl
    | true=>exact absurd U (h.noSend am a k' (Array.getElem?_eq_some_iff.1 ah).1)
  subst ag;obtain⟨a,az,aF,bb,bc,d,aj,aG,aa⟩:=crowd_recv_meets_some (sl:=sl) hi ao h.EU ae fun a b aw=>by
   obtain⟨o,ay,K⟩:=mem_partners.1 aw;rcases getElem?_stand gs 0 a o ay with⟨_,rfl⟩ | ⟨aW,ah⟩
   ·rw [offersAt_ph] at K;cases K
   ·have W:=h.C7 a o ah;obtain⟨k',U,aA⟩:=W.JR fun e=>by rw [e] at K;cases K
    rw [U,aA] at W;obtain⟨g,y,ar,hgo,_⟩:=W.Kk;rw [hgo,offersAt_parked_send] at K;simp at K;exact⟨K,aW,g,y,ar,_,by rw [ah,hgo]⟩
  have aH:a<gs.size:=(Array.getElem?_eq_some_iff.1 aG).1;have W:=h.C7 a _ aG;obtain⟨k',U,aA⟩:=W.JR (by rw [offersAt_parked_send];simp);rw [U,aA] at W;obtain⟨g,y,ar,hgo,aX,bd,aI⟩:=W.Kk;obtain⟨aJ,aY,aZ⟩:=O4 hgo;have a0:aF=y:=by simp [scase] at aJ;exact aJ.1
  subst a0;subst aY;rw [finishComm_recv,finishComm_send,ap] at aa;rw [← aZ] at aI;have aK:k'<j∧a=B.N0+k':=by
   rcases h.A5.DF aH with rfl | ⟨q1,q2⟩ | ⟨a1,aL,rfl⟩ | ⟨Z,rfl⟩
   ·exact absurd rfl aj
   ·have:=h.A5.old a q1 q2;rw [U] at this;exact this.elim
   ·have:=h.A5.work a1 aL;rw [U] at this;obtain⟨rfl,_⟩:=this;exact⟨aL,rfl⟩
   ·have:=h.A5.cls Z;rw [U] at this;exact this.elim
  obtain⟨a2,a3,aC,S',au,av⟩:=(h.at_ d).meet aM aK.1 aK.2 U ab al (.refl _) hs aX aI (gs':=(gs.setIfInBounds a (served az undef)).setIfInBounds 0 (served O (recvd true aF true))) (by simp)
   (by rw [Array.getElem?_setIfInBounds_self_of_lt (by simpa using an)];rfl) (by rw [Array.getElem?_setIfInBounds_ne (Ne.symm aj),Array.getElem?_setIfInBounds_self_of_lt aH]) (fun b a4 a5=>by rw [Array.getElem?_setIfInBounds_ne (Ne.symm a4),Array.getElem?_setIfInBounds_ne (Ne.symm a5)]) rfl
   (f1:=az.frame.fn) (f2:=O.frame.fn) (p1:=az.frame.place) (p2:=O.frame.place)
  refine⟨_,_,_,_,aa,.inl ⟨a2,a3,aC,S',Sh,j,c,v,wt',sm,false,k+1,?_,av⟩⟩;rw [Array.empty_append];exact au
theorem Inv.spawn(h:Inv P F B gs w t φ r bt S Sh j c v wt' sm cl k){g g' child:Goroutine}(hi:gs[0]? =some g){p U O:Ph}(aj:φ 0= .ph p)(ay:c=false){s₀:St}(au:B4 (S 0) s₀)(az:stepG P true g w= .spawn g' child w #[])
  (aA:Way P true (Stop P F U) g' s₀) (aB:Way P false (Stop P F O) child ⟨s₀.E,fun _=>none,false⟩) (aC:Fam.Cr U=true) (aD:Fam.Cr O=false) (aE:Fam.CI U=false) (aF:Fam.CI O=false) {ak:Nat} {al:Bool}
  (aG:BE F B.N0 (gs.size+1) ak al (upd (upd φ gs.size (.ph O)) 0 (.ph U)) v wt' sm cl)
  (ab:CN (.ph p)=0∧CN (.ph U)=0∧CN (.ph O)=0) (aH:∀k,k<ak→late (upd (upd φ gs.size (.ph O)) 0 (.ph U) (B.N0+k))→k<j∧late (φ (B.N0+k))) (ap:al=true→B.N0+F.n=gs.size∧O= .B9)
  (hm:wt F.n (.ph U)+wt F.n (.ph O)<wt F.n (.ph p)) (aI:sm=0):
  Fh P F B gs w sl t 0 (mu F gs.size φ r bt):=by
 have Z:0<gs.size:=(Array.getElem?_eq_some_iff.1 hi).1;have am:=runT_crowd_spawn (P:=P) (sl:=sl) (i:=0) hi (show stepG P (0==0) g w=_ from az);have aJ:∀(a:Nat) (fn:FuncId) (pos:String),MemOp.ofEvents a fn pos #[]= #[]:=fun a fn pos=>by rw [ofEvents_eq];simp
 rw [aJ] at am;generalize aK:({g:=0,fn:=g.frame.fn,pos:=g.frame.place,act:= .go gs.size}:MemOp)=x at am;generalize aL:({g:=gs.size,fn:=child.frame.fn,pos:=g.frame.place,act:= .start}:MemOp)=y at am;have ae:x.g=0∧x.act= .go gs.size:=by subst aK;exact⟨rfl,rfl⟩
 have ag:y.g=gs.size∧y.act= .start:=by subst aL;exact⟨rfl,rfl⟩
 have aM:((#[]:Trace).push x).push y= #[x,y]:=rfl;have an:((gs.setIfInBounds 0 g').push child).size=gs.size+1:=by simp
 have f0:upd (upd φ gs.size (.ph O)) 0 (.ph U) 0= .ph U:=upd_same _ _ _;have ao:upd (upd φ gs.size (.ph O)) 0 (.ph U) gs.size= .ph O:=by rw [upd_ne _ _ (by omega),upd_same]
 have av:∀a,a≠0→a≠gs.size→upd (upd φ gs.size (.ph O)) 0 (.ph U) a=φ a:=fun a aN aO=>by rw [upd_ne _ _ aN,upd_ne _ _ aO]
 have hu:∀op∈(#[x,y]:Array MemOp),op.act.touch? =none∧∀m,op.act≠ .mark m:=by
  intro op K;simp only [List.mem_toArray,List.mem_cons,List.not_mem_nil,or_false] at K;rcases K with rfl | rfl
  ·rw [ae.2];exact⟨rfl,by simp⟩
  ·rw [ag.2];exact⟨rfl,by simp⟩
 have aP:CG F B.N0 B.t0 (gs.size+1) ak al (upd (upd φ gs.size (.ph O)) 0 (.ph U)) (t++ #[x,y]):=by
  refine h.C6.spawn h.A5 ay (fun a aq=>?_) (by rw [ao];exact ab.2.2) (by rw [aj];exact ab.1) aH (fun e=>⟨(ap e).1,by rw [(ap e).1,ao,(ap e).2]⟩) ae ag;by_cases e:a=0
  ·subst e;rw [f0,aj,ab.1,ab.2.1]
  ·rw [av a e (by omega)]
 have aw:BH t w gs.size (upd S 0 s₀) Sh:=h.BW.ghost Z au;have aQ:BH (t++ #[x,y]) w gs.size (upd S 0 s₀) Sh:=by
  refine aw.ext (fun said=>?_) (fun op K a aq=>by rw [(hu op K).1] at aq;cases aq) (fun op K=>?_) rfl fun _ _=>rfl
  ·have e:t++ #[x,y]=(t++ #[x])++ #[y]:=by apply Array.ext';simp
   rw [e];exact noRace_append (g:=gs.size) (noRace_append (g:=0) (h.BW.clean said) (fun op K=>by simp at K;subst K;exact ae.1) fun z a _ op K b hb _=>by rw [(hu op (by simp at K ⊢;exact .inl K)).1] at hb;cases hb)
    (fun op K=>by simp at K;subst K;exact ag.1) fun z a _ op K b hb _=>by rw [(hu op (by simp at K ⊢;exact .inr K)).1] at hb;cases hb
  ·simp only [List.mem_toArray,List.mem_cons,List.not_mem_nil,or_false] at K;rcases K with rfl | rfl
   ·rw [ae.2];trivial
   ·rw [ag.2];trivial
 have aR:BH (t++ #[x,y]) w (gs.size+1) (upd (upd S 0 s₀) gs.size ⟨s₀.E,fun _=>none,false⟩) Sh:=by
  refine aQ.push (i:=0) Z (E:=s₀.E) (fun b o ah=>by rw [upd_same];exact ah) fun b hb z a aS aT aU=>?_;have hold:touchAt t z=some a:=by
   obtain⟨op,ah,ar⟩:=touch_of aS;rcases getElem?_append_cases ah with⟨_,aV⟩ | ⟨_,aW⟩
   ·rw [touchAt_of aV];exact ar
   ·rw [(hu op aW).1] at ar;cases ar
  exact fork_knows ae ag (by rw [h.C6.deaf 0 Z,aj];exact ab.1) (h.C6.above _ (Nat.le_refl _)) (aw.kE 0 Z b (by rw [upd_same];exact hb) z a hold aT aU)
 obtain⟨aX,aY⟩:=aA;obtain⟨aZ,a0⟩:=aB;have ai:∀{α:Type} (f:Nat→α) (a b:α),upd (upd f 0 a) gs.size b 0=a:=fun f a b=>by rw [upd_ne _ _ (by omega),upd_same]
 refine⟨_,_,_,_,am,.inl ⟨upd (upd φ gs.size (.ph O)) 0 (.ph U),upd (upd r 0 aX) gs.size aZ,upd (upd bt 0 true) gs.size true,upd (upd S 0 s₀) gs.size ⟨s₀.E,fun _=>none,false⟩,Sh,ak,al,v,wt',sm,cl,k,?_,?_⟩⟩
 ·rw [aM];refine⟨by rw [an];exact aG,by rw [an];exact aP,fun a o W=>?_,by rw [an];exact aR,h.FO,h.El,h.ne,h.wg,h.EU,fun hb=>(by rw [ai] at hb;cases hb),fun _ _=>aI,?_,h.tape,h.os,h.output⟩
  ·by_cases e:a=0
   ·subst e;rw [Array.getElem?_push_lt (by simpa using Z)] at W;simp at W;subst W;rw [f0,ai,ai,ai];exact .walk aC.symm (fun q=>by rw [aE] at q;cases q) aY
   ·by_cases aa:a=gs.size
    ·subst aa;have:child=o:=by
      rw [show gs.size=(gs.setIfInBounds 0 g').size by simp,Array.getElem?_push_size] at W;exact Option.some.inj W
     subst this;rw [ao,upd_same,upd_same,upd_same];have a1:(gs.size==0)=false:=by rw [beq_eq_false_iff_ne];omega
     rw [a1];exact .walk aD.symm (fun q=>by rw [aF] at q;cases q) a0
    ·rw [av a e aa,upd_ne _ _ aa,upd_ne _ _ e,upd_ne _ _ aa,upd_ne _ _ e,upd_ne _ _ aa,upd_ne _ _ e];have:gs[a]? =some o:=by
      rw [Array.getElem?_push] at W;simp [aa] at W;simpa [Array.getElem?_setIfInBounds_ne (Ne.symm e)] using W
     exact h.C7 a o this
  ·rw [ai];exact h.le.trans fun b o ah=>au.ext b o ah
 ·rw [an];refine NX ?_;simp only [sumTo];rw [ao];have a2:=sumTo_upd (upd φ gs.size (.ph O)) (.ph U) (wt F.n) Z;rw [upd_ne _ _ (by omega),aj] at a2;have a3:=sumTo_upd_out φ (.ph O) (wt F.n) (i:=gs.size) (j:=gs.size) (Nat.le_refl _);omega
theorem Inv.step(h:Inv P F B gs w t φ r bt S Sh j c v wt' sm cl k)(aD:∀k v E E',Le E E'→F.msg k v E→F.msg k v E'):
  ∃gs' w' aE u,stepT P (crowd gs w sl)=(.next (crowd gs' w' aE),u)∧
  ((∃aQ aR aS S' a2 O a3 v' a4 sm' cl' k',Inv P F B gs' w' (t++u) aQ aR aS S' a2 O a3 v' a4 sm' cl' k'∧Mu.lt (mu F gs'.size aQ aR aS) (mu F gs.size φ r bt))∨Over P F B gs' w' (t++u)):=by
 have bw:=h.A5.pos;have aj:=h.A5.size;have aF:0<gs.size:=by omega
 have a5:∀x∈gs,awake x:=by
  intro x K;obtain⟨i,hi,rfl⟩:=Array.mem_iff_getElem.1 K;exact(h.C7 i _ (Array.getElem?_eq_getElem hi)).awake
 have aG:∀i (hi:i<gs.size) p,φ i= .ph p→bt i=true→(gs[i]).status= .running:=by
  intro i hi p a6 hb;have hs:=h.C7 i _ (Array.getElem?_eq_getElem hi);rw [a6,hb] at hs;generalize K:Nx.ph p=x at hs;generalize aa:true=b at hs;generalize gs[i]=o at hs ⊢;generalize r i=ρ at hs;generalize S i=s at hs;cases hs with
  | walk _ _ ao=>exact ao.running
  | again _ _=>rfl
  | Dw _ _=>cases aa
  | DO _ _ _ _=>cases aa
  | blk _ _=>cases aa
  | gone _ _=>cases K
 have a7:∃(i:Nat) (g:Goroutine),gs[i]? =some g∧g.status= .running:=by
  obtain⟨p0,ab,ap⟩:=h.A5.main;cases aH:bt 0 with
  | true=>exact⟨0,_,Array.getElem?_eq_getElem aF,aG 0 aF p0 ab aH⟩
  | false=>
   obtain⟨a8,a9⟩:=h.Jp aH;have aT:=h.C7 0 _ (Array.getElem?_eq_getElem aF);rw [ab,aH] at aT;obtain⟨ak,vs,aU,bx,rfl,_,_⟩:=aT.receiver rfl rfl;obtain⟨ao,U⟩:=ap;have aI:B.N0+F.n<gs.size:=by rw [U] at aj;simp at aj;omega
   have ba:=h.A5.cls U;have ae:=h.A5.mode;rw [if_pos U] at ae;cases au:φ (B.N0+F.n) with
   | gone d=>rw [au] at ae;have:=ae.2.2.2.2.2;rw [a8] at this;cases this
   | ph aJ=>
    cases aK:bt (B.N0+F.n) with
    | true=>exact⟨_,_,Array.getElem?_eq_getElem aI,aG _ aI aJ au aK⟩
    | false=>
     have av:=h.blk U aK;have ag:=h.C7 _ _ (Array.getElem?_eq_getElem aI);have bb:aJ= .Cp:=by
      have aw:=ba;rw [au] at ag aw;rw [aK] at ag;generalize gs[B.N0+F.n]=o at ag;generalize r (B.N0+F.n)=ρ at ag;generalize S (B.N0+F.n)=s at ag;generalize K:Nx.ph aJ=x at ag aw;generalize aa:false=b at ag;cases ag with
      | walk _ _ _=>cases aa
      | again _ _=>cases aa
      | Dw _ _=>cases K;exact aw.elim
      | DO _ _ _ _=>cases K;exact aw.elim
      | blk _ _=>cases K;rfl
      | gone _ _=>cases K
     subst bb;rw [au] at ae;obtain⟨bc,_,_⟩:=ae;have aV:=h.A5.cnt;rw [ab] at aV;simp only [pend,Nat.add_zero] at aV;have hex:∃i,i<gs.size∧1≤cU (φ i)+cL (φ i)+cS (φ i):=by
      apply Classical.byContradiction;intro bd;have aL:∀i,i<gs.size→cU (φ i)=0∧cL (φ i)=0∧cS (φ i)=0:=fun i hi=>by
       have:¬1≤cU (φ i)+cL (φ i)+cS (φ i):=fun q=>bd ⟨i,hi,q⟩;omega
      have zero:∀f:Nat→Nat,(∀i,i<gs.size→f i=0)→sumTo gs.size f=0:=fun f bf=>by
       have:=sumTo_le (f:=f) (c:=0) (j:=gs.size) (fun i hi=>by rw [bf i hi];exact Nat.le_refl _);omega
      have z1:=zero (fun i=>cU (φ i)) fun i hi=>(aL i hi).1;have bz:=zero (fun i=>cL (φ i)) fun i hi=>(aL i hi).2.1;have bA:=zero (fun i=>cS (φ i)) fun i hi=>(aL i hi).2.2;omega
     obtain⟨i,hi,al⟩:=hex;cases aq:φ i with
     | gone d=>rw [aq] at al;simp [cU,cL,cS] at al
     | ph pi=>
      have bg:bt i=true:=by
       cases hb:bt i with
       | true=>rfl
       | false=>
        have hs:=h.C7 i _ (Array.getElem?_eq_getElem hi);rw [aq,hb] at hs;rw [aq] at al;generalize gs[i]=o at hs;generalize r i=ρ at hs;generalize S i=s at hs;generalize K:Nx.ph pi=x at hs al;generalize aa:false=b at hs;cases hs with
        | walk _ _ _=>cases aa
        | again _ _=>cases aa
        | Dw _ _=>simp [cU,cL,cS] at al
        | DO _ _ _ _=>have:=a9 i _ hi (aq.trans K);rw [hb] at this;cases this
        | blk _ _=>simp [cU,cL,cS] at al
        | gone _ _=>cases K
      exact⟨i,_,Array.getElem?_eq_getElem hi,aG i hi pi aq bg⟩
 obtain⟨i,g,d,aE,hi,ay,bh⟩:=crowd_pick (P:=P) (w:=w) (sl:=sl) a5 a7
 suffices Fh P F B gs (w.at d) aE t i (mu F gs.size φ r bt) by
  obtain⟨gs',w',bi,u,aM,az⟩:=this;exact⟨gs',w',bi,u,bh.trans aM,az⟩
 have W:=h.at_ d;have aN:i<gs.size:=(Array.getElem?_eq_some_iff.1 hi).1;have hs:=h.C7 i g hi;generalize K:φ i=x at hs;generalize aW:r i=ρ at hs;generalize hb:bt i=b at hs;generalize aA:S i=s at hs;cases hs with
 | Dw _ _=>cases ay
 | DO _ _ _ _=>cases ay
 | blk _ _=>cases ay
 | gone hm am=>exact W.slip hi ay K aW hm am aA
 | @again ak vs _ aU _ z hm Z=>
  have ai:i=0:=by simpa using hm
  subst ai;refine W.recv aD hi K hb (by rw [aA];exact .refl _) Z (fun w=>?_) rfl;rw [stepG_tries];congr 1;have:=Z.law.run;obtain⟨a,b,c,d,e⟩:=aU;simp only at this;subst this;rfl
 | @walk p _ _ _ hm am ao=>
  have bj:JQ (Stop P F p) g s∨∃f,ρ= .node f∧(∀w,Fits s w→∃g' s' w' es,stepG P (i==0) g w= .go g' w' es∧Jr P (i==0) (JQ (Stop P F p)) (f w) g' s'∧Fits s' w'∧Fr s w s' w'∧(∀e∈es,Ev s w w' e)∧(s= .quiet→s'= .quiet∧w'=w∧es= #[])):=by
   cases ρ with
   | leaf=>exact .inl ao
   | node f=>
    rcases ao with q | ⟨_,q⟩
    ·exact .inl q
    ·exact .inr ⟨f,rfl,q⟩
  rcases bj with⟨s₀,an,Z⟩ | ⟨f,rfl,hgo⟩
  ·subst aA;by_cases aX:∃k',p= .BN k'
   ·obtain⟨k',rfl⟩:=aX;exact W.send aD hi K hb hm an Z
   by_cases c2:∃O,p= .Dp O
   ·obtain⟨O,rfl⟩:=c2;have ai:i=0:=by simpa [Fam.Cr] using hm
    subst ai;obtain⟨p0,ab,ap⟩:=h.A5.main;have:p0= .Dp O:=by rw [K] at ab;exact(Nx.ph.inj ab).symm
    subst this;obtain⟨rfl,bk,U⟩:=ap;obtain⟨g',child,_,_,hgo,aO,aP⟩:=Z.law.go _ rfl;have av:sm=0:=by have:=h.A5.mode;rw [U] at this;exact this.2.2.1
    have bl:=h.A5.spawn K;have aB:F.Cy O= .DT∨F.Cy O= .Dx (O+1):=by unfold Fam.Cy;split;exact .inl rfl;exact .inr rfl
    have ar:F.start O= .BN O∨F.start O= .B6:=by unfold Fam.start;split;exact .inl rfl;exact .inr rfl
    have bm:gs.size=B.N0+O:=by rw [U] at aj;simpa using aj
    refine W.spawn hi K U an (hgo _) aP aO ?_ ?_ ?_ ?_ bl ⟨rfl,?_,?_⟩ (fun k' aY ah=>?_) (fun e=>by rw [U] at e;cases e) ?_ av
    ·rcases aB with e | e <;> rw [e] <;> rfl
    ·rcases ar with e | e <;> rw [e] <;> rfl
    ·rcases aB with e | e <;> rw [e] <;> rfl
    ·rcases ar with e | e <;> rw [e] <;> rfl
    ·rcases aB with e | e <;> rw [e] <;> rfl
    ·rcases ar with e | e <;> rw [e] <;> rfl
    ·by_cases e:k'=O
     ·subst e;rw [upd_ne _ _ (by omega),show B.N0+k'=gs.size by omega,upd_same] at ah;rcases ar with e | e <;> rw [e] at ah <;> exact ah.elim
     ·rw [upd_ne _ _ (by omega),upd_ne _ _ (by omega)] at ah;exact⟨by omega,ah⟩
    ·have:wt F.n (.ph (F.start O))≤10:=by rcases ar with e | e <;> rw [e] <;> simp [wt]
     have az:wt F.n (.ph (F.Cy O))+20≤5*F.n+60+20*(F.n - O):=by
      rcases aB with e | e <;> rw [e] <;> simp only [wt] <;> omega
     have aZ:wt F.n (.ph (.Dp O))=5*F.n+55+20*(F.n - O):=rfl;omega
   by_cases c3:p= .DT
   ·subst c3;have ai:i=0:=by simpa [Fam.Cr] using hm
    subst ai;obtain⟨p0,ab,ap⟩:=h.A5.main;have:p0= .DT:=by rw [K] at ab;exact(Nx.ph.inj ab).symm
    subst this;obtain⟨bk,U⟩:=ap;obtain⟨g',child,_,_,hgo,aO,aP⟩:=Z.law.EC rfl;have av:sm=0:=by have:=h.A5.mode;rw [U] at this;exact this.2.2.1
    have bm:gs.size=B.N0+j:=by rw [U] at aj;simpa using aj
    refine W.spawn hi K U an (hgo _) aP aO rfl rfl rfl rfl (h.A5.Sl K) ⟨rfl,rfl,rfl⟩ (fun k' aY ah=>?_) (fun _=>⟨by omega,rfl⟩) (by simp only [wt];omega) av;rw [upd_ne _ _ (by omega),upd_ne _ _ (by omega)] at ah;exact⟨aY,ah⟩
   by_cases c4:∃ak vs,p= .BF ak vs
   ·obtain⟨ak,vs,rfl⟩:=c4;have ai:i=0:=by simpa [Fam.Cr] using hm
    subst ai;exact W.recv aD hi K hb an Z (fun _=>rfl) rfl
   by_cases a0:p= .Cw
   ·subst a0;exact W.close hi K hm Z
   by_cases aC:p= .Cp∧sm=0
   ·obtain⟨rfl,aC⟩:=aC;exact W.block hi K hb hm an Z aC
   obtain⟨v',w',sm',es,nx,bn⟩:=h.A5.enabled aN K (fun k e=>aX ⟨k,e⟩) (fun k e=>c2 ⟨k,e⟩) c3 (fun ak vs e=>c4 ⟨ak,vs,e⟩) a0 (fun e=>by
    have ae:=h.A5.mode
    subst e
    have a1:c=true∧i=B.N0+F.n:=by
     rcases h.A5.DF aN with rfl | ⟨a,b⟩ | ⟨k',bo,rfl⟩ | q
     ·obtain⟨q,am,bp⟩:=h.A5.main;rw [K] at am;cases am;exact bp.elim
     ·have:=h.A5.old i a b;rw [K] at this;exact this.elim
     ·have:=h.A5.work k' bo;rw [K] at this;exact this.elim
     ·exact q
    rw [if_pos a1.1,← a1.2,K] at ae
    obtain⟨bc,_⟩:=ae
    have:sm≠0:=fun q=>aC ⟨rfl,q⟩
    omega)
   exact W.act hi K hm an Z bn
  ·subst aA;have bq:Fits (S i) (w.at d):=W.BW.fits i aN;obtain⟨g',s',w',es,aM,az,aZ,br,bu,bv⟩:=hgo (w.at d) bq;exact W.own hi K hm am aM az aZ br bu bv (by rw [aW];exact⟨f,_,rfl,rfl⟩)
theorem Inv.run(Z:∀k v E E',Le E E'→F.msg k v E→F.msg k v E'):∀(K:Mu) (gs:Array Goroutine) (w:World) (sl:Option (Nat×Nat)) (t:Trace) (φ:Nat→Nx) (r:Nat→Rk) (bt:Nat→Bool) (S:Nat→St) (Sh:Nat→Prop) (j:Nat) (c:Bool) (v wt' sm:Nat) (cl:Bool) (k:Nat),
  mu F gs.size φ r bt=K→Inv P F B gs w t φ r bt S Sh j c v wt' sm cl k→∃n gs' w' O U,runNT P n (crowd gs w sl) t=(.next (crowd gs' w' O),U)∧Over P F B gs' w' U:=by
 intro K
 induction K using Mu.wf.induction with
 | _ K aa=>
  intro gs w sl t φ r bt S Sh j c v wt' sm cl k ab h;obtain⟨gs',w',O,u,W,hh⟩:=h.step (sl:=sl) Z;rcases hh with⟨ae,ag,ah,S',ai,aj,ak,v',al,sm',cl',k',am,an⟩ | ao
  ·obtain⟨n,ap,aq,ar,au,av,aw⟩:=aa _ (ab▸an) gs' w' O (t++u) ae ag ah S' ai aj ak v' al sm' cl' k' rfl am;exact⟨n+1,ap,aq,ar,au,Il W av,aw⟩
  ·exact⟨1,gs',w',O,t++u,Il W rfl,ao⟩
end
end Pal
namespace Pal
open Go Go.Conc
open Go.ConcN (upd upd_same upd_ne sumTo sumTo_upd sumTo_upd_out sumTo_congr le_sumTo sumTo_le)
def FX(H:LH)(a b:Nat):LH:=fun x=>if x=b then none else if x=a then none else H x
theorem QQ{P:Program}(F:Fam){Q:GP}{g:Goroutine}{s:St}(ag:1≤F.n)(an:F.n<2147483647)(ao:∀k v E E',Le E E'→F.msg k v E→F.msg k v E')
  (W:F.wg≠F.ch) (Z:s.H F.wg=some (F.EB 0 0)) (aa:s.H F.ch=some (.chan 0 #[] false 0 0 false))
  (ap:Way P true (Stop P F (.Dx 0)) g ⟨s.E,FX s.H F.wg F.ch,false⟩) (aq:∀g s,F.fin g s→(CC P).ok Q g s):(CC P).ok Q g s:=by
 intro gs w sl t q Sh hC;have O:0<gs.size:=(Array.getElem?_eq_some_iff.1 hC.main).1;let s1:St:={s with H:=fun b=>if b=F.wg then none else s.H b}
 have ah:lone s 0=s:=rfl;have ar:BH t w gs.size (upd (lone s) 0 s1) (fun b=>Sh b∨b=F.wg):=by
  have:=hC.BW.share (i:=0) O (b₀:=F.wg) (o₀:=F.EB 0 0) (by rw [ah];exact Z);exact this
 have c2:BH t w gs.size (upd (upd (lone s) 0 s1) 0 ⟨s.E,FX s.H F.wg F.ch,false⟩) (fun b=>(Sh b∨b=F.wg)∨b=F.ch):=by
  have:=ar.share (i:=0) O (b₀:=F.ch) (o₀:= .chan 0 #[] false 0 0 false) (by rw [upd_same];simp [s1,Ne.symm W,aa]);refine this.congr fun i hi=>?_;by_cases e:i=0
  ·subst e;rw [upd_same,upd_same,upd_same];exact⟨rfl,rfl⟩
  ·have h:∀(f:Nat→St) (x:St),upd f 0 x i=f i:=fun f x=>upd_ne f x e;constructor <;> simp only [h]
 have ai:∀b,s.H b≠none→∀x a,touchAt t x=some a→Cx a.loc=some b→Knows t 0 x:=fun b hb=>hC.BW.kH 0 O b (by rw [ah];exact hb);have aj:∀b,(b=F.wg∨b=F.ch)→s.H b≠none:=by rintro b (rfl | rfl) <;> simp [Z,aa]
 have ak:=hC.BW.fits 0 O;obtain⟨ρ,au⟩:=ap;let φ:Nat→Nx:=fun i=>if i=0 then .ph (.Dx 0) else .gone (Deaf t i)
 have z:∀f:Nx→Nat,(∀d,f (.gone d)=0)→f (.ph (.Dx 0))=0→(sumTo gs.size fun i=>f (φ i))=0:=by
  intro f al am;have:=sumTo_le (f:=fun i=>f (φ i)) (c:=0) (j:=gs.size) fun i _=>by
   show f (φ i)≤0;by_cases e:i=0
   ·simp [φ,e,am]
   ·simp [φ,e,al]
  omega
 have av:∀i,(upd (upd (lone s) 0 s1) 0 ⟨s.E,FX s.H F.wg F.ch,false⟩) i=if i=0 then⟨s.E,FX s.H F.wg F.ch,false⟩ else .quiet:=by
  intro i;by_cases e:i=0
  ·subst e;rw [upd_same];rfl
  ·rw [upd_ne _ _ e,upd_ne _ _ e];simp [lone,e]
 have aw:F.EB (Fam.word 0 0) (0:Nat)=F.EB 0 0:=by simp [Fam.word]
 have ay:Inv P F ⟨gs.size,t.size,s.E,w⟩ gs w t φ (fun i=>if i=0 then ρ else chain (q i)) (fun _=>true) (upd (upd (lone s) 0 s1) 0 ⟨s.E,FX s.H F.wg F.ch,false⟩) (fun b=>(Sh b∨b=F.wg)∨b=F.ch) 0 false 0 0 0 false 0:=by
  refine⟨⟨O,ag,an,by simp,Nat.zero_le _,by simp,⟨.Dx 0,rfl,rfl,ag,rfl⟩,fun i al am=>?_,fun k K=>by omega,by simp,?_,by simp [φ,pend],?_,fun k K=>by omega,.nil,fun k K=>by cases K⟩,
   ⟨fun i hi=>?_,fun i hi=>hC.lv.above i hi,fun x a b U hb ab K i hi az=>?_,fun x a b U hb ab K=>?_,fun x g aA W aB=> .inl (hC.over x g aA W aB),fun x U e=>?_,Nat.le_refl _,fun k K=>by omega,by simp,by simp⟩,fun i g' ae=>?_,c2,.inl (.inr rfl),.inr rfl,W,?_,?_,by simp,by simp,?_,rfl,rfl,rfl⟩
  ·have:i≠0:=by omega
   simp [φ,this,Dk]
  ·rw [z cU (fun _=>rfl) rfl];simp [φ,pend]
  ·simp only [Bool.false_eq_true,if_false,BZ];exact⟨z cL (fun _=>rfl) rfl,z cS (fun _=>rfl) rfl,trivial,trivial,trivial⟩
  ·by_cases e:i=0
   ·subst e;simp [φ,CN];exact hC.hears
   ·simp [φ,e,CN]
  ·have:i=0:=by
    rcases az with e | e
    ·exact e
    ·exact absurd hi (Nat.not_lt.2 e)
   subst this;exact ai b (aj b ab) x a U hb
  ·exact ai b (aj b ab) x a U hb
  ·have:=lt_of_act? e;have aX:t.size≤x:=U;omega
  ·rw [av];by_cases e:i=0
   ·subst e;rw [hC.main] at ae;obtain rfl:=Option.some.inj ae;simp only [if_true,φ];exact .walk rfl (fun h=>by cases h) au
   ·have hm:(i==0)=false:=by rw [beq_eq_false_iff_ne];exact e
    simp only [e,if_false,φ];exact .gone hm (hC.lv.old i g' (by omega) ae)
  ·show w.heap[F.wg]? =_;rw [aw];exact ak.h _ _ Z
  ·exact ak.h _ _ aa
  ·rw [upd_same];exact Le.refl _
 obtain⟨n,gs',w',aC,aD,aE,aF,aG,g',s',aH,aI,hle,aJ,aK,aL⟩:=Inv.run ao _ _ _ sl _ _ _ _ _ _ _ _ _ _ _ _ _ rfl ay;obtain⟨aM,aN,w2,aO,t2,q2,aP,aQ,s2,k1,aR,aS,aT,aU,aV,aW⟩:=aq g' s' aI gs' w' aC aD aF aG aH;refine⟨n+aM,aN,w2,aO,t2,q2,aP,aQ,s2,?_,aR,aS,fun b o h=>aT b o (hle b o h),aU.trans aJ,aV.trans aK,aW.trans aL⟩;rw [runNT_add,aE];exact k1
end Pal
namespace Pal
open Go Go.Conc
section
variable {P:Program}{F:Fam}{J:Judge P}{Q:GP}{n:Nat}{L L':Env}{ds:List Deferred}{k:List Item}{cs:List Frame}{s s':St}{b:Frame}{main:Bool}
theorem BX(hb:b.roundOf=none)(T:Array Value)(todo:List Item):fr b T ds todo=b.at ⟨T,ds⟩ todo:=by simp [fr,Frame.at,hb]
theorem GL(hb:b.roundOf=none)(T:Array Value)(todo:List Item):CR b T ds todo={b.at ⟨T,ds⟩ todo with mode:= .returning}:=by simp [CR,Frame.at,hb]
theorem Dj(T:Array Value)(ds:List Deferred)(x:Operand):(⟨T,ds⟩:Act).eval x=Bf T x:=by cases x <;> rfl
theorem D3(T:Array Value)(ds:List Deferred)(d:Option Tmp)(v:Value):(⟨T,ds⟩:Act).put d v=⟨BQ T d v,ds⟩:=by cases d <;> rfl
def JO(J:Judge P)(Q:GP)(b:Frame)(n:Nat)(L:Env)(ds:List Deferred)(cs:List Frame)(s:St):Prop:=
 ∀T,Has n L T→∀todo,J.ok Q (G (CR b T ds todo) cs) s
theorem JL.out(K:b.roundOf=none)(h:JO J Q b n L ds cs s):JL J Q b n L ds [] cs s:=fun T O=>
 Judge.Cf rfl (fun w=>by simp [G,stepG,stepG.exec,fr,CR,K]) (h T O [])
theorem JL.F1(K:b.roundOf=none)(h:JO J Q b n L ds cs s):JL J Q b n L ds (.code .ret::k) cs s:=fun T O=>
 Judge.Cf rfl (fun w=>by simp [G,stepG,stepG.exec,fr,CR,K]) (h T O (.code .ret::k))
theorem JO.leave{c:Frame}{v:Value}(O:b.kind= .normal)(K:Bv P b.fn L n s v)(h:J.ok Q (G (c.finish v) cs) s):JO J Q b n L [] (c::cs) s:=fun T U todo=>by
 obtain⟨fn,W,K⟩:=K
 exact Judge.leave O W (K T U) h
theorem JO.leaveD{c:Frame}{fn:Func}(O:b.kind= .deferred)(U:P.funcs[b.fn]? =some fn)(K:fn.results= #[])(W:c.mode= .returning∨c.mode= .panicking [goexitEntry])(h:J.ok Q (G c cs) s):JO J Q b n L [] (c::cs) s:=fun T ab todo=>by
 refine Judge.Cf rfl (fun w=>?_) h
 have Z:=results_none K T P w
 have aa:=fun(x:Array Event)=>events_results_none (P:=P) (w:=w) K T x
 rcases W with e | e <;> simp [G,stepG,unwind,CR,U,Z,aa,doReturn,O,GStep.after,seen_none,e,goexitEntry]
theorem JO.enter{f:FuncId}{fn:Func}{c:Code}{vs:List Value}(O:b.roundOf=none)(W:P.funcs[f]? =some fn)(Z:(fn.name== "runtime.NumGoroutine")=false)(hb:fn.body=some c)(ae:vs.length≤fn.ntmps)
  (h:∀T,Has n L T→∀todo,JL J Q (baseD f) fn.ntmps (D5 0 vs) [] [.code c] (CR b T ds todo::cs) s):JO J Q b n L (dcall f vs.toArray::ds) cs s:=fun T aa todo=>by
 refine Judge.Cf rfl (fun w=>?_) (h T aa todo (vs.toArray++Array.replicate (fn.ntmps - vs.length) undef) ⟨by simp;omega,fun t v ht=>?_⟩)
 ·rw [GL O,stepG_unwind_enter (a:=⟨T,dcall f vs.toArray::ds⟩) rfl W Z hb,GL O]
  rw [BX (b:=baseD f) rfl];simp
 ·obtain⟨_,K⟩:=GI ht;have ab:t<vs.length:=by
   rcases Nat.lt_or_ge t vs.length with U | U
   ·exact U
   ·simp at K;have:=(List.getElem?_eq_some_iff.1 K).1;omega
  rw [Array.getD_eq_getD_getElem?,Array.getElem?_append_left (by simpa using ab)];simp at K;simp [K]
theorem JL.defer{ops:Array Oper}{i:Nat}{rest:List Nat}{d:Option Tmp}{f:FuncId}{args:Array Operand}{ats:Array TypeId}{ty:TypeId}{p:String}{af:Array Edge}{g:Option (Nat×Bool)}{vs:List Value}
  (U:ops[i]? =some ⟨d,.defer ⟨.value (.func f),args,ats⟩,ty,p,af,g⟩) (W:b.roundOf=none) (hw:AU L ops ⟨d,.defer ⟨.value (.func f),args,ats⟩,ty,p,af,g⟩=some true) (K:((b.kind != .early)&&Bb n d)=true)
  (Z:evs L args.toList=some vs) (h:JL J Q b n (AE L d undef) (dcall f vs.toArray::ds) (.inRegion ops rest::k) cs s):
  JL J Q b n L ds (.inRegion ops (i::rest)::k) cs s:=fun T O=>by
 simp only [Bool.and_eq_true] at K
 have aa:args.map (Bf T)=vs.toArray:=by
  rw [← Ed O.D4 Z];apply Array.ext';simp
 refine Judge.oper U (B8 O hw) (by simpa using K.1) (.inl W) ?_;have ab:execOp (Bf T) ⟨d,.defer ⟨.value (.func f),args,ats⟩,ty,p,af,g⟩= .pure (.defer (dcall f vs.toArray)):=by
  simp only [execOp,resolve,bind,Sem.bind,Deferred.ofValue,Bf,pure,dcall];rw [aa];simp
 rw [ab];exact h _ (O.put K.2 undef)
def GY:Ph→Bool
 | .BN _ | .Dp _ | .DT | .BF _ _ | .Cw | .Cp=>false
 | _=>true
theorem EY{p:Ph}{g:Goroutine}(K:GY p=true)(U:g.status= .running)(W:g.offers=none)(O:if Fam.CI p=true then s= .quiet else s.q=false)(Z:p= .C5→mayWake P g=true)
  (h:∀v wt sm v' wt' sm' es nx,F.act p v wt sm=some ((v',wt',sm'),es,nx)→∃g',(∀w,F.WG w v wt sm→stepG P (Fam.Cr p) g w= .go g' (F.put w v' wt' sm') es)∧g'.status= .running∧H8 P (Stop P F) (Fam.Cr p) nx g' (Fam.ED p s)):Stop P F p g s:=
 DV.stop {
  run:=U
  offers:=W
  quiet:=fun e=>by rw [if_pos e] at O;exact O
  live:=fun e=>by rw [if_neg (by rw [e];simp)] at O;exact O
  act:=h
  EL:=fun e=>by rcases e with e | e;exact Z e;subst e;cases K
  C8:=fun e=>by subst e;cases K
  close:=fun e=>by subst e;cases K
  send:=fun k e=>by subst e;cases K
  go:=fun j e=>by subst e;cases K
  EC:=fun e=>by subst e;cases K
  recv:=fun aa vs e=>by subst e;cases K}
theorem GO{w:World}{v wt sm:Nat}(h:F.WG w v wt sm):F.put w v wt sm=w:=by
 unfold Fam.put;have:w.heap.setIfInBounds F.wg (F.EB (Fam.word v wt) sm)=w.heap:=by
  apply Array.ext_getElem?;intro i;by_cases e:F.wg=i
  ·subst e;unfold Fam.WG at h;have O:F.wg<w.heap.size:=by
    rcases Nat.lt_or_ge F.wg w.heap.size with K | K
    ·exact K
    ·simp [Array.getElem?_eq_none K] at h
   rw [Array.getElem?_setIfInBounds_self_of_lt O,h]
  ·rw [Array.getElem?_setIfInBounds_ne e]
 rw [this]
theorem EZ{w:World}{v wt sm:Nat}(h:F.WG w v wt sm):w.cell? F.sA=some (.int .u64 (Fam.word v wt))∧w.cell? F.mA=some (.int .u32 sm)∧w.frozen? F.sA=false∧w.frozen? F.mA=false:=by
 unfold Fam.WG Fam.EB at h;refine⟨?_,?_,?_,?_⟩
 ·simp [World.cell?,Fam.sA,h]
 ·simp [World.cell?,Fam.mA,h]
 ·simp [World.frozen?,Fam.sA,h]
 ·simp [World.frozen?,Fam.mA,h]
theorem Ip{w:World}{v wt sm v' wt':Nat}(h:F.WG w v wt sm):w.setCell F.sA (.int .u64 (Fam.word v' wt'))=F.put w v' wt' sm:=by
 unfold Fam.put World.setCell;congr 1;apply Array.ext_getElem?;intro i;unfold Fam.WG Fam.EB at h;rw [Array.getElem?_modify];have O:F.wg<w.heap.size:=by
  rcases Nat.lt_or_ge F.wg w.heap.size with K | K
  ·exact K
  ·simp [Array.getElem?_eq_none K] at h
 by_cases e:F.wg=i
 ·subst e;rw [Array.getElem?_setIfInBounds_self_of_lt O,h];simp [Fam.sA,Fam.EB]
 ·rw [Array.getElem?_setIfInBounds_ne e];simp [Fam.sA,e]
theorem LG{w:World}{v wt sm sm':Nat}(h:F.WG w v wt sm):w.setCell F.mA (.int .u32 sm')=F.put w v wt sm':=by
 unfold Fam.put World.setCell;congr 1;apply Array.ext_getElem?;intro i;unfold Fam.WG Fam.EB at h;rw [Array.getElem?_modify];have O:F.wg<w.heap.size:=by
  rcases Nat.lt_or_ge F.wg w.heap.size with K | K
  ·exact K
  ·simp [Array.getElem?_eq_none K] at h
 by_cases e:F.wg=i
 ·subst e;rw [Array.getElem?_setIfInBounds_self_of_lt O,h];simp [Fam.mA,Fam.EB]
 ·rw [Array.getElem?_setIfInBounds_ne e];simp [Fam.mA,e]
structure Cq (P:Program) (f:FuncId) (e:Array Value→Sem Value):Prop where
 h:∃fn,P.funcs[f]? =some fn∧(fn.name== "runtime.NumGoroutine")=false∧fn.body.isNone=true∧Extern.findNext fn=none∧Extern.find fn=some e
section
variable {ops:Array Oper}{i:Nat}{rest:List Nat}{d:Option Tmp}{f:FuncId}{args:Array Operand}{ats:Array TypeId}{ty:TypeId}{pp:String}{af:Array Edge}{g:Option (Nat×Bool)}{vs:List Value}{p q:Ph}
theorem K1{T:Array Value}(K:Has n L T)(O:evs L args.toList=some vs):args.map (⟨T,ds⟩:Act).eval=vs.toArray:=by
 have:(⟨T,ds⟩:Act).eval=Bf T:=funext fun x=>Dj T ds x;rw [this,← Ed K.D4 O];apply Array.ext';simp
theorem JL.HK{m:Mark}(Z:GY p=true)(aa:if Fam.CI p=true then s= .quiet else s.q=false)(ab:p≠ .C5)(ae:∀v wt sm,F.act p v wt sm=some ((v,wt,sm),#[Fam.CX m],.ph q))(ag:Fam.ED p s=s)
  (ah:ops[i]? =some ⟨d,.call ⟨.value (.func f),args,ats⟩,ty,pp,af,g⟩) (O:b.roundOf=none) (hw:AU L ops ⟨d,.call ⟨.value (.func f),args,ats⟩,ty,pp,af,g⟩=some true) (K:((b.kind != .early)&&Bb n d)=true)
  (hm:∀x,m≠ .extern x) (he:Cq P f (fun _=>do mark m;pure Extern.Race.none_))
  (h:JL (A4 P (Fam.Cr p)) (Stop P F q) b n (AE L d (.tuple #[])) ds (.inRegion ops rest::k) cs s):
  JL (A4 P (Fam.Cr p)) (Stop P F p) b n L ds (.inRegion ops (i::rest)::k) cs s:=fun T U=>by
 simp only [Bool.and_eq_true] at K
 obtain⟨fn,ai,aj,hb,ak,he⟩:=he.h
 refine(A4 P _).stop (EY Z rfl rfl aa (fun e=>absurd e ab) fun v wt sm v' wt' sm' es nx W=>?_)
 rw [ae] at W;cases W
 refine⟨_,fun w al=>?_,rfl,by rw [ag];exact h _ (U.put K.2 _)⟩
 rw [BX O,BX O,stepG_mark0 (a:=⟨T,ds⟩) m hm ah (B8 U hw) (by simpa using K.1) rfl ai aj hb ak he,GO al,D3]
 rfl
theorem JL.HA{mk:Addr→Mark}{ad:Addr}(Z:GY p=true)(aa:if Fam.CI p=true then s= .quiet else s.q=false)(ab:p≠ .C5)(ae:∀v wt sm,F.act p v wt sm=some ((v,wt,sm),#[Fam.CX (mk ad)],.ph q))
  (ag:ops[i]? =some ⟨d,.call ⟨.value (.func f),args,ats⟩,ty,pp,af,g⟩) (U:b.roundOf=none) (hw:AU L ops ⟨d,.call ⟨.value (.func f),args,ats⟩,ty,pp,af,g⟩=some true) (K:((b.kind != .early)&&Bb n d)=true)
  (hm:∀ad x,mk ad≠ .extern x) (he:Cq P f (Extern.Race.marked mk)) (ah:evs L args.toList=some vs) (ai:vs[0]? =some (.pointer (some ad)))
  (h:JL (A4 P (Fam.Cr p)) (Stop P F q) b n (AE L d (.tuple #[])) ds (.inRegion ops rest::k) cs (Fam.ED p s)):
  JL (A4 P (Fam.Cr p)) (Stop P F p) b n L ds (.inRegion ops (i::rest)::k) cs s:=fun T O=>by
 simp only [Bool.and_eq_true] at K
 obtain⟨fn,aj,ak,hb,al,he⟩:=he.h
 refine(A4 P _).stop (EY Z rfl rfl aa (fun e=>absurd e ab) fun v wt sm v' wt' sm' es nx W=>?_)
 rw [ae] at W;cases W
 refine⟨_,fun w am=>?_,rfl,h _ (O.put K.2 _)⟩
 rw [BX U,BX U,stepG_markAt (a:=⟨T,ds⟩) mk hm ag (B8 O hw) (by simpa using K.1) rfl aj ak hb al he (ad:=ad) (by rw [K1 O ah];simpa using ai),GO am,D3]
 rfl
end
end
end Pal
namespace Pal
open Go Go.Conc
section
variable {E H:LH}{S:List Seg}{j l:Nat}{o o':Obj}
theorem IJ(ah:Ax E H S)(W:S[j]? =some [(l,o)])(o':Obj):(Am E H S).upd l o'=Am E H (S.set j [(l,o')])∧Ax E H (S.set j [(l,o')]):=by
 obtain⟨K,Z⟩:=Eu ah W;have U:=Nd.iff.1 Z;have aa:E l=none:=(U.2 (l,o) (by simp)).1;have ai:H l=none:=(U.2 (l,o) (by simp)).2;have ab:Nd E H (S.set j []).flatten:=JL.FY.Nd.left Z;have aj:∀q∈(S.set j []).flatten,q.1≠l:=fun q O e=>by
  have:=U.1;rw [List.map_append,List.nodup_append] at this;exact this.2.2 q.1 (List.mem_map_of_mem O) l (by simp) e
 have ae:AS (S.set j []).flatten H l=none:=by
  have key:∀(B:List (Nat×Obj)),(∀q∈B,q.1≠l)→AS B H l=none:=by
   intro B
   induction B with
   | nil=>intro _;exact ai
   | cons q B ak=>
    intro O;obtain⟨c,al⟩:=q;have ag:l≠c:=fun e=>O (c,al) (by simp) e.symm;have K:=ak fun am an=>O am (List.mem_cons_of_mem _ an);simp only [AS]
    first
    | rw [if_neg ag];exact K
    | rw [if_neg (Ne.symm ag)];exact K
  exact key _ aj
 have f1:=GK (E:=E) (H:=H) (B:=(S.set j []).flatten) (r:=l) aa ae o ab;have f2:=GK (E:=E) (H:=H) (B:=(S.set j []).flatten) (r:=l) aa ae o' ab;obtain⟨ao,ap⟩:=FB (seg:= [(l,o)]) W f2.1;refine⟨?_,ap⟩;rw [K,← ao,← f1.2,← f2.2];unfold St.upd;congr 1;funext x;by_cases aq:x=l <;> simp [aq]
end
section
variable {P:Program}{J:Judge P}{Q:Goroutine→St→Prop}{b:Frame}{n:Nat}{L:Env}{ds:List Deferred}{k:List Item}{cs:List Frame}{E H:LH}{S:List Seg}{j l:Nat}
theorem Judge.C8{α:Type}{g:Goroutine}{g':α→Goroutine}{s:St}(x:Sem α)(aa:s.q=false)(ab:g.status= .running)
  (ae:∀w a w',x.run P w= .ok a w'→∃es,stepG P J.main g w= .go (g' a) w' es∧∀e∈es,e∈x.events P w #[])
  (h:lp P x s (fun a s'=>J.ok Q (g' a) s') (fun _ _=>False)):J.ok Q g s:=by
 refine J.step ⟨ab,fun w f=>?_,fun e=>by subst e;cases aa⟩;obtain⟨s',O,U,W,K⟩:=IA _ h f;cases Z:x.run P w with
 | ok a w'=>
  rw [Z] at O U W K;simp only [GA] at O U W;obtain⟨es,he,hm⟩:=ae w a w' Z;exact⟨g' a,s',w',es,he,K,O,U,fun e ag=>W e (hm e ag)⟩
 | halt a w'=>rw [Z] at K;exact K.elim
theorem Im{r:Loop}{s:St}{K:Loop→St→Prop}{X:Halt→St→Prop}(h:s.get l=some (.loop r))(k:K r s):lp P (Instr.getLoop l) s K X:=by
 unfold Instr.getLoop getObj;simp only [bind,Sem.bind,lp];exact⟨_,h,rfl,k⟩
def TE(K:Nat):Deferred:=⟨.collected K,#[]⟩
theorem Lz{r:Loop}{T:Array Value}(j:Nat)(K:Ax E H S)(O:S[j]? =some [(l,.loop r)])(hs:(r.state== .busy)=false)(U:r.pending=none)
  (h:Ax E H (S.set j [(l,.loop {r with state:= .exhausted})])→J.ok Q (G (fr b T ds k) cs) (Am E H (S.set j [(l,.loop {r with state:= .exhausted})]))):
  J.ok Q (G (fr b T ds (.endRangeFunc l::k)) cs) (Am E H S):=by
 obtain⟨u1,W⟩:=IJ K O (.loop {r with state:= .exhausted});have Z:lp P (Instr.endLoop l) (Am E H S) (fun a s'=>a=none∧s'=Am E H (S.set j [(l,.loop {r with state:= .exhausted})])) (fun _ _=>False):=by
  unfold Instr.endLoop;refine AD _ _ (Im (CV (i:=0) K O rfl) ?_);rw [if_neg (by rw [hs];simp)];have aa:(Am E H S).H l=some (.loop r):=by
   have:=CV (i:=0) K O rfl;have ab:E l=none:=Hz K O;unfold St.get at this;rw [show(Am E H S).E l=none from ab] at this;exact this
  simp only [bind,Sem.bind,lp,setObj,pure];refine⟨⟨_,aa,rfl⟩,rfl,U,?_⟩;exact u1
 refine Judge.C8 (g':=fun ae=>G (fr b T ds ((ae.map Item.code).toList++k)) cs) (Instr.endLoop l) rfl rfl (fun w a w' ag=>?_) (Cl _ Z (fun a s' ⟨ah,ai⟩=>by subst ah ai;exact h W) (fun _ _ h=>h));refine⟨seen P b.fn ((Instr.endLoop l).events P w #[])++ #[],?_,fun e he=>?_⟩
 ·simp [G,stepG,stepG.exec,fr,ag,GStep.after]
 ·exact mem_seen (by simpa using he)
theorem TC(f:FuncId)(T:Array Value)(as K:Code):Frame.round l f T as K .normal=fr {(default:Frame) with fn:=f,kind:= .normal,roundOf:=some l} T [] [.code as,.beginRound,.code K]:=rfl
def NY(l:Nat)(f:FuncId):Frame:={(default:Frame) with fn:=f,kind:= .normal,roundOf:=some l}
theorem Df.yield{r:Loop}{t:Tmp}{v:Value}{B:Seg}{R:Value→LH→Seg→Prop}{i:Nat}(K:B[i]? =some (l,.loop r))(O:r.params= #[t])
  (h:∀(Q:Goroutine→St→Prop) (U:Frame) (cs:List Frame) (H:LH),Ax E H [B]→(∀w E' S' B',Le E E'→S'.flatten=B'→R w E' B'→Ax E' H S'→J.ok Q (G (U.finish w) cs) (Am E' H S'))→
   J.ok Q (G (fr (NY l r.fn) (r.tmps.setIfInBounds t v) [] [.code r.assign,.beginRound,.code r.body]) (U::cs)) (Am E H [B])):
  Df J (.func (.yield l) #[] #[]) [v] E B R:=fun H W Q c cs Z=>by
 have aa:(mk E H B).get l=some (.loop r):=JN W K
 simp only [Deferred.ofValue,bind,Sem.bind,pure,invoke]
 unfold Instr.yield
 refine AD _ _ (Im aa ?_)
 have ab:¬((#[]:Array Value)++ [v].toArray).size≠r.params.size:=by rw [O];simp
 rw [if_neg ab];have ae:((r.params.zip ((#[]:Array Value)++ [v].toArray)).foldl (fun tmps (t,a)=>tmps.setIfInBounds t a) r.tmps)=r.tmps.setIfInBounds t v:=by rw [O];simp [Array.zip,Array.zipWith,Array.zipWithMAux]
 simp only [lp,pure];have ag:mk E H B=Am E H [B]:=by unfold Am;simp
 rw [ae,ag];exact h Q c cs H (by unfold Ax;simpa using W) fun w E' S' B' hle K ah ai=>by
  subst K;exact Z w _ ⟨E',S'.flatten,hle,ah,ai,rfl⟩
theorem JL.beginRound{r:Loop}(j:Nat)(U:b.roundOf=some l)(W:b.kind= .normal)(K:Ax E H S)(O:S[j]? =some [(l,.loop r)])(hs:r.state= .ready)
  (h:Ax E H (S.set j [(l,.loop {r with state:= .busy})])→JL J Q b n L ds k cs (Am E H (S.set j [(l,.loop {r with state:= .busy})]))):
  JL J Q b n L ds (.beginRound::k) cs (Am E H S):=fun T Z=>by
 obtain⟨u1,aa⟩:=IJ K O (.loop {r with state:= .busy})
 have ab:lp P (Instr.beginRound l) (Am E H S) (fun _ s'=>s'=Am E H (S.set j [(l,.loop {r with state:= .busy})])) (fun _ _=>False):=by
  unfold Instr.beginRound;refine AD _ _ (Im (CV (i:=0) K O rfl) ?_);have ae:(Am E H S).H l=some (.loop r):=by
   have:=CV (i:=0) K O rfl;have ag:E l=none:=Hz K O;unfold St.get at this;rw [show(Am E H S).E l=none from ag] at this;exact this
  simp only [bind,Sem.bind,lp,setObj,pure,hs];exact⟨⟨_,ae,rfl⟩,rfl,u1⟩
 refine Judge.C8 (g':=fun _=>G (fr b T ds k) cs) (Instr.beginRound l) rfl rfl (fun w a w' ah=>?_) (Cl _ ab (fun a s' ai=>by subst ai;exact h aa T Z) (fun _ _ h=>h));refine⟨seen P b.fn ((Instr.beginRound l).events P w #[])++ #[],?_,fun e he=>?_⟩
 ·simp [G,stepG,stepG.exec,fr,stepG.apply,U,W,ah,GStep.after,Frame.finish]
 ·exact mem_seen (by simpa using he)
theorem Jo{o:Obj}{seg:Seg}(K:Ax E H S)(O:S[j]? =some ((l,o)::seg)):(Am E H S).H l=some o:=by
 have:=CV (i:=0) K O rfl;have U:E l=none:=Hz K O;unfold St.get at this;rw [show(Am E H S).E l=none from U] at this;exact this
theorem JL.endRound{r:Loop}{c:Frame}(j:Nat)(U:b.roundOf=some l)(W:b.kind= .normal)(K:Ax E H S)(O:S[j]? =some [(l,.loop r)])
  (h:Ax E H (S.set j [(l,.loop {r with state:= .ready,pending:=none})])→J.ok Q (G (c.finish (.bool true)) cs) (Am E H (S.set j [(l,.loop {r with state:= .ready,pending:=none})]))):
  JL J Q b n L [] [] (c::cs) (Am E H S):=fun T ah=>by
 obtain⟨u1,Z⟩:=IJ K O (.loop {r with state:= .ready,pending:=none})
 have aa:lp P (Instr.endRound l none) (Am E H S) (fun a s'=>a= .bool true∧s'=Am E H (S.set j [(l,.loop {r with state:= .ready,pending:=none})])) (fun _ _=>False):=by
  unfold Instr.endRound;refine AD _ _ (Im (CV (i:=0) K O rfl) ?_);simp only [bind,Sem.bind,lp,setObj,pure];exact⟨⟨_,Jo K O,rfl⟩,rfl,rfl,u1⟩
 refine Judge.C8 (g':=fun v=>G (c.finish v) cs) (Instr.endRound l none) rfl rfl (fun w a w' ab=>?_) (Cl _ aa (fun a s' ⟨ae,ag⟩=>by subst ae ag;exact h Z) (fun _ _ h=>h));refine⟨seen P b.fn ((Instr.endRound l none).events P w #[])++ #[],?_,fun e he=>?_⟩
 ·simp [G,stepG,stepG.exec,fr,U,W,ab,GStep.after,doReturn]
 ·exact mem_seen (by simpa using he)
theorem JL.rangeFunc{x:Operand}{params:Array Tmp}{as O:Code}{f:FuncId}{caps:List Value}(ai:b.roundOf=none)(aj:b.kind≠ .early)(ab:ev L x=some (.func (.func f) #[] caps.toArray))(hb:Cv P f=true)(ak:Ax E H S)
  (h:∀K l T,Has n L T→Ax E H (S++ [[(K,.deferred (some []))]]++ [[(l,.loop ⟨.ready,none,b.fn,T,params,as,O,K⟩)]])→
   J.ok Q (G (Frame.enter P f (.func (.yield l) #[] #[]::caps).toArray .normal) (fr b T (⟨.collected K,#[]⟩::ds) (.inRangeFunc l::k)::cs)) (Am E H (S++ [[(K,.deferred (some []))]]++ [[(l,.loop ⟨.ready,none,b.fn,T,params,as,O,K⟩)]]))):
  JL J Q b n L ds (.code (.rangeFunc x params as O)::k) cs (Am E H S):=fun T ae=>by
 have al:lp P (Instr.enterLoop b.fn T params as O b.roundOf) (Am E H S) (fun q s'=>∃K,q.2= [⟨.collected K,#[]⟩]∧Ax E H (S++ [[(K,.deferred (some []))]]++ [[(q.1,.loop ⟨.ready,none,b.fn,T,params,as,O,K⟩)]])∧s'=Am E H (S++ [[(K,.deferred (some []))]]++ [[(q.1,.loop ⟨.ready,none,b.fn,T,params,as,O,K⟩)]])) (fun _ _=>False):=by
  unfold Instr.enterLoop;rw [ai];simp only [newObj,bind,Sem.bind,lp,pure];refine⟨rfl,fun K W Z=>?_⟩;obtain⟨aa,am⟩:=GK W Z (.deferred (some [])) ak;obtain⟨p1,p2⟩:=Db aa;have an:(Am E H S).upd K (.deferred (some []))=Am E H (S++ [[(K,.deferred (some []))]]):=by rw [← p1,← am];rfl
  rw [an];refine⟨rfl,fun l ao ap=>?_⟩;obtain⟨aq,ar⟩:=GK ao ap (.loop ⟨.ready,none,b.fn,T,params,as,O,K⟩) p2;obtain⟨p3,p4⟩:=Db aq;exact⟨K,rfl,p4,by rw [← p3,← ar];rfl⟩
 refine Judge.C8 (g':=fun q=>G (Frame.enter P f (.func (.yield q.1) #[] #[]::caps).toArray .normal) (fr b T (q.2++ds) (.inRangeFunc q.1::k)::cs)) (Instr.enterLoop b.fn T params as O b.roundOf) rfl rfl (fun w a w' au=>?_) (Cl _ al (fun a s' ⟨K,W,Z,aa⟩=>by subst aa;simp only [W];exact h K a.1 T ae Z) (fun _ _ h=>h));obtain⟨l,mk⟩:=a;have av:Bf T x= .func (.func f) #[] caps.toArray:=ae.ev ab;obtain⟨fn,U,aw,ag⟩:∃fn,P.funcs[f]? =some fn∧(fn.name== "runtime.NumGoroutine")=false∧fn.body.isNone=false:=by
  unfold Cv at hb;cases U:P.funcs[f]? with
  | none=>rw [U] at hb;cases hb
  | some fn=>
   rw [U] at hb;simp only [Bool.and_eq_true,Bool.not_eq_true'] at hb;exact⟨fn,rfl,hb.1,by cases ab:fn.body <;> simp_all⟩
 refine⟨seen P b.fn ((Instr.enterLoop b.fn T params as O b.roundOf).events P w #[])++ #[],?_,fun e he=>?_⟩
 ·have ah:=MA (b:=b) (ds:=mk++ds) T (.inRangeFunc l::k);simp only [fr] at ah;have ay:¬fn.name= "runtime.NumGoroutine" :=by simpa using aw
  have az:¬fn.body=none:=by intro e;rw [e] at ag;cases ag
  have aA:Bf T (.const (.func (.yield l) #[] #[]))= .func (.yield l) #[] #[]:=rfl;simp [G,stepG,stepG.exec,fr,au,GStep.after,stepG.apply,resolve,ah,av,Deferred.ofValue,invoke,callFunc,U,ay,az,aj,aA,seen_none]
 ·exact mem_seen (by simpa using he)
theorem JO.collected{K:Nat}(j:Nat)(ah:b.roundOf=none)(O:Ax E H S)(U:S[j]? =some [(K,.deferred (some []))])
  (h:Ax E H (S.set j [(K,.deferred none)])→JO J Q b n L ds cs (Am E H (S.set j [(K,.deferred none)]))):JO J Q b n L (⟨.collected K,#[]⟩::ds) cs (Am E H S):=fun T W todo=>by
 obtain⟨u1,Z⟩:=IJ O U (.deferred none)
 have aa:lp P (Instr.takeDeferred K) (Am E H S) (fun a s'=>a= []∧s'=Am E H (S.set j [(K,.deferred none)])) (fun _ _=>False):=by
  unfold Instr.takeDeferred getObj;simp only [bind,Sem.bind,lp,setObj,pure];exact⟨_,CV (i:=0) O U rfl,rfl,⟨_,Jo O U,rfl⟩,rfl,rfl,u1⟩
 refine Judge.C8 (g':=fun l=>G (CR b T (l++ds) todo) cs) (Instr.takeDeferred K) rfl rfl (fun w a w' ab=>?_) (Cl _ aa (fun a s' ⟨ae,ag⟩=>by subst ae ag;exact h Z T W todo) (fun _ _ h=>h));refine⟨seen P b.fn ((Instr.takeDeferred K).events P w #[])++ #[],?_,fun e he=>?_⟩
 ·simp [G,stepG,unwind,CR,ab,GStep.after]
 ·exact mem_seen (by simpa using he)
def H6(f:FuncId)(args caps:Array Value):Deferred:={target:= .fn (.func f) caps,args:=args}
theorem JO.Nl{f:FuncId}{fn:Func}{c:Code}{vs caps:List Value}(ag:b.roundOf=none)(O:P.funcs[f]? =some fn)(W:(fn.name== "runtime.NumGoroutine")=false)(hb:fn.body=some c)(Z:(vs++caps).length≤fn.ntmps){s:St}
  (h:∀T,Has n L T→∀todo,JL J Q (baseD f) fn.ntmps (D5 0 (vs++caps)) [] [.code c] (CR b T ds todo::cs) s):JO J Q b n L (H6 f vs.toArray caps.toArray::ds) cs s:=fun T aa todo=>by
 have ab:¬fn.name= "runtime.NumGoroutine" :=by simpa using W
 refine Judge.Cf rfl (fun w=>?_) (h T aa todo ((vs++caps).toArray++Array.replicate (fn.ntmps - (vs++caps).length) undef) ⟨by simp;simp at Z;omega,fun t v ht=>?_⟩)
 ·rw [BX (b:=baseD f) rfl];have:=enter_atD (P:=P) (vs++caps).toArray O hb;simp only [List.size_toArray] at this;rw [← this];simp [G,stepG,unwind,callDeferred,CR,H6,invoke,callFunc,O,ab,hb,GStep.after,seen_none]
 ·obtain⟨_,K⟩:=GI ht;have ae:t<(vs++caps).length:=by
   rcases Nat.lt_or_ge t (vs++caps).length with U | U
   ·exact U
   ·simp only [Nat.sub_zero] at K;have:=(List.getElem?_eq_some_iff.1 K).1;omega
  rw [Array.getD_eq_getD_getElem?,Array.getElem?_append_left (by simpa using ae)];simp only [Nat.sub_zero] at K;rw [List.getElem?_toArray,K];rfl
theorem JL.Nw{ops:Array Oper}{i:Nat}{rest:List Nat}{d:Option Tmp}{x:Operand}{f:FuncId}{caps:List Value}{args:Array Operand}{ats:Array TypeId}{ty:TypeId}{p:String}{af:Array Edge}{g:Option (Nat×Bool)}{vs:List Value}{s:St}
  (U:ops[i]? =some ⟨d,.defer ⟨.value x,args,ats⟩,ty,p,af,g⟩) (W:b.roundOf=none) (hw:AU L ops ⟨d,.defer ⟨.value x,args,ats⟩,ty,p,af,g⟩=some true) (O:((b.kind != .early)&&Bb n d)=true)
  (Z:ev L x=some (.func (.func f) #[] caps.toArray)) (aa:evs L args.toList=some vs) (h:JL J Q b n (AE L d undef) (H6 f vs.toArray caps.toArray::ds) (.inRegion ops rest::k) cs s):
  JL J Q b n L ds (.inRegion ops (i::rest)::k) cs s:=fun T K=>by
 simp only [Bool.and_eq_true] at O
 have ab:args.map (Bf T)=vs.toArray:=by
  rw [← Ed K.D4 aa];apply Array.ext';simp
 refine Judge.oper U (B8 K hw) (by simpa using O.1) (.inl W) ?_;have ae:execOp (Bf T) ⟨d,.defer ⟨.value x,args,ats⟩,ty,p,af,g⟩= .pure (.defer (H6 f vs.toArray caps.toArray)):=by
  simp only [execOp,resolve,bind,Sem.bind,Deferred.ofValue,K.ev Z,pure,H6];rw [ab];simp
 rw [ae];exact h _ (K.put O.2 undef)
end
end Pal
namespace Pal
open Go Go.Conc
section
variable {P:Program}{s:St}{ρ:Operand→Value}{x y z:Operand}{d:Option Tmp}{t u ty e:TypeId}{p:String}{af:Array Edge}{g:Option (Nat×Bool)}{a:Option Addr}{l c:Nat}
theorem Yl.I2(ht:P.underlying t=some (.slice e))(K:ρ x= .slice a l c)(O:ρ (.const (.slice none 0 0))= .slice none 0 0):Yl P ⟨d,.binOp .eql t x (.const (.slice none 0 0)) u,ty,p,af,g⟩ ρ s (.bool a.isNone):=by
 refine Yl.DL (sm:=do eqGuard .eql t x (.const (.slice none 0 0)) (ρ x) (ρ (.const (.slice none 0 0)));binOp .eql t (ρ x) (ρ (.const (.slice none 0 0)))) rfl ?_
 rw [K,O];have U:lp P (eqGuard .eql t x (.const (.slice none 0 0)) (.slice a l c) (.slice none 0 0)) s (fun _ s'=>s'=s) (fun _ _=>False):=by
  simp [eqGuard,lp,pure]
 refine AD _ _ (Cl _ U ?_ (fun _ _ h=>h));rintro _ _ rfl;have hb:binOp .eql t (.slice a l c) (.slice none 0 0)=(do pure (.bool (← Op.equal t (.slice a l c) (.slice none 0 0)))):=rfl
 rw [hb];refine AD (x:=Op.equal t (.slice a l c) (.slice none 0 0)) _ ?_;unfold Op.equal Op.maxDepth Op.equalIn;refine AD _ _ (Ck ht ?_);cases a <;> exact⟨rfl,rfl⟩
end
def Dv{α B:Type}(step:B→α→Option B):List α→B→Option B
 | [],b=>some b
 | x::l,b=>(step b x).bind fun K=>Dv step l K
section
variable {P:Program}{J:Judge P}{Q:Goroutine→St→Prop}{b:Frame}{n:Nat}{L:Env}{ds:List Deferred}{k:List Item}{cs:List Frame}{s:St}
theorem JL.Qo{α B:Type}{c:Code}{l:List α}{step:B→α→Option B}{acc acc':B}(ag:Dv step l acc=some acc')(I:Env→St→Nat→B→Prop)(ah:I L s 0 acc)
  (round:∀L s i K x O,I L s i K→l[i]? =some x→i<l.length→step K x=some O→(∀L' s',I L' s' (i+1) O→JL J Q b n L' ds (.inLoop c::k) cs s')→JL J Q b n L ds (.code c:: .inLoop c::k) cs s)
  (exit:∀L s,I L s l.length acc'→JL J Q b n L ds (.code c:: .inLoop c::k) cs s):JL J Q b n L ds (.code (.loop c)::k) cs s:=by
 refine JL.G4 ?_;have key:∀(rest:List α) (i:Nat) (K:B),l.drop i=rest→Dv step rest K=some acc'→∀L s,I L s i K→i≤l.length→JL J Q b n L ds (.code c:: .inLoop c::k) cs s:=by
  intro rest
  induction rest with
  | nil=>
   intro i K U W L s Z hle;have:l.length≤i:=by simpa using U
   obtain rfl:i=l.length:=by omega
   obtain rfl:K=acc':=Option.some.inj W;exact exit L s Z
  | cons x rest ai=>
   intro i K U W L s Z hle;have ab:l[i]? =some x:=by
    have aa:(l.drop i)[0]? =some x:=by rw [U];rfl
    simpa using aa
   have ae:i<l.length:=(List.getElem?_eq_some_iff.1 ab).1;obtain⟨O,aa,aj⟩:=Option.bind_eq_some_iff.1 W;refine round L s i K x O Z ab ae aa fun L' s' ak=>JL.again (ai (i+1) O ?_ aj L' s' ak ae);rw [← List.drop_drop,U];rfl
 exact key l 0 acc rfl ag L s ah (Nat.zero_le _)
end
section
variable {P:Program}{J:Judge P}{Q:Goroutine→St→Prop}{b:Frame}{n:Nat}{ds:List Deferred}{ops:Array Oper}{k:List Item}{cs:List Frame}{m fuel:Nat}{listed:Array Bool}{L:Env}{E H:LH}{S:List Seg}
variable {d:Option Tmp}{x y:Operand}{t u ty e:TypeId}{p:String}{af:Array Edge}{g:Option (Nat×Bool)}{v:Value}{i:Nat}
theorem Take.On(O:Ax E H S)(U:ops[i]? =some ⟨d,.box e x,ty,p,af,g⟩)(hw:AU L ops ⟨d,.box e x,ty,p,af,g⟩=some true)(W:Bb n d=true)(Z:ev L x=some v)
  (h:∀r,Ax E H (S++ [[(r,.cells v.cells e (0,0))]])→Au J Q b n ds ops k cs m Dd fuel (AX listed i) (AE L d (.pointer (some ⟨r,0,none⟩))) (Am E H (S++ [[(r,.cells v.cells e (0,0))]]))):
  Take J Q b n ds ops k cs m Dd fuel listed L (Am E H S) i:=
 Take.Jx U (by simp [Cs,W]) hw fun ρ aa=>by
  show lp P (do pure (Next.value (← Instr.box e (ρ x)))) _ _ _
  rw [aa x v Z]
  refine AD _ _ ?_
  unfold Instr.box
  refine AD _ _ (EX O fun r K=>?_)
  rw [(Db K).1]
  exact h r (Db K).2
end
end Pal
namespace Pal
open Go Go.Conc
def EO(P:Program)(d:Nat):GP:=fun g _=>∃q,QuitsD P q d g
def FH(P:Program):Frame:={(default:Frame) with fn:=P.funcs.size,defers:= [],mode:= .panicking [goexitEntry]}
section
variable {P:Program}{F:Fam}{J:Judge P}{Q:GP}{n:Nat}{L L':Env}{ds:List Deferred}{k:List Item}{cs:List Frame}{s s':St}{b:Frame}{main:Bool}
theorem Lv.quits{d:Nat}:∀{m:Nat} {g:Goroutine},Lv P (EO P d) m g→∃q,QuitsD P q d g
 | 0,_,h=>h
 | m+1,_,h=>by
  rcases h with h | ⟨K,g',O,h⟩
  ·exact h
  ·obtain⟨q,U⟩:=h.quits;exact⟨q+1,.ctl K O U⟩
theorem Ij{d:Nat}{g:Goroutine}(h:(Es P).ok (EO P d) g .quiet):∃q,QuitsD P q d g:=by
 obtain⟨m,hm⟩:=h rfl;exact hm.quits
theorem Hn:(Es P).ok (EO P 0) (G (FH P) []) .quiet:=by
 refine Judge.Cf (g':={frame:=FH P,callers:= [],status:= .finished,dying:=none}) rfl (fun w=>?_) ((Es P).stop ⟨0,rfl,rfl⟩);have K:(default:Frame).todo= []:=rfl;have O:∀(m:FrameMode),Frame.catches P {fn:=P.funcs.size,tmps:=(default:Frame).tmps,todo:= [],defers:= [],mode:=m,kind:=(default:Frame).kind,roundOf:=(default:Frame).roundOf}=false:=fun m=>by simp [Frame.catches]
 simp [G,stepG,unwind,FH,goexitEntry,K,O]
theorem PW{ops:Array Oper}{i:Nat}{rest:List Nat}{d:Option Tmp}{f:FuncId}{args:Array Operand}{ats:Array TypeId}{ty:TypeId}{pp:String}{af:Array Edge}{g:Option (Nat×Bool)}{T:Array Value}{e:Array Value→Sem Value}
  (K:ops[i]? =some ⟨d,.call ⟨.value (.func f),args,ats⟩,ty,pp,af,g⟩) (he:Cq P f e):mayWake P (G (fr b T ds (.inRegion ops (i::rest)::k)) cs)=true:=by
 obtain⟨fn,O,_,hb,_⟩:=he.h;have U:fn.body.isSome=false:=by cases h:fn.body <;> simp_all
 simp [mayWake,G,fr,K,Frame.eval,O,U]
theorem Ql{v wt:Nat}(K:1≤v)(O:v<2147483648)(U:wt≤1):IntKind.u64.wrap (Fam.word v wt+18446744069414584320)=Fam.word (v - 1) wt:=by
 simp only [Fam.word,Fam.KK,IntKind.wrap,IntKind.bits,IntKind.signed];simp;omega
theorem Qi{v:Nat}(h:v<2147483647):IntKind.u64.wrap (Fam.word v 0+4294967296)=Fam.word (v+1) 0:=by
 simp only [Fam.word,Fam.KK,IntKind.wrap,IntKind.bits,IntKind.signed];simp;omega
theorem word_inj{v v' wt:Nat}(h:Fam.word v wt=Fam.word v' wt):v=v':=by
 simp only [Fam.word,Fam.KK] at h;omega
section
variable {ops:Array Oper}{i:Nat}{rest:List Nat}{d:Option Tmp}{f:FuncId}{x y z:Operand}{ats:Array TypeId}{ty:TypeId}{pp:String}{af:Array Edge}{g:Option (Nat×Bool)}{p q:Ph}
theorem JL.S8(ab:ops[i]? =some ⟨d,.call ⟨.value (.func f),#[x,y],ats⟩,ty,pp,af,g⟩)(Z:b.roundOf=none)(hw:AU L ops ⟨d,.call ⟨.value (.func f),#[x,y],ats⟩,ty,pp,af,g⟩=some true)(O:((b.kind != .early)&&Bb n d)=true)
  (he:Cq P f (Extern.Atomic.update (Op.intArith .add) .u64 true)) (ae:ev L x=some (.pointer (some F.sA))) (ag:ev L y=some (.int .u64 18446744069414584320))
  (ah:JL (A4 P false) (Stop P F .Eh) b n (AE L d (.int .u64 (Fam.word 0 1))) ds (.inRegion ops rest::k) cs .quiet)
  (ai:∀v wt:Nat,v<2147483647→wt≤1→¬(v=0∧wt=1)→JL (Es P) (EO P 1) b n (AE L d (.int .u64 (Fam.word v wt))) ds (.inRegion ops rest::k) cs .quiet):
  JL (A4 P false) (Stop P F .EM) b n L ds (.inRegion ops (i::rest)::k) cs .quiet:=fun T K=>by
 simp only [Bool.and_eq_true] at O
 obtain⟨fn,aj,ak,hb,al,he⟩:=he.h
 refine(A4 P _).stop (EY rfl rfl rfl rfl (by simp) fun v wt sm v' wt' sm' es nx U=>?_)
 simp only [Fam.act] at U
 split at U
 ·rename_i W
  cases U;refine⟨G (fr b (BQ T d (.int .u64 (Fam.word (v - 1) wt))) ds (.inRegion ops rest::k)) cs,fun w aa=>?_,rfl,?_⟩
  ·obtain⟨am,_,c3,_⟩:=EZ aa;rw [BX Z,BX Z];show stepG P false _ w=_;rw [stepG_add_atomic (a:=⟨T,ds⟩) ab (B8 K hw) (by simpa using O.1) rfl aj ak hb al .u64 he (by rw [Dj];exact K.ev ae) (by rw [Dj];exact K.ev ag) am c3,Ql W.1 W.2.1 W.2.2,Ip aa,D3]
   rfl
  ·split
   ·rename_i e;obtain⟨rfl,rfl⟩:=e;exact ah _ (K.put O.2 _)
   ·rename_i e;exact Ij (ai (v - 1) wt (by omega) W.2.2 (by omega) _ (K.put O.2 _))
 ·cases U
theorem JL.S7{j:Nat}(ab:s.q=false)(ae:ops[i]? =some ⟨d,.call ⟨.value (.func f),#[x,y],ats⟩,ty,pp,af,g⟩)(Z:b.roundOf=none)(hw:AU L ops ⟨d,.call ⟨.value (.func f),#[x,y],ats⟩,ty,pp,af,g⟩=some true)(O:((b.kind != .early)&&Bb n d)=true)
  (he:Cq P f (Extern.Atomic.update (Op.intArith .add) .u64 true)) (ag:ev L x=some (.pointer (some F.sA))) (ah:ev L y=some (.int .u64 4294967296))
  (ai:JL (A4 P true) (Stop P F (.ET j)) b n (AE L d (.int .u64 (Fam.word 1 0))) ds (.inRegion ops rest::k) cs s)
  (aj:∀v:Nat,1≤v→v<2147483647→JL (A4 P true) (Stop P F (.D7 j)) b n (AE L d (.int .u64 (Fam.word (v+1) 0))) ds (.inRegion ops rest::k) cs s):
  JL (A4 P true) (Stop P F (.Fj j)) b n L ds (.inRegion ops (i::rest)::k) cs s:=fun T K=>by
 simp only [Bool.and_eq_true] at O
 obtain⟨fn,ak,al,hb,am,he⟩:=he.h
 refine(A4 P _).stop (EY rfl rfl rfl ab (by simp) fun v wt sm v' wt' sm' es nx U=>?_)
 simp only [Fam.act] at U
 split at U
 ·rename_i W
  obtain⟨W,rfl⟩:=W;cases U;refine⟨G (fr b (BQ T d (.int .u64 (Fam.word (v+1) 0))) ds (.inRegion ops rest::k)) cs,fun w aa=>?_,rfl,?_⟩
  ·obtain⟨an,_,c3,_⟩:=EZ aa;rw [BX Z,BX Z];show stepG P true _ w=_;rw [stepG_add_atomic (a:=⟨T,ds⟩) ae (B8 K hw) (by simpa using O.1) rfl ak al hb am .u64 he (by rw [Dj];exact K.ev ag) (by rw [Dj];exact K.ev ah) an c3,Qi W,Ip aa,D3]
   rfl
  ·split
   ·rename_i e;subst e;exact ai _ (K.put O.2 _)
   ·rename_i e;exact aj v (by omega) W _ (K.put O.2 _)
 ·cases U
theorem JL.Tr(ag:GY p=true)(ah:if Fam.CI p=true then s= .quiet else s.q=false)(ai:p≠ .C5)(aj:Fam.ED p s=s)(ak:∀v wt sm r,F.act p v wt sm=some r→r.1=(v,wt,sm)∧r.2.1= #[Fam.Dq F.sA])
  (al:ops[i]? =some ⟨d,.call ⟨.value (.func f),#[x],ats⟩,ty,pp,af,g⟩) (U:b.roundOf=none) (hw:AU L ops ⟨d,.call ⟨.value (.func f),#[x],ats⟩,ty,pp,af,g⟩=some true) (K:((b.kind != .early)&&Bb n d)=true)
  (he:Cq P f (Extern.Atomic.loadT (.int .u64))) (am:ev L x=some (.pointer (some F.sA)))
  (h:∀v wt sm r,F.act p v wt sm=some r→∃q,r.2.2= .ph q∧JL (A4 P (Fam.Cr p)) (Stop P F q) b n (AE L d (.int .u64 (Fam.word v wt))) ds (.inRegion ops rest::k) cs s):
  JL (A4 P (Fam.Cr p)) (Stop P F p) b n L ds (.inRegion ops (i::rest)::k) cs s:=fun T O=>by
 simp only [Bool.and_eq_true] at K
 obtain⟨fn,an,ao,hb,ap,he⟩:=he.h
 refine(A4 P _).stop (EY ag rfl rfl ah (fun e=>absurd e ai) fun v wt sm v' wt' sm' es nx W=>?_)
 obtain⟨Z,aa⟩:=ak _ _ _ _ W
 obtain⟨q,ab,aq⟩:=h _ _ _ _ W
 simp only at Z aa ab
 cases Z
 subst aa ab
 refine⟨_,fun w ae=>?_,rfl,by rw [aj];exact aq _ (O.put K.2 _)⟩
 obtain⟨ar,_,_,_⟩:=EZ ae
 rw [BX U,BX U,stepG_load_atomic (a:=⟨T,ds⟩) al (B8 O hw) (by simpa using K.1) rfl an ao hb ap .u64 he (by rw [Dj];exact O.ev am) ar,GO ae,D3]
 rfl
theorem JL.stA(aa:ops[i]? =some ⟨d,.call ⟨.value (.func f),#[x,y],ats⟩,ty,pp,af,g⟩)(W:b.roundOf=none)(hw:AU L ops ⟨d,.call ⟨.value (.func f),#[x,y],ats⟩,ty,pp,af,g⟩=some true)(U:((b.kind != .early)&&Bb n d)=true)
  (he:Cq P f Extern.Atomic.storeT) (ab:ev L x=some (.pointer (some F.sA))) (ae:ev L y=some (.int .u64 0))
  (h:JL (A4 P false) (Stop P F .C5) b n (AE L d (.tuple #[])) ds (.inRegion ops rest::k) cs .quiet):
  JL (A4 P false) (Stop P F .Ex) b n L ds (.inRegion ops (i::rest)::k) cs .quiet:=fun T K=>by
 simp only [Bool.and_eq_true] at U
 obtain⟨fn,ag,ah,hb,ai,he⟩:=he.h
 refine(A4 P _).stop (EY rfl rfl rfl rfl (by simp) fun v wt sm v' wt' sm' es nx O=>?_)
 simp only [Fam.act] at O
 split at O
 ·rename_i aj
  obtain⟨rfl,rfl⟩:=aj;cases O;refine⟨_,fun w Z=>?_,rfl,h _ (K.put U.2 _)⟩;obtain⟨ak,_,c3,_⟩:=EZ Z;have al:(.int .u64 0:Value)= .int .u64 (Fam.word 0 0):=by simp [Fam.word]
  rw [BX W,BX W];show stepG P false _ w=_;rw [stepG_store_atomic (a:=⟨T,ds⟩) aa (B8 K hw) (by simpa using U.1) rfl ag ah hb ai he (by rw [Dj];exact K.ev ab) (by rw [Dj];exact K.ev ae) ak c3,al,Ip Z,D3]
  rfl
 ·cases O
theorem JL.Tv{m:Nat}(al:s.q=false)(ab:ops[i]? =some ⟨d,.call ⟨.value (.func f),#[x,y,z],ats⟩,ty,pp,af,g⟩)(Z:b.roundOf=none)(hw:AU L ops ⟨d,.call ⟨.value (.func f),#[x,y,z],ats⟩,ty,pp,af,g⟩=some true)(U:((b.kind != .early)&&Bb n d)=true)
  (he:Cq P f (Extern.Atomic.casT (.int .u64))) (ae:ev L x=some (.pointer (some F.sA))) (ag:ev L y=some (.int .u64 (Fam.word m 0))) (ah:ev L z=some (.int .u64 (Fam.word m 1)))
  (am:JL (A4 P false) (Stop P F .Fu) b n (AE L d (.bool true)) ds (.inRegion ops rest::k) cs s)
  (an:JL (A4 P false) (Stop P F (.DN (m - 1))) b n (AE L d (.bool false)) ds (.inRegion ops rest::k) cs s):
  JL (A4 P false) (Stop P F (.EN m)) b n L ds (.inRegion ops (i::rest)::k) cs s:=fun T K=>by
 simp only [Bool.and_eq_true] at U
 obtain⟨fn,ai,aj,hb,ak,he⟩:=he.h
 refine(A4 P _).stop (EY rfl rfl rfl al (by simp) fun v wt sm v' wt' sm' es nx O=>?_)
 simp only [Fam.act] at O
 split at O
 ·rename_i ao
  obtain⟨_,_,rfl⟩:=ao;split at O
  ·rename_i e;subst e;cases O;refine⟨_,fun w W=>?_,rfl,am _ (K.put U.2 _)⟩;obtain⟨aa,_,c3,_⟩:=EZ W;rw [BX Z,BX Z];show stepG P false _ w=_;rw [stepG_cas_hit (a:=⟨T,ds⟩) ab (B8 K hw) (by simpa using U.1) rfl ai aj hb ak .u64 he (by rw [Dj];exact K.ev ae) (by rw [Dj];exact K.ev ag) (by rw [Dj];exact K.ev ah) aa c3,Ip W,D3]
   rfl
  ·rename_i e;cases O;refine⟨_,fun w W=>?_,rfl,an _ (K.put U.2 _)⟩;obtain⟨aa,_,c3,_⟩:=EZ W;rw [BX Z,BX Z];show stepG P false _ w=_;rw [stepG_cas_miss (a:=⟨T,ds⟩) ab (B8 K hw) (by simpa using U.1) rfl ai aj hb ak .u64 he (by rw [Dj];exact K.ev ae) (by rw [Dj];exact K.ev ag) (by rw [Dj];exact K.ev ah) aa c3 (fun q=>e (word_inj q)),GO W,D3]
   rfl
 ·cases O
theorem JL.SQ{args:Array Operand}{vs:List Value}(W:ops[i]? =some ⟨d,.call ⟨.value (.func f),args,ats⟩,ty,pp,af,g⟩)(Z:b.roundOf=none)(hw:AU L ops ⟨d,.call ⟨.value (.func f),args,ats⟩,ty,pp,af,g⟩=some true)(O:((b.kind != .early)&&Bb n d)=true)
  (he:Cq P f Extern.Sync.semrelease) (ab:evs L args.toList=some vs) (ae:vs[0]? =some (.pointer (some F.mA)))
  (h:JL (Es P) (EO P 1) b n (AE L d (.tuple #[])) ds (.inRegion ops rest::k) cs .quiet):
  JL (A4 P false) (Stop P F .C5) b n L ds (.inRegion ops (i::rest)::k) cs .quiet:=fun T U=>by
 simp only [Bool.and_eq_true] at O
 have ag:=PW (P:=P) (b:=b) (ds:=ds) (k:=k) (cs:=cs) (rest:=rest) (T:=T) W he
 obtain⟨fn,ah,ai,hb,aj,he⟩:=he.h
 refine(A4 P _).stop (EY rfl rfl rfl rfl (fun _=>ag) fun v wt sm v' wt' sm' es nx K=>?_)
 simp only [Fam.act] at K
 split at K
 ·rename_i ak
  subst ak;cases K;refine⟨_,fun w aa=>?_,rfl,Ij (h _ (U.put O.2 _))⟩;obtain⟨_,c2,_,c4⟩:=EZ aa;rw [BX Z,BX Z];show stepG P false _ w=_;rw [stepG_semrelease (a:=⟨T,ds⟩) W (B8 U hw) (by simpa using O.1) rfl ah ai hb aj he (ad:=F.mA) (by rw [K1 U ab];simpa using ae) c2 c4,D3];have al:IntKind.u32.wrap (((0:Nat):Int)+1)=((1:Nat):Int):=by decide
  rw [al,LG aa]
 ·cases K
theorem JL.QR{args:Array Operand}{vs:List Value}(ai:s.q=false)(aa:ops[i]? =some ⟨d,.call ⟨.value (.func f),args,ats⟩,ty,pp,af,g⟩)(W:b.roundOf=none)(hw:AU L ops ⟨d,.call ⟨.value (.func f),args,ats⟩,ty,pp,af,g⟩=some true)(Z:((b.kind != .early)&&Bb n d)=true)
  (he:Cq P f Extern.Sync.semacquire) (aj:evs L args.toList=some vs) (ak:vs[0]? =some (.pointer (some F.mA)))
  (h:JL (A4 P false) (Stop P F .Ew) b n (AE L d (.tuple #[])) ds (.inRegion ops rest::k) cs s):
  JL (A4 P false) (Stop P F .Cp) b n L ds (.inRegion ops (i::rest)::k) cs s:=fun T K=>by
 simp only [Bool.and_eq_true] at Z
 obtain⟨fn,ab,ae,hb,ag,he⟩:=he.h
 have ah:(args.map (⟨T,ds⟩:Act).eval)[0]? =some (.pointer (some F.mA)):=by rw [K1 K aj];simpa using ak
 refine(A4 P _).stop (DV.stop {
  run:=rfl,offers:=rfl,quiet:=(by simp [Fam.CI]),live:=fun _=>ai,act:=?_,EL:=(by simp),C8:=?_,close:=(by simp),send:=(by simp),go:=(by simp),EC:=(by simp),recv:=(by simp)})
 ·intro v wt sm v' wt' sm' es nx O;simp only [Fam.act] at O;split at O
  ·rename_i al;subst al;cases O;refine⟨_,fun w U=>?_,rfl,h _ (K.put Z.2 _)⟩;obtain⟨_,c2,_,c4⟩:=EZ U;rw [BX W,BX W];show stepG P false _ w=_;rw [stepG_semacquire (a:=⟨T,ds⟩) aa (B8 K hw) (by simpa using Z.1) rfl ab ae hb ag he (ad:=F.mA) ah c2 (by decide) c4,D3];have am:(((1:Nat):Int) - 1)=((0:Nat):Int):=by decide
   rw [am,LG U]
  ·cases O
 ·intro _ w v wt U;obtain⟨_,c2,_,c4⟩:=EZ U;rw [BX W];exact stepG_semacquire_wait (a:=⟨T,ds⟩) aa (B8 K hw) rfl ab ae hb ag he (ad:=F.mA) ah c2
theorem JL.R2(Z:s.q=false)(U:ops[i]? =some ⟨d,.call ⟨.builtin .close,#[x],ats⟩,ty,pp,af,g⟩)(W:b.roundOf=none)(hw:AU L ops ⟨d,.call ⟨.builtin .close,#[x],ats⟩,ty,pp,af,g⟩=some true)(K:((b.kind != .early)&&Bb n d)=true)
  (aa:ev L x=some (.chan (some F.ch))) (ab:(P.funcs[b.fn]?).any (·.norace)=false)
  (h:JL (Es P) (EO P 0) b n (AE L d (.tuple #[])) ds (.inRegion ops rest::k) cs .quiet):
  JL (A4 P false) (Stop P F .Cw) b n L ds (.inRegion ops (i::rest)::k) cs s:=fun T O=>by
 simp only [Bool.and_eq_true] at K
 refine(A4 P _).stop (DV.stop {
  run:=rfl,offers:=rfl,quiet:=(by simp [Fam.CI]),live:=fun _=>Z,act:=(by simp [Fam.act]),EL:=fun _=>(by simp [mayWake,G,fr,U]),C8:=(by simp),close:=fun _=>?_,send:=(by simp),go:=(by simp),EC:=(by simp),recv:=(by simp)})
 refine⟨_,?_,fun w k' ae=>?_,Ij (h _ (O.put K.2 _))⟩
 ·rfl
 ·rw [BX W,BX W,stepG_close (a:=⟨T,ds⟩) U (B8 O hw) (by simpa using K.1) rfl (by rw [Dj];exact O.ev aa) ae ab,D3]
theorem JL.N5{kk:Nat}{v:Value}(Z:s.q=false)(U:ops[i]? =some ⟨d,.send x y,ty,pp,af,g⟩)(aa:b.roundOf=none)(hw:AU L ops ⟨d,.send x y,ty,pp,af,g⟩=some true)(O:((b.kind != .early)&&Bb n d)=true)
  (ab:ev L x=some (.chan (some F.ch))) (ae:ev L y=some v) (hm:F.msg kk v s.E)
  (h:JL (A4 P false) (Stop P F .B6) b n (AE L d undef) ds (.inRegion ops rest::k) cs s):
  JL (A4 P false) (Stop P F (.BN kk)) b n L ds (.inRegion ops (i::rest)::k) cs s:=fun T K=>by
 simp only [Bool.and_eq_true] at O
 have W:execOp (Bf T) ⟨d,.send x y,ty,pp,af,g⟩= .pure (.comm #[scase F.ch v (.tuple #[])] true .send):=by
  simp [execOp,K.ev ab,K.ev ae,scase,pure]
 refine(A4 P _).stop (DV.stop {
  run:=rfl,offers:=rfl,quiet:=(by simp [Fam.CI]),live:=fun _=>Z,act:=(by simp [Fam.act]),EL:=(by simp),C8:=(by simp),close:=(by simp),send:=fun k' e=>?_,go:=(by simp),EC:=(by simp),recv:=(by simp)})
 cases e;refine⟨v,.tuple #[],hm,fun w=>?_,?_⟩
 ·have he:(⟨T,ds⟩:Act).eval=Bf T:=funext fun x=>Dj T ds x;rw [BX aa,stepG_comm (a:=⟨T,ds⟩) (w':=w) U (B8 K hw) (by simpa using O.1) (by rw [he,W];rfl),listed_none (by rw [he,W];simp [Sem.events_pure'])]
 ·have:Conc.served (G (fr b T ds (.inRegion ops (i::rest)::k)) cs) undef=G (fr b (BQ T d undef) ds (.inRegion ops rest::k)) cs:=by
   have:=D1 (b:=b) (ds:=ds) (k:=k) T ops i rest undef _ U;simp only [Conc.served,G,this]
  rw [this];exact h _ (K.put O.2 _)
end
end
end Pal
namespace Pal
open Go Go.Conc
section
variable {P:Program}{F:Fam}{J:Judge P}{Q:GP}{n:Nat}{L L':Env}{ds:List Deferred}{k:List Item}{cs:List Frame}{s s':St}{b:Frame}{main:Bool}
variable {ops:Array Oper}{i:Nat}{rest:List Nat}{d:Option Tmp}{f:FuncId}{x y z:Operand}{ats:Array TypeId}{ty t e:TypeId}{pp:String}{af:Array Edge}{g:Option (Nat×Bool)}{p q:Ph}
theorem LO{T:Array Value}{o:Oper}(K:ops[i]? =some o)(v:Value):Conc.served (G (fr b T ds (.inRegion ops (i::rest)::k)) cs) v=G (fr b (BQ T o.dst v) ds (.inRegion ops rest::k)) cs:=by
 have:=D1 (b:=b) (ds:=ds) (k:=k) T ops i rest v _ K;simp only [Conc.served,G,this]
theorem Gg(T:Array Value)(ds:List Deferred):(⟨T,ds⟩:Act).eval=Bf T:=funext fun x=>Dj T ds x
theorem JL.SG{O:List Nat}{vs:List Value}{K:Value}{dir:ChanDir}(ag:s.q=false)(Z:ops[i]? =some ⟨d,.recv t x true,ty,pp,af,g⟩)(ah:b.roundOf=none)(hw:AU L ops ⟨d,.recv t x true,ty,pp,af,g⟩=some true)(U:((b.kind != .early)&&Bb n d)=true)
  (ai:ev L x=some (.chan (some F.ch))) (ht:P.underlying t=some (.chan dir e)) (aj:zeroOf P e=some K)
  (aa:∀kk v E',kk<F.n→F.has kk=true→kk ∉ O→Le s.E E'→(∀b,E' b≠none→s.H b=none)→F.msg kk v E'→JL (A4 P true) (Stop P F (.BF (O++ [kk]) (vs++ [v]))) b n (AE L d (.tuple #[v,.bool true])) ds (.inRegion ops rest::k) cs ⟨E',s.H,false⟩)
  (ab:(∀kk,kk<F.n→F.has kk=true→kk∈O)→∀T,Has n (AE L d (.tuple #[K,.bool false])) T→F.fin (G (fr b T ds (.inRegion ops rest::k)) cs) s):
  JL (A4 P true) (Stop P F (.BF O vs)) b n L ds (.inRegion ops (i::rest)::k) cs s:=fun T W=>by
 simp only [Bool.and_eq_true] at U
 have ae:∀w,(execOp (Bf T) ⟨d,.recv t x true,ty,pp,af,g⟩).run P w= .ok (.comm #[rcase F.ch K] true (.recv true)) w∧listed P b.fn ⟨T,ds⟩ ⟨d,.recv t x true,ty,pp,af,g⟩ w= #[]:=by
  have ak:∀s,lp P (execOp (Bf T) ⟨d,.recv t x true,ty,pp,af,g⟩) s (fun nx s'=>nx= .comm #[rcase F.ch K] true (.recv true)∧s'=s) (fun _ _=>False):=by
   intro s;unfold execOp;simp only;refine AD (x:=underlying t) _ (Ck ht ?_);simp only;refine AD (x:=zeroValue e) _ (D9 aj ?_);rw [W.ev ai];exact⟨rfl,rfl⟩
  obtain⟨es,aa,ab,al⟩:=JX _ (ak .quiet);rcases al with⟨a,⟨rfl,_⟩,am⟩ | ⟨_,an,_⟩
  ·intro w;refine⟨am w,?_⟩;unfold listed;rw [Gg,aa];exact JE ab
  ·exact an.elim
 refine(A4 P _).stop (DV.stop {
  run:=rfl,offers:=rfl,quiet:=(by simp [Fam.CI]),live:=fun _=>ag,act:=(by simp [Fam.act]),EL:=(by simp),C8:=(by simp),close:=(by simp),send:=(by simp),go:=(by simp),EC:=(by simp),recv:=fun az aA ao=>?_})
 cases ao;refine⟨K,fun w=>?_,fun kk v E' ap aq ar au av aw=>?_,fun ay=>?_⟩
 ·rw [BX ah,stepG_comm (a:=⟨T,ds⟩) (w':=w) Z (B8 W hw) (by simpa using U.1) (by rw [Gg];exact(ae w).1),(ae w).2]
 ·rw [LO Z];exact aa kk v E' ap aq ar au av aw _ (W.put U.2 _)
 ·rw [LO Z];exact ab ay _ (W.put U.2 _)
theorem MB{X:GP}{fn:Func}{c:Code}{vs:List Value}{caps:Array Value}{args:Array Value}(O:P.funcs[f]? =some fn)(Z:(fn.name== "runtime.NumGoroutine")=false)(hb:fn.body=some c)(aa:args++caps=vs.toArray)(ag:vs.length≤fn.ntmps)
  (h:JL (A4 P false) X (baseD f) fn.ntmps (D5 0 vs) [] [.code c] [FH P] s):Way P false X (born P {target:= .fn (.func f) caps,args:=args}) s:=by
 have ab:¬fn.name= "runtime.NumGoroutine" :=by simpa using Z
 refine Judge.Cf (J:=A4 P false) rfl (fun w=>?_) (h (vs.toArray++Array.replicate (fn.ntmps - vs.length) undef) ⟨by simp;omega,fun t v ht=>?_⟩)
 ·show stepG P false _ w=_;have U:=enter_atD (P:=P) vs.toArray O hb;rw [BX (b:=baseD f) rfl];simp only [List.size_toArray] at U;simp [G,born,stepG,unwind,callDeferred,invoke,callFunc,O,ab,hb,GStep.after,seen_none,aa,FH,U]
 ·obtain⟨_,K⟩:=GI ht;have ae:t<vs.length:=by
   rcases Nat.lt_or_ge t vs.length with W | W
   ·exact W
   ·simp at K;have:=(List.getElem?_eq_some_iff.1 K).1;omega
  rw [Array.getD_eq_getD_getElem?,Array.getElem?_append_left (by simpa using ae)];simp at K;simp [K]
theorem Nj{T:Array Value}{args:Array Operand}{K:Go.Fn}{fi O:Array Value}{as:List Value}(U:Has n L T)(W:ev L x=some (.func K fi O))(Z:evs L args.toList=some as):
  execOp (Bf T) ⟨d,.go ⟨.value x,args,ats⟩,ty,pp,af,g⟩= .pure (.spawn {target:= .fn K O,args:=fi++as.toArray}):=by
 have aa:args.map (Bf T)=as.toArray:=by
  rw [← Ed U.D4 Z];apply Array.ext';simp
 simp only [execOp,resolve,bind,Sem.bind,Deferred.ofValue,U.ev W,pure,aa]
theorem JL.Tu{j:Nat}{args:Array Operand}{fi U:Array Value}{as:List Value}{W:FuncId}(ab:s.q=false)(ae:ops[i]? =some ⟨d,.go ⟨.value x,args,ats⟩,ty,pp,af,g⟩)(Z:b.roundOf=none)(hw:AU L ops ⟨d,.go ⟨.value x,args,ats⟩,ty,pp,af,g⟩=some true)(K:((b.kind != .early)&&Bb n d)=true)
  (ag:ev L x=some (.func (.func W) fi U)) (ah:evs L args.toList=some as)
  (ai:Way P false (Stop P F (F.start j)) (born P {target:= .fn (.func W) U,args:=fi++as.toArray}) ⟨s.E,fun _=>none,false⟩)
  (aj:JL (A4 P true) (Stop P F (F.Cy j)) b n (AE L d undef) ds (.inRegion ops rest::k) cs s):
  JL (A4 P true) (Stop P F (.Dp j)) b n L ds (.inRegion ops (i::rest)::k) cs s:=fun T O=>by
 simp only [Bool.and_eq_true] at K
 have aa:=Nj (d:=d) (ats:=ats) (ty:=ty) (pp:=pp) (af:=af) (g:=g) O ag ah
 refine(A4 P _).stop (DV.stop {
  run:=rfl,offers:=rfl,quiet:=(by simp [Fam.CI]),live:=fun _=>ab,act:=(by simp [Fam.act]),EL:=(by simp),C8:=(by simp),close:=(by simp),send:=(by simp),go:=fun ak e=>?_,EC:=(by simp),recv:=(by simp)})
 cases e
 refine⟨G (fr b (BQ T d undef) ds (.inRegion ops rest::k)) cs,_,rfl,rfl,fun w=>?_,ai,aj _ (O.put K.2 _)⟩
 rw [BX Z,BX Z,stepG_spawn (a:=⟨T,ds⟩) (w':=w) ae (B8 O hw) (by simpa using K.1) (by rw [Gg,aa];rfl) rfl,listed_none (by rw [Gg,aa];simp [Sem.events_pure']),D3]
theorem JL.EC{args:Array Operand}{fi U:Array Value}{as:List Value}{W:FuncId}(ab:s.q=false)(ae:ops[i]? =some ⟨d,.go ⟨.value x,args,ats⟩,ty,pp,af,g⟩)(Z:b.roundOf=none)(hw:AU L ops ⟨d,.go ⟨.value x,args,ats⟩,ty,pp,af,g⟩=some true)(K:((b.kind != .early)&&Bb n d)=true)
  (ag:ev L x=some (.func (.func W) fi U)) (ah:evs L args.toList=some as)
  (ai:Way P false (Stop P F .B9) (born P {target:= .fn (.func W) U,args:=fi++as.toArray}) ⟨s.E,fun _=>none,false⟩)
  (aj:JL (A4 P true) (Stop P F (.BF [] [])) b n (AE L d undef) ds (.inRegion ops rest::k) cs s):
  JL (A4 P true) (Stop P F .DT) b n L ds (.inRegion ops (i::rest)::k) cs s:=fun T O=>by
 simp only [Bool.and_eq_true] at K
 have aa:=Nj (d:=d) (ats:=ats) (ty:=ty) (pp:=pp) (af:=af) (g:=g) O ag ah
 refine(A4 P _).stop (DV.stop {
  run:=rfl,offers:=rfl,quiet:=(by simp [Fam.CI]),live:=fun _=>ab,act:=(by simp [Fam.act]),EL:=(by simp),C8:=(by simp),close:=(by simp),send:=(by simp),go:=(by simp),EC:=fun _=>?_,recv:=(by simp)})
 refine⟨G (fr b (BQ T d undef) ds (.inRegion ops rest::k)) cs,_,rfl,rfl,fun w=>?_,ai,aj _ (O.put K.2 _)⟩
 rw [BX Z,BX Z,stepG_spawn (a:=⟨T,ds⟩) (w':=w) ae (B8 O hw) (by simpa using K.1) (by rw [Gg,aa];rfl) rfl,listed_none (by rw [Gg,aa];simp [Sem.events_pure']),D3]
theorem JO.MR{j:Nat}(W:s.q=false)(K:b.roundOf=none)(he:Cq P f (fun _=>do mark .enable;pure Extern.Race.none_))
  (h:JO (A4 P true) (Stop P F (.Dp j)) b n L ds cs s):JO (A4 P true) (Stop P F (.D7 j)) b n L (dcall f #[]::ds) cs s:=fun T Z todo=>by
 obtain⟨fn,aa,ab,hb,ae,he⟩:=he.h
 refine(A4 P _).stop (EY rfl rfl rfl W (by simp) fun v wt sm v' wt' sm' es nx O=>?_)
 simp only [Fam.act] at O
 cases O
 refine⟨G (CR b T ds todo) cs,fun w ag=>?_,rfl,h T Z todo⟩
 rw [GL K,GL K,GO ag]
 exact stepG_unwind_entry (a:=⟨T,dcall f #[]::ds⟩) (v:= .tuple #[]) (evs:= #[Fam.CX .enable]) rfl aa ab hb ae he (by simp [Extern.Race.none_]) (by simp;rfl) (by
  intro x U
  simp at U
  subst U
  exact⟨rfl,fun g h=>by cases h⟩)
theorem JO.IE(K:b.roundOf=none)(he:Cq P f (fun _=>do mark .enable;pure Extern.Race.none_))
  (h:JO (Es P) (EO P 0) b n L ds cs .quiet):JO (Es P) (EO P 1) b n L (dcall f #[]::ds) cs .quiet:=fun T U todo=>by
 obtain⟨fn,W,Z,hb,aa,he⟩:=he.h
 refine(Es P).stop ?_
 obtain⟨q,O⟩:=Ij (h T U todo)
 rw [GL K] at O
 rw [GL K]
 exact⟨q+1,QuitsD.unwind_mark (a:=⟨T,dcall f #[]::ds⟩) .enable rfl (by simp) rfl W Z hb aa he O⟩
end
end Pal
namespace Pal
open Go Go.Conc
def Oo:BinOp→Int→Int→Option Bool
 | .lss,m,m'=>some (decide (m<m'))
 | .leq,m,m'=>some (decide (m≤m'))
 | .gtr,m,m'=>some (decide (m'<m))
 | .geq,m,m'=>some (decide (m'≤m))
 | .eql,m,m'=>some (decide (m=m'))
 | .neq,m,m'=>some (decide (m≠m'))
 | _,_,_=>none
def Gx(L:Env):Op→Option Value
 | .move x=>ev L x
 | .assign x=>ev L x
 | .pick z x y=>match ev L z with
  | some (.bool true)=>ev L x
  | some (.bool false)=>ev L y
  | _=>none
 | .extract x i=>match ev L x with
  | some (.tuple vs)=>vs[i]?
  | _=>none
 | .nilCheck x=>match ev L x with
  | some (.pointer (some a))=>some (.pointer (some a))
  | _=>none
 | .binOp op _ x y _=>match ev L x with
  | some (.int kd m)=>match ev L y with
   | some (.int kd' m')=>if kd=kd' then(match Oo op m m' with | some t=>some (.bool t) | none=>none) else none
   | _=>none
  | _=>none
 | _=>none
theorem Yl.Tg{P:Program}{s:St}{ρ:Operand→Value}{d:Option Tmp}{x y:Operand}{t u ty:TypeId}{p:String}{af:Array Edge}{g:Option (Nat×Bool)}{kd:IntKind}{m m':Int}(K:ρ x= .int kd m)(O:ρ y= .int kd m'):Yl P ⟨d,.binOp .neq t x y u,ty,p,af,g⟩ ρ s (.bool (decide (m≠m'))):=by
 have h:=Yl.neq (P:=P) (s:=s) (d:=d) (t:=t) (u:=u) (ty:=ty) (p:=p) (af:=af) (g:=g) K O;simpa using h
theorem IS{P:Program}{L:Env}{ρ:Operand→Value}{s:St}{o:Oper}{v:Value}(K:C4 L ρ)(h:Gx L o.op=some v):Yl P o ρ s v:=by
 obtain⟨d,op,ty,p,af,g⟩:=o;simp only at h;unfold Gx at h;split at h
 ·exact Yl.move (K _ _ h)
 ·exact Yl.assign (K _ _ h)
 ·split at h
  ·rename_i e;exact Yl.RJ (K _ _ e) (K _ _ h)
  ·rename_i e;exact Yl.Sg (K _ _ e) (K _ _ h)
  ·cases h
 ·split at h
  ·rename_i e;exact Yl.extract (K _ _ e) h
  ·cases h
 ·split at h
  ·rename_i e;cases h;exact Yl.nilCheck (K _ _ e)
  ·cases h
 ·split at h
  ·rename_i O;split at h
   ·rename_i U;split at h
    ·rename_i e;subst e;split at h
     ·rename_i e;cases h;unfold Oo at e;split at e
      ·cases e;exact Yl.lss (K _ _ O) (K _ _ U)
      ·cases e;exact Yl.leq (K _ _ O) (K _ _ U)
      ·cases e;exact Yl.gtr (K _ _ O) (K _ _ U)
      ·cases e;exact Yl.geq (K _ _ O) (K _ _ U)
      ·cases e;exact Yl.eql (K _ _ O) (K _ _ U)
      ·cases e;exact Yl.Tg (K _ _ O) (K _ _ U)
      ·cases e
     ·cases h
    ·cases h
   ·cases h
  ·cases h
 ·cases h
def FK:List Oper→Nat→Option Oper
 | [],_=>none
 | o::_,0=>some o
 | _::os,i+1=>FK os i
theorem GU:∀(os:List Oper) (i:Nat),FK os i=os[i]?
 | [],i=>by simp [FK]
 | _::_,0=>rfl
 | _::os,i+1=>by simp [FK,GU os i]
def KS(b:Frame)(n:Nat)(L:Env):List Item→Option (List Item×Env)
 | .code (.seq x y)::k=>some (.code x:: .code y::k,L)
 | .code (.block i c)::k=>some (.code c:: .inBlock i::k,L)
 | .code (.scope c)::k=>some (.code c:: .inScope c::k,L)
 | .code .skip::k=>some (k,L)
 | .code (.exit i)::k=>match exitTo i k with
  | some k'=>some (k',L)
  | none=>none
 | .code (.cond c x y)::k=>match ev L c with
  | some (.bool true)=>some (.code x::k,L)
  | some (.bool false)=>some (.code y::k,L)
  | _=>none
 | .code (.region _ ops false)::k=>some (.inRegion ops (List.range ops.size)::k,L)
 | .inBlock _::k=>some (k,L)
 | .inScope _::k=>some (k,L)
 | .inRegion _ []::k=>some (k,L)
 | .inRegion ops (i::rest)::k=>match FK ops.toList i with
  | some ⟨d,op,ty,p,af,g⟩=>match AU L ops ⟨d,op,ty,p,af,g⟩ with
   | some true=>match BR b n ⟨d,op,ty,p,af,g⟩ with
    | true=>match Gx L op with
     | some v=>match d with
      | some d=>some (.inRegion ops rest::k,(d,v)::L)
      | none=>some (.inRegion ops rest::k,L)
     | none=>none
    | false=>none
   | some false=>match Bb n d with
    | true=>match d with
     | some d=>some (.inRegion ops rest::k,(d,undef)::L)
     | none=>some (.inRegion ops rest::k,L)
    | false=>none
   | none=>none
  | none=>none
 | _=>none
def IW(b:Frame)(n:Nat):Nat→List Item→Env→Option (List Item×Env)
 | 0,k,L=>some (k,L)
 | m+1,k,L=>match KS b n L k with
  | some (k',L')=>IW b n m k' L'
  | none=>none
section
variable {P:Program}{J:Judge P}{Q:Goroutine→St→Prop}{b:Frame}{n:Nat}{L L':Env}{ds:List Deferred}{k k':List Item}{cs:List Frame}{s:St}
theorem JL.Tw(h:KS b n L k=some (k',L'))(K:JL J Q b n L' ds k' cs s):JL J Q b n L ds k cs s:=by
 unfold KS at h;split at h
 ·cases h;exact JL.seq K
 ·cases h;exact JL.block K
 ·cases h;exact JL.scope K
 ·cases h;exact JL.skip K
 ·split at h
  ·rename_i e;cases h;exact JL.exit e K
  ·cases h
 ·split at h
  ·rename_i e;cases h;exact JL.R3 e K
  ·rename_i e;cases h;exact JL.Sf e K
  ·cases h
 ·cases h;exact JL.region K
 ·cases h;exact JL.outBlock K
 ·cases h;exact JL.P9 K
 ·cases h;exact JL.done K
 ·split at h
  ·rename_i d op ty p af g O;rw [GU,Array.getElem?_toList] at O;split at h
   ·rename_i hw;split at h
    ·rename_i U;split at h
     ·rename_i v Z;cases d with
      | none=>cases h;exact JL.y O hw U (fun ρ W=>IS W Z) K
      | some d=>cases h;exact JL.y O hw U (fun ρ W=>IS W Z) K
     ·cases h
    ·cases h
   ·rename_i hw;split at h
    ·rename_i U;cases d with
     | none=>cases h;exact JL.no O hw U K
     | some d=>cases h;exact JL.no O hw U K
    ·cases h
   ·cases h
  ·cases h
 ·cases h
theorem JL.go(m:Nat)(h:IW b n m k L=some (k',L'))(K:JL J Q b n L' ds k' cs s):JL J Q b n L ds k cs s:=by
 induction m generalizing k L with
 | zero=>cases h;exact K
 | succ m O=>
  unfold IW at h;split at h
  ·rename_i e;exact JL.Tw e (O h)
  ·cases h
end
end Pal
namespace Pal
open Go Go.Conc Go.Conc.Lib
open Go.ConcR.Gen
theorem Dr{P:Program}{t:TypeId}{n:Nat}(h:∀w,Sem.run P (Go.sizeOf t) w= .ok n w):Bj P t=some n:=by
 have K:=h default;unfold Bj;simp only [Go.sizeOf,typeInfo,bind,Sem.bind,program,Sem.run] at K;cases hi:P.info? t with
 | none=>rw [hi] at K;simp [stuck,Sem.run,Sem.bind] at K
 | some i=>
  rw [hi] at K;simp [pure,Sem.bind,Sem.run] at K;simp [K]
section
variable {P:Program}{L:WgLink}(H:WgLib P L)
include H
theorem JK:Cq P L.disable (fun _=>do mark .disable;pure Extern.Race.none_):=⟨⟨_,H.f_disable,x_disable_n L,x_disable_b L,x_disable_x L,x_disable_f L⟩⟩
theorem FR:Cq P L.enable (fun _=>do mark .enable;pure Extern.Race.none_):=⟨⟨_,H.f_enable,x_enable_n L,x_enable_b L,x_enable_x L,x_enable_f L⟩⟩
theorem OO:Cq P L.relMerge (Extern.Race.marked .releaseMerge):=⟨⟨_,H.f_relMerge,x_relMerge_n L,x_relMerge_b L,x_relMerge_x L,x_relMerge_f L⟩⟩
theorem LA:Cq P L.acquire (Extern.Race.marked .acquire):=⟨⟨_,H.f_acquire,x_acquire_n L,x_acquire_b L,x_acquire_x L,x_acquire_f L⟩⟩
theorem P4:Cq P L.raceRead (Extern.Race.marked .read):=⟨⟨_,H.f_raceRead,x_raceRead_n L,x_raceRead_b L,x_raceRead_x L,x_raceRead_f L⟩⟩
theorem Pn:Cq P L.raceWrite (Extern.Race.marked .write):=⟨⟨_,H.f_raceWrite,x_raceWrite_n L,x_raceWrite_b L,x_raceWrite_x L,x_raceWrite_f L⟩⟩
theorem MU:Cq P L.addU64 (Extern.Atomic.update (Op.intArith .add) .u64 true):=⟨⟨_,H.f_addU64,x_addU64_n L,x_addU64_b L,x_addU64_x L,x_addU64_f L⟩⟩
theorem Qc:Cq P L.loadU64 (Extern.Atomic.loadT (.int .u64)):=⟨⟨_,H.f_loadU64,x_loadU64_n L,x_loadU64_b L,x_loadU64_x L,x_loadU64_f L⟩⟩
theorem Pp:Cq P L.storeU64 Extern.Atomic.storeT:=⟨⟨_,H.f_storeU64,x_storeU64_n L,x_storeU64_b L,x_storeU64_x L,x_storeU64_f L⟩⟩
theorem QL:Cq P L.casU64 (Extern.Atomic.casT (.int .u64)):=⟨⟨_,H.f_casU64,x_casU64_n L,x_casU64_b L,x_casU64_x L,x_casU64_f L⟩⟩
theorem Pm:Cq P L.semrelease Extern.Sync.semrelease:=⟨⟨_,H.f_semrelease,x_semrelease_n L,x_semrelease_b L,x_semrelease_x L,x_semrelease_f L⟩⟩
theorem OZ:Cq P L.semacquire Extern.Sync.semacquire:=⟨⟨_,H.f_semacquire,x_semacquire_n L,x_semacquire_b L,x_semacquire_x L,x_semacquire_f L⟩⟩
theorem LD:Cq P L.inBubble (fun _=>pure (.bool false)):=⟨⟨_,H.f_inBubble,x_inBubble_n L,x_inBubble_b L,x_inBubble_x L,x_inBubble_f L⟩⟩
end
section
variable {P:Program}{F:Fam}{J:Judge P}{Q:GP}{n:Nat}{L L':Env}{ds:List Deferred}{k:List Item}{cs:List Frame}{s s':St}{b:Frame}{main:Bool}
variable {ops:Array Oper}{i:Nat}{rest:List Nat}{d:Option Tmp}{f:FuncId}{x y z:Operand}{ats:Array TypeId}{ty t u e tw:TypeId}{pp:String}{af:Array Edge}{g:Option (Nat×Bool)}{p q:Ph}
theorem Yl.to{o:Oper}{ρ:Operand→Value}{v v':Value}(h:Yl P o ρ s v)(e:v=v'):Yl P o ρ s v':=e▸h
theorem JL.conv{ad:Addr}(ai:GY p=true)(aj:if Fam.CI p=true then s= .quiet else s.q=false)(ak:p≠ .C5)(al:∀v wt sm,F.act p v wt sm=some ((v,wt,sm),#[],.ph q))(am:Fam.ED p s=s)
  (an:ops[i]? =some ⟨d,.convert t u x,ty,pp,af,g⟩) (U:b.roundOf=none) (hw:AU L ops ⟨d,.convert t u x,ty,pp,af,g⟩=some true) (K:((b.kind != .early)&&Bb n d)=true)
  (ht:P.underlying t=some (.pointer tw)) (hu:P.underlying u=some .unsafePointer) (W:(P.info? tw).map (fun i=>decide (i.size=0))=some false) (ao:ev L x=some (.pointer (some ad))) (hb:ad=F.sA∨ad=F.mA)
  (h:JL (A4 P (Fam.Cr p)) (Stop P F q) b n (AE L d (.pointer (some ad))) ds (.inRegion ops rest::k) cs s):
  JL (A4 P (Fam.Cr p)) (Stop P F p) b n L ds (.inRegion ops (i::rest)::k) cs s:=fun T O=>by
 simp only [Bool.and_eq_true] at K
 refine(A4 P _).stop (EY ai rfl rfl aj (fun e=>absurd e ak) fun v wt sm v' wt' sm' es nx Z=>?_)
 rw [al] at Z;cases Z
 refine⟨_,fun w aa=>?_,rfl,by rw [am];exact h _ (O.put K.2 _)⟩
 obtain⟨ab,ae⟩:∃ab,w.cell? ad=some ab:=by
  obtain⟨ap,c2,_,_⟩:=EZ aa;rcases hb with e | e <;> rw [e]
  ·exact⟨_,ap⟩
  ·exact⟨_,c2⟩
 have ag:=run_convert_to_unsafe (P:=P) (w:=w) ht hu W ae;have aq:=events_convert_to_unsafe (P:=P) (w:=w) ht hu W ae;have ah:execOp (⟨T,ds⟩:Act).eval ⟨d,.convert t u x,ty,pp,af,g⟩=(do pure (Next.value (← Go.convert t u (.pointer (some ad))))):=by
  rw [Gg];simp only [execOp,O.ev ao]
 rw [BX U,BX U,stepG_value (a:=⟨T,ds⟩) (v:= .pointer (some ad)) (w':=w) an (B8 O hw) (by simpa using K.1) (by rw [ah];simp [ag,Result.andThen]),GO aa,D3];have ar:listed P b.fn ⟨T,ds⟩ ⟨d,.convert t u x,ty,pp,af,g⟩ w= #[]:=by
  unfold listed;rw [ah];simp [ag,aq,Result.evThen,seen_none]
 rw [ar]
end
end Pal
namespace Pal
open Go Go.Conc Go.Conc.Lib
open Go.ConcR.Gen
section
variable {P:Program}{F:Fam}{J:Judge P}{Q:GP}{n:Nat}{L L':Env}{ds:List Deferred}{k:List Item}{cs:List Frame}{s s':St}{b:Frame}{main:Bool}
variable {ops:Array Oper}{i:Nat}{rest:List Nat}{d:Option Tmp}{f:FuncId}{x y z:Operand}{args:Array Operand}{ats:Array TypeId}{ty t u e tw:TypeId}{pp:String}{af:Array Edge}{g:Option (Nat×Bool)}{p q:Ph}{vs:List Value}
def Tf(P:Program)(b:Frame)(n:Nat)(L:Env)(d:Option Tmp)(ds:List Deferred)(todo:List Item)(cs:List Frame)(U:Frame):Prop:=
 ∀(K:Judge P) (O:GP) (v:Value) (s':St),JL K O b n (AE L d v) ds todo cs s'→K.ok O (G (U.finish v) cs) s'
theorem JL.F6{fn:Func}{c:Code}(W:ops[i]? =some ⟨d,.call ⟨.value (.func f),args,ats⟩,ty,pp,af,g⟩)(hw:AU L ops ⟨d,.call ⟨.value (.func f),args,ats⟩,ty,pp,af,g⟩=some true)(O:((b.kind != .early)&&Bb n d)=true)
  (Z:P.funcs[f]? =some fn) (ae:(fn.name== "runtime.NumGoroutine")=false) (hb:fn.body=some c) (ag:evs L args.toList=some vs) (an:vs.length≤fn.ntmps)
  (h:∀aa:Frame,Tf P b n L d ds (.inRegion ops rest::k) cs aa→JL J Q (base f) fn.ntmps (D5 0 vs) [] [.code c] (aa::cs) s):
  JL J Q b n L ds (.inRegion ops (i::rest)::k) cs s:=fun T U=>by
 simp only [Bool.and_eq_true] at O
 have ah:args.map (Bf T)=vs.toArray:=by
  rw [← Ed U.D4 ag];apply Array.ext';simp
 refine Judge.oper W (B8 U hw) (by simpa using O.1) (.inr fun c ai=>by cases ai) ?_;have aj:Cv P f=true:=by unfold Cv;rw [Z];simp [ae,hb]
 have ak:lp P (execOp (Bf T) ⟨d,.call ⟨.value (.func f),args,ats⟩,ty,pp,af,g⟩) s (upon J Q b T ds ops i rest k cs d) (HT J Q b T ds ops i rest k cs):=by
  simp only [execOp,resolve,bind,Sem.bind,Deferred.ofValue,Bf,pure,invoke];have e: #[]++args.map (Bf T)++ #[]=vs.toArray:=by rw [ah];simp
  rw [e];refine Ge aj ?_;have he:Frame.enter P f vs.toArray .normal=fr (base f) (vs.toArray++Array.replicate (fn.ntmps - vs.length) undef) [] [.code c]:=by
   simp [Frame.enter,fr,Z,hb,base];rfl
  show J.ok Q (G (Frame.enter P f vs.toArray .normal) _) s;rw [he];refine h _ (fun ao ap v s' al=>?_) _ ⟨by simp;omega,fun t v ht=>?_⟩
  ·rw [D1 (o:=⟨d,.call ⟨.value (.func f),args,ats⟩,ty,pp,af,g⟩) _ _ _ _ _ W];exact al _ (U.put O.2 v)
  ·obtain⟨_,K⟩:=GI ht;have am:t<vs.length:=by
    rcases Nat.lt_or_ge t vs.length with ab | ab
    ·exact ab
    ·simp at K;have:=(List.getElem?_eq_some_iff.1 K).1;omega
   rw [Array.getD_eq_getD_getElem?,Array.getElem?_append_left (by simpa using am)];simp at K;simp [K]
 exact ak
theorem Yl.ext{e:Array Value→Sem Value}{v:Value}{ρ:Operand→Value}(he:Cq P f e)(O:args.map ρ=vs.toArray)(h:e vs.toArray= .pure v):Yl P ⟨d,.call ⟨.value (.func f),args,ats⟩,ty,pp,af,g⟩ ρ s v∨ρ (.func f)≠ .func (.func f) #[] #[]:=by
 by_cases K:ρ (.func f)= .func (.func f) #[] #[]
 ·left;obtain⟨fn,U,W,Z,aa,ab⟩:=he.h;unfold Yl;simp only [execOp,resolve,bind,Sem.bind,Deferred.ofValue,K,pure,invoke];have ae: #[]++args.map ρ++ #[]=vs.toArray:=by rw [O];simp
  rw [ae];have ag:fn.body=none:=by simpa using Z
  simp only [callFunc,bind,Sem.bind,program,lp,U,W,ag,Option.isNone_none,Bool.false_eq_true,if_false,if_true,mark,aa,ab,h,pure];exact⟨.inr ⟨f,rfl⟩,trivial,trivial⟩
 ·exact .inr K
theorem JL.ext{e:Array Value→Sem Value}{v:Value}(O:ops[i]? =some ⟨d,.call ⟨.value (.func f),args,ats⟩,ty,pp,af,g⟩)(hw:AU L ops ⟨d,.call ⟨.value (.func f),args,ats⟩,ty,pp,af,g⟩=some true)(U:BR b n ⟨d,.call ⟨.value (.func f),args,ats⟩,ty,pp,af,g⟩=true)
  (he:Cq P f e) (W:evs L args.toList=some vs) (Z:e vs.toArray= .pure v) (h:JL J Q b n (AE L d v) ds (.inRegion ops rest::k) cs s):JL J Q b n L ds (.inRegion ops (i::rest)::k) cs s:=
 JL.y O hw U (fun ρ K=>by
  have aa:args.map ρ=vs.toArray:=by
   rw [← Ed K W]
   apply Array.ext';simp
  rcases Yl.ext (s:=s) (d:=d) (ats:=ats) (ty:=ty) (pp:=pp) (af:=af) (g:=g) he aa Z with q | q
  ·exact q
  ·exact absurd (K (.func f) _ rfl) q) h
end
section
variable {P:Program}{L:WgLink}(H:WgLib P L){F:Fam}{n:Nat}{M:Env}{ds:List Deferred}{k:List Item}{cs:List Frame}{s:St}{b:Frame}
variable {ops:Array Oper}{i:Nat}{rest:List Nat}{d:Option Tmp}{x y z:Operand}{ats:Array TypeId}{ty:TypeId}{pp:String}{af:Array Edge}{g:Option (Nat×Bool)}{p q:Ph}
include H
theorem JL.Sw(K:ops[i]? =some ⟨d,.call ⟨.value (.func L.uAdd),#[x,y],ats⟩,ty,pp,af,g⟩)(hw:AU M ops ⟨d,.call ⟨.value (.func L.uAdd),#[x,y],ats⟩,ty,pp,af,g⟩=some true)(O:((b.kind != .early)&&Bb n d)=true)
  (U:ev M x=some (.pointer (some F.sA))) (W:ev M y=some (.int .u64 18446744069414584320))
  (Z:JL (A4 P false) (Stop P F .Eh) b n (AE M d (.int .u64 (Fam.word 0 1))) ds (.inRegion ops rest::k) cs .quiet)
  (aa:∀v wt:Nat,v<2147483647→wt≤1→¬(v=0∧wt=1)→JL (Es P) (EO P 1) b n (AE M d (.int .u64 (Fam.word v wt))) ds (.inRegion ops rest::k) cs .quiet):
  JL (A4 P false) (Stop P F .EM) b n M ds (.inRegion ops (i::rest)::k) cs .quiet:=by
 refine JL.F6 (vs:= [.pointer (some F.sA),.int .u64 18446744069414584320]) K hw O H.f_uAdd (nm_uAdd L) rfl (by simp [evs,U,W]) (Nat.le_of_ble_eq_true rfl) fun ah back=>?_;refine JL.go 8 rfl ?_;refine JL.y rfl rfl rfl (fun ρ h=>Yl.fieldAddr H.underlying_tAU rfl (Dr H.sizeOf_tU64) (h _ _ rfl)) ?_;refine JL.go 1 rfl ?_;refine JL.S8 rfl rfl rfl rfl (MU H) rfl rfl ?_ fun v wt ab ae ag=>?_
 ·refine JL.y rfl rfl rfl (fun ρ h=>Yl.assign (h _ _ rfl)) ?_;refine JL.done ?_;exact JL.ret rfl rfl (Bv.one H.f_uAdd rfl rfl) (back _ _ _ _ Z)
 ·refine JL.y rfl rfl rfl (fun ρ h=>Yl.assign (h _ _ rfl)) ?_;refine JL.done ?_;exact JL.ret rfl rfl (Bv.one H.f_uAdd rfl rfl) (back _ _ _ _ (aa v wt ab ae ag))
theorem JL.S2{j:Nat}(K:s.q=false)(O:ops[i]? =some ⟨d,.call ⟨.value (.func L.uAdd),#[x,y],ats⟩,ty,pp,af,g⟩)(hw:AU M ops ⟨d,.call ⟨.value (.func L.uAdd),#[x,y],ats⟩,ty,pp,af,g⟩=some true)(U:((b.kind != .early)&&Bb n d)=true)
  (W:ev M x=some (.pointer (some F.sA))) (Z:ev M y=some (.int .u64 4294967296))
  (aa:JL (A4 P true) (Stop P F (.ET j)) b n (AE M d (.int .u64 (Fam.word 1 0))) ds (.inRegion ops rest::k) cs s)
  (ab:∀v:Nat,1≤v→v<2147483647→JL (A4 P true) (Stop P F (.D7 j)) b n (AE M d (.int .u64 (Fam.word (v+1) 0))) ds (.inRegion ops rest::k) cs s):
  JL (A4 P true) (Stop P F (.Fj j)) b n M ds (.inRegion ops (i::rest)::k) cs s:=by
 refine JL.F6 (vs:= [.pointer (some F.sA),.int .u64 4294967296]) O hw U H.f_uAdd (nm_uAdd L) rfl (by simp [evs,W,Z]) (Nat.le_of_ble_eq_true rfl) fun ah back=>?_;refine JL.go 8 rfl ?_;refine JL.y rfl rfl rfl (fun ρ h=>Yl.fieldAddr H.underlying_tAU rfl (Dr H.sizeOf_tU64) (h _ _ rfl)) ?_;refine JL.go 1 rfl ?_;refine JL.S7 K rfl rfl rfl rfl (MU H) rfl rfl ?_ fun v ae ag=>?_
 ·refine JL.y rfl rfl rfl (fun ρ h=>Yl.assign (h _ _ rfl)) ?_;refine JL.done ?_;exact JL.ret rfl rfl (Bv.one H.f_uAdd rfl rfl) (back _ _ _ _ aa)
 ·refine JL.y rfl rfl rfl (fun ρ h=>Yl.assign (h _ _ rfl)) ?_;refine JL.done ?_;exact JL.ret rfl rfl (Bv.one H.f_uAdd rfl rfl) (back _ _ _ _ (ab v ae ag))
theorem JL.uLoad(K:GY p=true)(O:if Fam.CI p=true then s= .quiet else s.q=false)(U:p≠ .C5)(W:Fam.ED p s=s)(Z:∀v wt sm r,F.act p v wt sm=some r→r.1=(v,wt,sm)∧r.2.1= #[Fam.Dq F.sA])(aa:ops[i]? =some ⟨d,.call ⟨.value (.func L.uLoad),#[x],ats⟩,ty,pp,af,g⟩)(hw:AU M ops ⟨d,.call ⟨.value (.func L.uLoad),#[x],ats⟩,ty,pp,af,g⟩=some true)(ab:((b.kind != .early)&&Bb n d)=true)
  (ae:ev M x=some (.pointer (some F.sA)))
  (h:∀v wt sm r,F.act p v wt sm=some r→∃q,r.2.2= .ph q∧JL (A4 P (Fam.Cr p)) (Stop P F q) b n (AE M d (.int .u64 (Fam.word v wt))) ds (.inRegion ops rest::k) cs s):
  JL (A4 P (Fam.Cr p)) (Stop P F p) b n M ds (.inRegion ops (i::rest)::k) cs s:=by
 refine JL.F6 (vs:= [.pointer (some F.sA)]) aa hw ab H.f_uLoad (nm_uLoad L) rfl (by simp [evs,ae]) (Nat.le_of_ble_eq_true rfl) fun aj back=>?_;refine JL.go 8 rfl ?_;refine JL.y rfl rfl rfl (fun ρ h=>Yl.fieldAddr H.underlying_tAU rfl (Dr H.sizeOf_tU64) (h _ _ rfl)) ?_;refine JL.Tr K O U W Z rfl rfl rfl rfl (Qc H) rfl fun v wt sm r ag=>?_;obtain⟨q,ah,ai⟩:=h v wt sm r ag;refine⟨q,ah,?_⟩
 ·refine JL.y rfl rfl rfl (fun ρ h=>Yl.assign (h _ _ rfl)) ?_;refine JL.done ?_;exact JL.ret rfl rfl (Bv.one H.f_uLoad rfl rfl) (back _ _ _ _ ai)
theorem JL.uStore(K:ops[i]? =some ⟨d,.call ⟨.value (.func L.uStore),#[x,y],ats⟩,ty,pp,af,g⟩)(hw:AU M ops ⟨d,.call ⟨.value (.func L.uStore),#[x,y],ats⟩,ty,pp,af,g⟩=some true)(O:((b.kind != .early)&&Bb n d)=true)
  (U:ev M x=some (.pointer (some F.sA))) (W:ev M y=some (.int .u64 0))
  (h:JL (A4 P false) (Stop P F .C5) b n (AE M d (.tuple #[])) ds (.inRegion ops rest::k) cs .quiet):
  JL (A4 P false) (Stop P F .Ex) b n M ds (.inRegion ops (i::rest)::k) cs .quiet:=by
 refine JL.F6 (vs:= [.pointer (some F.sA),.int .u64 0]) K hw O H.f_uStore (nm_uStore L) rfl (by simp [evs,U,W]) (Nat.le_of_ble_eq_true rfl) fun Z back=>?_;refine JL.go 3 rfl ?_;refine JL.y rfl rfl rfl (fun ρ h=>Yl.fieldAddr H.underlying_tAU rfl (Dr H.sizeOf_tU64) (h _ _ rfl)) ?_;refine JL.go 1 rfl ?_;refine JL.stA rfl rfl rfl rfl (Pp H) rfl rfl ?_;refine JL.done ?_;exact JL.fin rfl rfl (Bv.none H.f_uStore rfl) (back _ _ _ _ h)
theorem JL.uCas{m:Nat}(K:s.q=false)(O:ops[i]? =some ⟨d,.call ⟨.value (.func L.uCas),#[x,y,z],ats⟩,ty,pp,af,g⟩)(hw:AU M ops ⟨d,.call ⟨.value (.func L.uCas),#[x,y,z],ats⟩,ty,pp,af,g⟩=some true)(U:((b.kind != .early)&&Bb n d)=true)
  (W:ev M x=some (.pointer (some F.sA))) (Z:ev M y=some (.int .u64 (Fam.word m 0))) (aa:ev M z=some (.int .u64 (Fam.word m 1)))
  (ab:JL (A4 P false) (Stop P F .Fu) b n (AE M d (.bool true)) ds (.inRegion ops rest::k) cs s)
  (ae:JL (A4 P false) (Stop P F (.DN (m - 1))) b n (AE M d (.bool false)) ds (.inRegion ops rest::k) cs s):
  JL (A4 P false) (Stop P F (.EN m)) b n M ds (.inRegion ops (i::rest)::k) cs s:=by
 refine JL.F6 (vs:= [.pointer (some F.sA),.int .u64 (Fam.word m 0),.int .u64 (Fam.word m 1)]) O hw U H.f_uCas (nm_uCas L) rfl (by simp [evs,W,Z,aa]) (Nat.le_of_ble_eq_true rfl) fun ag back=>?_;refine JL.go 8 rfl ?_;refine JL.y rfl rfl rfl (fun ρ h=>Yl.fieldAddr H.underlying_tAU rfl (Dr H.sizeOf_tU64) (h _ _ rfl)) ?_;refine JL.go 2 rfl ?_;refine JL.Tv (m:=m) K rfl rfl rfl rfl (QL H) rfl rfl rfl ?_ ?_
 ·refine JL.y rfl rfl rfl (fun ρ h=>Yl.assign (h _ _ rfl)) ?_;refine JL.done ?_;exact JL.ret rfl rfl (Bv.one H.f_uCas rfl rfl) (back _ _ _ _ ab)
 ·refine JL.y rfl rfl rfl (fun ρ h=>Yl.assign (h _ _ rfl)) ?_;refine JL.done ?_;exact JL.ret rfl rfl (Bv.one H.f_uCas rfl rfl) (back _ _ _ _ ae)
end
end Pal
namespace Pal
open Go Go.Conc Go.Conc.Lib
open Go.ConcR.Gen
theorem GZ{v wt:Nat}(K:v<2147483648)(O:wt≤1):IntKind.u64.wrap (BitVec.ofInt IntKind.u64.bits (Fam.word v wt)&&& BitVec.ofInt IntKind.u64.bits 2147483648).toNat=0:=by
 have:=Go.ConcN.st_flag v wt K O;simpa [bits,Fam.word,Fam.KK] using this
theorem G5{v wt:Nat}(K:v<2147483648)(O:wt≤1):IntKind.u64.wrap (BitVec.ofInt IntKind.u64.bits (Fam.word v wt)&&& BitVec.ofInt IntKind.u64.bits 2147483647).toNat=(wt:Int):=by
 have:=Go.ConcN.st_waiters v wt K O;simpa [bits,Fam.word,Fam.KK] using this
theorem GN{v wt:Nat}(K:wt≤1):(Fam.word v wt).fdiv (2 ^ (min (32:Int).toNat IntKind.u64.bits))=(v:Int):=by
 have e:(2:Int) ^ (min (32:Int).toNat IntKind.u64.bits)=4294967296:=by decide
 rw [e,Int.fdiv_eq_ediv_of_nonneg _ (by decide)];simp only [Fam.word,Fam.KK];omega
theorem wrap_i32{v:Nat}(K:v<2147483648):IntKind.i32.wrap (v:Int)=v:=by
 simp only [IntKind.wrap,IntKind.bits,IntKind.signed];simp;split <;> omega
theorem wrap_u32{v:Nat}(K:v≤1):IntKind.u32.wrap (v:Int)=v:=by
 simp only [IntKind.wrap,IntKind.bits,IntKind.signed];simp;omega
theorem PM{F:Fam}:∀v wt sm r,F.act .Eh v wt sm=some r→r.1=(v,wt,sm)∧r.2.1= #[Fam.Dq F.sA]:=by
 intro v wt sm r h;simp only [Fam.act] at h;split at h
 ·rename_i K;obtain⟨rfl,rfl⟩:=K;cases h;exact⟨rfl,rfl⟩
 ·cases h
theorem PY{F:Fam}{v wt sm:Nat}{r}(h:F.act .Eh v wt sm=some r):v=0∧wt=1∧r.2.2= .ph .Ex:=by
 simp only [Fam.act] at h;split at h
 ·rename_i K;cases h;exact⟨K.1,K.2,rfl⟩
 ·cases h
section
variable {P:Program}{L:WgLink}(H:WgLib P L){F:Fam}{n:Nat}{M:Env}{ds:List Deferred}{k:List Item}{cs:List Frame}{s:St}{b:Frame}
variable {ops:Array Oper}{i:Nat}{rest:List Nat}{d:Option Tmp}{x y z:Operand}{ats:Array TypeId}{ty:TypeId}{pp:String}{af:Array Edge}{g:Option (Nat×Bool)}{p q:Ph}
include H
theorem JL.addNeg(U:s.q=false)(W:ops[i]? =some ⟨d,.call ⟨.value (.func L.add),#[x,y],ats⟩,ty,pp,af,g⟩)(hw:AU M ops ⟨d,.call ⟨.value (.func L.add),#[x,y],ats⟩,ty,pp,af,g⟩=some true)(Z:((b.kind != .early)&&Bb n d)=true)
  (aa:ev M x=some (.pointer (some F.sA))) (ab:ev M y=some (.int .i64 (-1)))
  (h:JL (Es P) (EO P 0) b n (AE M d (.tuple #[])) ds (.inRegion ops rest::k) cs .quiet):
  JL (A4 P false) (Stop P F .B6) b n M ds (.inRegion ops (i::rest)::k) cs s:=by
 refine JL.F6 (vs:= [.pointer (some F.sA),.int .i64 (-1)]) W hw Z H.f_add (nm_add L) rfl (by simp [evs,aa,ab]) (Nat.le_of_ble_eq_true rfl) fun ag back=>?_;refine JL.go 11 rfl ?_;refine JL.conv (p:= .B6) (q:= .Ej) (ad:=F.sA) rfl U (by simp) (fun _ _ _=>rfl) rfl rfl rfl rfl rfl H.underlying_tWgP H.underlying_tUP H.room_tWg rfl (.inl rfl) ?_
 refine JL.HA (p:= .Ej) (q:= .FI) (mk:= .releaseMerge) (ad:=F.sA) (vs:= [.pointer (some F.sA)]) rfl U (by simp) (fun _ _ _=>rfl) rfl rfl rfl rfl (by simp) (OO H) rfl rfl ?_;refine JL.go 3 rfl ?_;refine JL.HK (p:= .FI) (q:= .EM) rfl rfl (by simp) (fun _ _ _=>rfl) rfl rfl rfl rfl rfl (by simp) (JK H) ?_;refine JL.go 2 rfl ?_;refine JL.defer (vs:= []) rfl rfl rfl rfl rfl ?_;refine JL.go 8 rfl ?_;refine JL.ext (vs:= []) rfl rfl rfl (LD H) rfl rfl ?_;refine JL.go 7 rfl ?_;refine JL.y rfl rfl rfl (fun ρ h=>Yl.fieldAddr H.underlying_tWg rfl (Dr H.sizeOf_tAU) (h _ _ rfl)) ?_;refine JL.go 1 rfl ?_;refine JL.y rfl rfl rfl (fun ρ h=>Yl.conv H.underlying_t3 H.underlying_tU64 (h _ _ rfl)) ?_
 refine JL.y (v:= .int .u64 18446744069414584320) rfl rfl rfl (fun ρ h=>(Yl.shl (h _ _ rfl) (h _ _ rfl) (by decide)).to (congrArg _ (by decide))) ?_;refine JL.Sw H rfl rfl rfl rfl rfl ?_ fun v wt ah K ai=>?_
 ·refine JL.y rfl rfl rfl (fun ρ h=>Yl.assign (h _ _ rfl)) ?_;refine JL.go 5 rfl ?_;refine JL.y (v:= .int .u64 0) rfl rfl rfl (fun ρ h=>(Yl.and (h _ _ rfl) (h _ _ rfl)).to (congrArg _ (GZ (v:=0) (wt:=1) (by decide) (by decide)))) ?_;refine JL.y rfl rfl rfl (fun ρ h=>Yl.neq (h _ _ rfl) (h _ _ rfl)) ?_;refine JL.go 10 rfl ?_;refine JL.y (v:= .int .u64 (0:Nat)) rfl rfl rfl (fun ρ h=>(Yl.shr (h _ _ rfl) (h _ _ rfl) (by decide)).to (congrArg _ (GN (v:=0) (wt:=1) (by decide)))) ?_;refine JL.y (v:= .int .i32 (0:Nat)) rfl rfl rfl (fun ρ h=>(Yl.conv H.underlying_tU64 H.underlying_t21 (h _ _ rfl)).to (congrArg _ (wrap_i32 (by decide)))) ?_
  refine JL.go 5 rfl ?_;refine JL.y (v:= .int .u64 (1:Nat)) rfl rfl rfl (fun ρ h=>(Yl.and (h _ _ rfl) (h _ _ rfl)).to (congrArg _ (G5 (v:=0) (wt:=1) (by decide) (by decide)))) ?_;refine JL.y (v:= .int .u32 (1:Nat)) rfl rfl rfl (fun ρ h=>(Yl.conv H.underlying_tU64 H.underlying_tU32 (h _ _ rfl)).to (congrArg _ (wrap_u32 (by decide)))) ?_
  refine JL.go 30 rfl ?_;refine JL.y rfl rfl rfl (fun ρ h=>Yl.neq (h _ _ rfl) (h _ _ rfl)) ?_;refine JL.go 30 rfl ?_;refine JL.y rfl rfl rfl (fun ρ h=>Yl.fieldAddr H.underlying_tWg rfl (Dr H.sizeOf_tAU) (h _ _ rfl)) ?_;refine JL.uLoad H (p:= .Eh) rfl rfl (by simp) rfl PM rfl rfl rfl rfl fun v wt sm r ae=>?_;obtain⟨rfl,rfl,e⟩:=PY ae;refine⟨.Ex,e,?_⟩;refine JL.go 1 rfl ?_;refine JL.y (v:= .bool false) rfl rfl rfl (fun ρ h=>(Yl.neq (h _ _ rfl) (h _ _ rfl)).to (by simp)) ?_;refine JL.go 7 rfl ?_;refine JL.y rfl rfl rfl (fun ρ h=>Yl.fieldAddr H.underlying_tWg rfl (Dr H.sizeOf_tAU) (h _ _ rfl)) ?_;refine JL.uStore H rfl rfl rfl rfl rfl ?_;refine JL.go 9 rfl ?_;refine JL.G4 ?_;refine JL.go 4 rfl ?_;refine JL.y rfl rfl rfl (fun ρ h=>Yl.neq (h _ _ rfl) (h _ _ rfl)) ?_;refine JL.go 8 rfl ?_;refine JL.y rfl rfl rfl (fun ρ h=>Yl.fieldAddr H.underlying_tWg rfl (Dr H.sizeOf_tU32) (h _ _ rfl)) ?_;refine JL.SQ (vs:= [.pointer (some F.mA),.bool false,.int .i64 0]) rfl rfl rfl rfl (Pm H) rfl rfl ?_;refine JL.go 4 rfl ?_;refine JL.y (v:= .int .u32 ((0:Nat):Int)) rfl rfl rfl (fun ρ h=>(Yl.sub (h _ _ rfl) (h _ _ rfl)).to (congrArg _ (by decide))) ?_;refine JL.go 2 rfl ?_;refine JL.again ?_;refine JL.go 4 rfl ?_;refine JL.y rfl rfl rfl (fun ρ h=>Yl.neq (h _ _ rfl) (h _ _ rfl)) ?_;refine JL.go 3 rfl ?_;refine JL.out rfl (JO.IE rfl (FR H) (JO.leave rfl (Bv.none H.f_add rfl) (back _ _ _ _ h)))
 ·refine JL.y rfl rfl rfl (fun ρ h=>Yl.assign (h _ _ rfl)) ?_;refine JL.go 5 rfl ?_;refine JL.y (v:= .int .u64 0) rfl rfl rfl (fun ρ h=>(Yl.and (h _ _ rfl) (h _ _ rfl)).to (congrArg _ (GZ (v:=v) (wt:=wt) (by omega) K))) ?_;refine JL.y rfl rfl rfl (fun ρ h=>Yl.neq (h _ _ rfl) (h _ _ rfl)) ?_;refine JL.go 10 rfl ?_;refine JL.y (v:= .int .u64 (v:Nat)) rfl rfl rfl (fun ρ h=>(Yl.shr (h _ _ rfl) (h _ _ rfl) (by decide)).to (congrArg _ (GN (v:=v) (wt:=wt) K))) ?_;refine JL.y (v:= .int .i32 (v:Nat)) rfl rfl rfl (fun ρ h=>(Yl.conv H.underlying_tU64 H.underlying_t21 (h _ _ rfl)).to (congrArg _ (wrap_i32 (by omega)))) ?_
  refine JL.go 5 rfl ?_;refine JL.y (v:= .int .u64 (wt:Nat)) rfl rfl rfl (fun ρ h=>(Yl.and (h _ _ rfl) (h _ _ rfl)).to (congrArg _ (G5 (v:=v) (wt:=wt) (by omega) K))) ?_;refine JL.y (v:= .int .u32 (wt:Nat)) rfl rfl rfl (fun ρ h=>(Yl.conv H.underlying_tU64 H.underlying_tU32 (h _ _ rfl)).to (congrArg _ (wrap_u32 K))) ?_
  refine JL.go 22 rfl ?_;refine JL.y (v:= .bool false) rfl rfl rfl (fun ρ h=>(Yl.lss (h _ _ rfl) (h _ _ rfl)).to (by simp)) ?_;refine JL.go 6 rfl ?_;by_cases O:wt=0
  ·refine JL.y rfl rfl rfl (fun ρ h=>Yl.move (h _ _ rfl)) ?_;refine JL.y (v:= .bool false) rfl rfl rfl (fun ρ h=>(Yl.neq (h _ _ rfl) (h _ _ rfl)).to (by simp [O])) ?_;refine JL.go 16 rfl ?_;by_cases aj:0<v
   ·refine JL.y rfl rfl rfl (fun ρ h=>Yl.move (h _ _ rfl)) ?_;refine JL.y (v:= .bool true) rfl rfl rfl (fun ρ h=>(Yl.gtr (h _ _ rfl) (h _ _ rfl)).to (by simp <;> omega)) ?_;refine JL.go 6 rfl ?_;refine JL.F1 rfl (JO.IE rfl (FR H) (JO.leave rfl (Bv.none H.f_add rfl) (back _ _ _ _ h)))
   ·refine JL.y rfl rfl rfl (fun ρ h=>Yl.move (h _ _ rfl)) ?_;refine JL.y (v:= .bool false) rfl rfl rfl (fun ρ h=>(Yl.gtr (h _ _ rfl) (h _ _ rfl)).to (by simp <;> omega)) ?_;refine JL.go 2 rfl ?_;refine JL.y (v:= .bool true) rfl rfl rfl (fun ρ h=>(Yl.eql (h _ _ rfl) (h _ _ rfl)).to (by simp [O])) ?_;refine JL.go 3 rfl ?_;refine JL.F1 rfl (JO.IE rfl (FR H) (JO.leave rfl (Bv.none H.f_add rfl) (back _ _ _ _ h)))
  ·refine JL.y rfl rfl rfl (fun ρ h=>Yl.move (h _ _ rfl)) ?_;refine JL.y (v:= .bool true) rfl rfl rfl (fun ρ h=>(Yl.neq (h _ _ rfl) (h _ _ rfl)).to (by simp [O])) ?_;refine JL.go 17 rfl ?_;refine JL.y (v:= .bool true) rfl rfl rfl (fun ρ h=>(Yl.gtr (h _ _ rfl) (h _ _ rfl)).to (by simp <;> omega)) ?_;refine JL.go 6 rfl ?_;refine JL.F1 rfl (JO.IE rfl (FR H) (JO.leave rfl (Bv.none H.f_add rfl) (back _ _ _ _ h)))
theorem JL.addPos{j:Nat}(K:s.q=false)(O:ops[i]? =some ⟨d,.call ⟨.value (.func L.add),#[x,y],ats⟩,ty,pp,af,g⟩)(hw:AU M ops ⟨d,.call ⟨.value (.func L.add),#[x,y],ats⟩,ty,pp,af,g⟩=some true)(U:((b.kind != .early)&&Bb n d)=true)
  (W:ev M x=some (.pointer (some F.sA))) (Z:ev M y=some (.int .i64 1))
  (h:JL (A4 P true) (Stop P F (.Dp j)) b n (AE M d (.tuple #[])) ds (.inRegion ops rest::k) cs s):
  JL (A4 P true) (Stop P F (.Dx j)) b n M ds (.inRegion ops (i::rest)::k) cs s:=by
 refine JL.F6 (vs:= [.pointer (some F.sA),.int .i64 1]) O hw U H.f_add (nm_add L) rfl (by simp [evs,W,Z]) (Nat.le_of_ble_eq_true rfl) fun aa back=>?_;refine JL.go 12 rfl ?_;refine JL.HK (p:= .Dx j) (q:= .Fj j) rfl K (by simp) (fun _ _ _=>rfl) rfl rfl rfl rfl rfl (by simp) (JK H) ?_;refine JL.go 2 rfl ?_;refine JL.defer (vs:= []) rfl rfl rfl rfl rfl ?_;refine JL.go 8 rfl ?_;refine JL.ext (vs:= []) rfl rfl rfl (LD H) rfl rfl ?_;refine JL.go 7 rfl ?_;refine JL.y rfl rfl rfl (fun ρ h=>Yl.fieldAddr H.underlying_tWg rfl (Dr H.sizeOf_tAU) (h _ _ rfl)) ?_;refine JL.go 1 rfl ?_;refine JL.y rfl rfl rfl (fun ρ h=>Yl.conv H.underlying_t3 H.underlying_tU64 (h _ _ rfl)) ?_
 refine JL.y (v:= .int .u64 4294967296) rfl rfl rfl (fun ρ h=>(Yl.shl (h _ _ rfl) (h _ _ rfl) (by decide)).to (congrArg _ (by decide))) ?_;refine JL.S2 H K rfl rfl rfl rfl rfl ?_ fun v ab ae=>?_
 ·refine JL.y rfl rfl rfl (fun ρ h=>Yl.assign (h _ _ rfl)) ?_;refine JL.go 5 rfl ?_;refine JL.y (v:= .int .u64 0) rfl rfl rfl (fun ρ h=>(Yl.and (h _ _ rfl) (h _ _ rfl)).to (congrArg _ (GZ (v:=1) (wt:=0) (by decide) (by decide)))) ?_;refine JL.y rfl rfl rfl (fun ρ h=>Yl.neq (h _ _ rfl) (h _ _ rfl)) ?_;refine JL.go 10 rfl ?_;refine JL.y (v:= .int .u64 (1:Nat)) rfl rfl rfl (fun ρ h=>(Yl.shr (h _ _ rfl) (h _ _ rfl) (by decide)).to (congrArg _ (GN (v:=1) (wt:=0) (by decide)))) ?_;refine JL.y (v:= .int .i32 (1:Nat)) rfl rfl rfl (fun ρ h=>(Yl.conv H.underlying_tU64 H.underlying_t21 (h _ _ rfl)).to (congrArg _ (wrap_i32 (by decide)))) ?_
  refine JL.go 5 rfl ?_;refine JL.y (v:= .int .u64 (0:Nat)) rfl rfl rfl (fun ρ h=>(Yl.and (h _ _ rfl) (h _ _ rfl)).to (congrArg _ (G5 (v:=1) (wt:=0) (by decide) (by decide)))) ?_;refine JL.y (v:= .int .u32 (0:Nat)) rfl rfl rfl (fun ρ h=>(Yl.conv H.underlying_tU64 H.underlying_tU32 (h _ _ rfl)).to (congrArg _ (wrap_u32 (by decide)))) ?_
  refine JL.go 12 rfl ?_;refine JL.y (v:= .int .i32 1) rfl rfl rfl (fun ρ h=>(Yl.conv H.underlying_t3 H.underlying_t21 (h _ _ rfl)).to (congrArg _ (by decide))) ?_
  refine JL.y (v:= .bool true) rfl rfl rfl (fun ρ h=>(Yl.eql (h _ _ rfl) (h _ _ rfl)).to (by simp)) ?_;refine JL.go 6 rfl ?_;refine JL.y rfl rfl rfl (fun ρ h=>Yl.fieldAddr H.underlying_tWg rfl (Dr H.sizeOf_tU32) (h _ _ rfl)) ?_;refine JL.conv (p:= .ET j) (q:= .Ey j) (ad:=F.mA) rfl K (by simp) (fun _ _ _=>rfl) rfl rfl rfl rfl rfl H.underlying_tPU32 H.underlying_tUP H.room_tU32 rfl (.inr rfl) ?_
  refine JL.HA (p:= .Ey j) (q:= .D7 j) (mk:= .read) (ad:=F.mA) (vs:= [.pointer (some F.mA)]) rfl K (by simp) (fun _ _ _=>rfl) rfl rfl rfl rfl (by simp) (P4 H) rfl rfl ?_;refine JL.go 5 rfl ?_;refine JL.y (v:= .bool false) rfl rfl rfl (fun ρ h=>(Yl.lss (h _ _ rfl) (h _ _ rfl)).to (by simp)) ?_;refine JL.go 7 rfl ?_;refine JL.y (v:= .bool false) rfl rfl rfl (fun ρ h=>(Yl.neq (h _ _ rfl) (h _ _ rfl)).to (by simp)) ?_;refine JL.go 17 rfl ?_;refine JL.y (v:= .bool true) rfl rfl rfl (fun ρ h=>(Yl.gtr (h _ _ rfl) (h _ _ rfl)).to (by simp)) ?_;refine JL.go 6 rfl ?_;exact JL.F1 rfl (JO.MR K rfl (FR H) (JO.leave rfl (Bv.none H.f_add rfl) (back _ _ _ _ h)))
 ·refine JL.y rfl rfl rfl (fun ρ h=>Yl.assign (h _ _ rfl)) ?_;refine JL.go 5 rfl ?_;refine JL.y (v:= .int .u64 0) rfl rfl rfl (fun ρ h=>(Yl.and (h _ _ rfl) (h _ _ rfl)).to (congrArg _ (GZ (v:=(v+1)) (wt:=0) (by omega) (by decide)))) ?_;refine JL.y rfl rfl rfl (fun ρ h=>Yl.neq (h _ _ rfl) (h _ _ rfl)) ?_;refine JL.go 10 rfl ?_;refine JL.y (v:= .int .u64 ((v+1):Nat)) rfl rfl rfl (fun ρ h=>(Yl.shr (h _ _ rfl) (h _ _ rfl) (by decide)).to (congrArg _ (GN (v:=(v+1)) (wt:=0) (by decide)))) ?_;refine JL.y (v:= .int .i32 ((v+1):Nat)) rfl rfl rfl (fun ρ h=>(Yl.conv H.underlying_tU64 H.underlying_t21 (h _ _ rfl)).to (congrArg _ (wrap_i32 (by omega)))) ?_
  refine JL.go 5 rfl ?_;refine JL.y (v:= .int .u64 (0:Nat)) rfl rfl rfl (fun ρ h=>(Yl.and (h _ _ rfl) (h _ _ rfl)).to (congrArg _ (G5 (v:=(v+1)) (wt:=0) (by omega) (by decide)))) ?_;refine JL.y (v:= .int .u32 (0:Nat)) rfl rfl rfl (fun ρ h=>(Yl.conv H.underlying_tU64 H.underlying_tU32 (h _ _ rfl)).to (congrArg _ (wrap_u32 (by decide)))) ?_
  refine JL.go 12 rfl ?_;refine JL.y (v:= .int .i32 1) rfl rfl rfl (fun ρ h=>(Yl.conv H.underlying_t3 H.underlying_t21 (h _ _ rfl)).to (congrArg _ (by decide))) ?_
  refine JL.y (v:= .bool false) rfl rfl rfl (fun ρ h=>(Yl.eql (h _ _ rfl) (h _ _ rfl)).to (by simp <;> omega)) ?_;refine JL.go 8 rfl ?_;refine JL.y (v:= .bool false) rfl rfl rfl (fun ρ h=>(Yl.lss (h _ _ rfl) (h _ _ rfl)).to (by simp <;> omega)) ?_;refine JL.go 7 rfl ?_;refine JL.y (v:= .bool false) rfl rfl rfl (fun ρ h=>(Yl.neq (h _ _ rfl) (h _ _ rfl)).to (by simp)) ?_;refine JL.go 17 rfl ?_;refine JL.y (v:= .bool true) rfl rfl rfl (fun ρ h=>(Yl.gtr (h _ _ rfl) (h _ _ rfl)).to (by simp <;> omega)) ?_;refine JL.go 6 rfl ?_;exact JL.F1 rfl (JO.MR K rfl (FR H) (JO.leave rfl (Bv.none H.f_add rfl) (back _ _ _ _ h)))
omit H in
theorem Pu{m:Nat}:∀v wt sm r,F.act (.DN m) v wt sm=some r→r.1=(v,wt,sm)∧r.2.1= #[Fam.Dq F.sA]:=by
 intro v wt sm r h;simp only [Fam.act] at h;split at h
 ·rename_i K;obtain⟨_,rfl⟩:=K;cases h;exact⟨rfl,rfl⟩
 ·cases h
omit H in
theorem P0{m v wt sm:Nat}{r}(h:F.act (.DN m) v wt sm=some r):v≤m∧wt=0∧r.2.2=if v=0 then .ph .DD else .ph (.EN v):=by
 simp only [Fam.act] at h;split at h
 ·rename_i K;cases h;exact⟨K.1,K.2,rfl⟩
 ·cases h
omit H in
theorem O3:∀v wt sm r,F.act .Ew v wt sm=some r→r.1=(v,wt,sm)∧r.2.1= #[Fam.Dq F.sA]:=by
 intro v wt sm r h;simp only [Fam.act] at h;split at h
 ·rename_i K;obtain⟨rfl,rfl⟩:=K;cases h;exact⟨rfl,rfl⟩
 ·cases h
omit H in
theorem Pr{v wt sm:Nat}{r}(h:F.act .Ew v wt sm=some r):v=0∧wt=0∧r.2.2= .ph .DD:=by
 simp only [Fam.act] at h;split at h
 ·rename_i K;cases h;exact⟨K.1,K.2,rfl⟩
 ·cases h
omit H in
theorem Ps{v:Nat}(K:v<2147483648):IntKind.u64.wrap (Fam.word v 0+1)=Fam.word v 1:=by
 simp only [Fam.word,Fam.KK,IntKind.wrap,IntKind.bits,IntKind.signed];simp;omega
theorem JL.wait(Z:F.n<2147483648)(K:s.q=false)(aa:ops[i]? =some ⟨d,.call ⟨.value (.func L.wait),#[x],ats⟩,ty,pp,af,g⟩)(hw:AU M ops ⟨d,.call ⟨.value (.func L.wait),#[x],ats⟩,ty,pp,af,g⟩=some true)(ab:((b.kind != .early)&&Bb n d)=true)
  (ae:ev M x=some (.pointer (some F.sA)))
  (h:JL (A4 P false) (Stop P F .Cw) b n (AE M d (.tuple #[])) ds (.inRegion ops rest::k) cs s):
  JL (A4 P false) (Stop P F .B9) b n M ds (.inRegion ops (i::rest)::k) cs s:=by
 refine JL.F6 (vs:= [.pointer (some F.sA)]) aa hw ab H.f_wait (nm_wait L) rfl (by simp [evs,ae]) (Nat.le_of_ble_eq_true rfl) fun ah back=>?_;refine JL.go 3 rfl ?_;refine JL.HK (p:= .B9) (q:= .DN F.n) rfl K (by simp) (fun _ _ _=>rfl) rfl rfl rfl rfl rfl (by simp) (JK H) ?_;refine JL.go 2 rfl ?_;refine JL.G4 ?_;refine JL.Cc (L':= [(0,.pointer (some F.sA))]) ⟨rfl,trivial⟩ ?_;generalize F.n=m at Z ⊢
 induction m using Nat.strongRecOn with
 | _ m ag=>?_
 refine JL.go 5 rfl ?_;refine JL.y rfl rfl rfl (fun ρ h=>Yl.fieldAddr H.underlying_tWg rfl (Dr H.sizeOf_tAU) (h _ _ rfl)) ?_;refine JL.uLoad H (p:= .DN m) rfl K (by simp) rfl Pu rfl rfl rfl rfl fun v wt sm r U=>?_;obtain⟨ai,rfl,e⟩:=P0 U;have O:v<2147483648:=by omega
 by_cases W:v=0
 ·subst W;refine⟨.DD,e,?_⟩;refine JL.go 5 rfl ?_;refine JL.y (v:= .int .u64 (0:Nat)) rfl rfl rfl (fun ρ h=>(Yl.shr (h _ _ rfl) (h _ _ rfl) (by decide)).to (congrArg _ (GN (v:=0) (wt:=0) (by decide)))) ?_;refine JL.y (v:= .int .i32 (0:Nat)) rfl rfl rfl (fun ρ h=>(Yl.conv H.underlying_tU64 H.underlying_t21 (h _ _ rfl)).to (congrArg _ (wrap_i32 (by decide)))) ?_
  refine JL.go 5 rfl ?_;refine JL.y (v:= .int .u64 ((0:Nat):Int)) rfl rfl rfl (fun ρ h=>(Yl.and (h _ _ rfl) (h _ _ rfl)).to (congrArg _ (G5 (v:=0) (wt:=0) (by decide) (by decide)))) ?_;refine JL.y (v:= .int .u32 ((0:Nat):Int)) rfl rfl rfl (fun ρ h=>(Yl.conv H.underlying_tU64 H.underlying_tU32 (h _ _ rfl)).to (congrArg _ (wrap_u32 (by decide)))) ?_
  refine JL.go 6 rfl ?_;refine JL.y (v:= .bool true) rfl rfl rfl (fun ρ h=>(Yl.eql (h _ _ rfl) (h _ _ rfl)).to (by simp)) ?_;refine JL.go 6 rfl ?_;refine JL.HK (p:= .DD) (q:= .Fq) rfl K (by simp) (fun _ _ _=>rfl) rfl rfl rfl rfl rfl (by simp) (FR H) ?_;refine JL.go 3 rfl ?_;refine JL.conv (p:= .Fq) (q:= .EA) (ad:=F.sA) rfl K (by simp) (fun _ _ _=>rfl) rfl rfl rfl rfl rfl H.underlying_tWgP H.underlying_tUP H.room_tWg rfl (.inl rfl) ?_
  refine JL.HA (p:= .EA) (q:= .Cw) (mk:= .acquire) (ad:=F.sA) (vs:= [.pointer (some F.sA)]) rfl K (by simp) (fun _ _ _=>rfl) rfl rfl rfl rfl (by simp) (LA H) rfl rfl ?_;refine JL.go 5 rfl ?_;refine JL.y (v:= .bool true) rfl rfl rfl (fun ρ h=>(Yl.eql (h _ _ rfl) (h _ _ rfl)).to (by simp)) ?_;refine JL.go 2 rfl ?_;refine JL.y (v:= .int .u64 0) rfl rfl rfl (fun ρ h=>(Yl.and (h _ _ rfl) (h _ _ rfl)).to (congrArg _ (GZ (v:=0) (wt:=0) (by decide) (by decide)))) ?_;refine JL.y (v:= .bool false) rfl rfl rfl (fun ρ h=>(Yl.neq (h _ _ rfl) (h _ _ rfl)).to (by simp)) ?_;refine JL.go 8 rfl ?_;exact JL.ret rfl rfl (Bv.none H.f_wait rfl) (back _ _ _ _ h)
 ·refine⟨.EN v,by rw [e,if_neg W],?_⟩;refine JL.go 5 rfl ?_;refine JL.y (v:= .int .u64 (v:Nat)) rfl rfl rfl (fun ρ h=>(Yl.shr (h _ _ rfl) (h _ _ rfl) (by decide)).to (congrArg _ (GN (v:=v) (wt:=0) (by decide)))) ?_;refine JL.y (v:= .int .i32 (v:Nat)) rfl rfl rfl (fun ρ h=>(Yl.conv H.underlying_tU64 H.underlying_t21 (h _ _ rfl)).to (congrArg _ (wrap_i32 O))) ?_
  refine JL.go 5 rfl ?_;refine JL.y (v:= .int .u64 ((0:Nat):Int)) rfl rfl rfl (fun ρ h=>(Yl.and (h _ _ rfl) (h _ _ rfl)).to (congrArg _ (G5 (v:=v) (wt:=0) O (by decide)))) ?_;refine JL.y (v:= .int .u32 ((0:Nat):Int)) rfl rfl rfl (fun ρ h=>(Yl.conv H.underlying_tU64 H.underlying_tU32 (h _ _ rfl)).to (congrArg _ (wrap_u32 (by decide)))) ?_
  refine JL.go 6 rfl ?_;refine JL.y (v:= .bool false) rfl rfl rfl (fun ρ h=>(Yl.eql (h _ _ rfl) (h _ _ rfl)).to (by simp <;> omega)) ?_;refine JL.go 7 rfl ?_;refine JL.y rfl rfl rfl (fun ρ h=>Yl.fieldAddr H.underlying_tWg rfl (Dr H.sizeOf_tAU) (h _ _ rfl)) ?_;refine JL.go 2 rfl ?_;refine JL.y (v:= .int .u64 (Fam.word v 1)) rfl rfl rfl (fun ρ h=>(Yl.add (h _ _ rfl) (h _ _ rfl)).to (congrArg _ (Ps O))) ?_;refine JL.uCas H (m:=v) K rfl rfl rfl rfl rfl rfl ?_ ?_
  ·refine JL.done ?_;refine JL.go 6 rfl ?_;refine JL.y (v:= .bool true) rfl rfl rfl (fun ρ h=>(Yl.eql (h _ _ rfl) (h _ _ rfl)).to (by simp)) ?_;refine JL.go 6 rfl ?_;refine JL.y rfl rfl rfl (fun ρ h=>Yl.fieldAddr H.underlying_tWg rfl (Dr H.sizeOf_tU32) (h _ _ rfl)) ?_;refine JL.conv (p:= .Fu) (q:= .ES) (ad:=F.mA) rfl K (by simp) (fun _ _ _=>rfl) rfl rfl rfl rfl rfl H.underlying_tPU32 H.underlying_tUP H.room_tU32 rfl (.inr rfl) ?_
   refine JL.HA (p:= .ES) (q:= .Cp) (mk:= .write) (ad:=F.mA) (vs:= [.pointer (some F.mA)]) rfl K (by simp) (fun _ _ _=>rfl) rfl rfl rfl rfl (by simp) (Pn H) rfl rfl ?_;refine JL.go 9 rfl ?_;refine JL.y (v:= .int .u64 0) rfl rfl rfl (fun ρ h=>(Yl.and (h _ _ rfl) (h _ _ rfl)).to (congrArg _ (GZ (v:=v) (wt:=0) O (by decide)))) ?_;refine JL.y (v:= .bool false) rfl rfl rfl (fun ρ h=>(Yl.neq (h _ _ rfl) (h _ _ rfl)).to (by simp)) ?_;refine JL.go 10 rfl ?_;refine JL.y rfl rfl rfl (fun ρ h=>Yl.fieldAddr H.underlying_tWg rfl (Dr H.sizeOf_tU32) (h _ _ rfl)) ?_;refine JL.go 1 rfl ?_;refine JL.QR (vs:= [.pointer (some F.mA),.bool false]) K rfl rfl rfl rfl (OZ H) rfl rfl ?_;refine JL.go 5 rfl ?_;refine JL.y rfl rfl rfl (fun ρ h=>Yl.fieldAddr H.underlying_tWg rfl (Dr H.sizeOf_tAU) (h _ _ rfl)) ?_;refine JL.uLoad H (p:= .Ew) rfl K (by simp) rfl O3 rfl rfl rfl rfl fun v wt sm r U=>?_;obtain⟨rfl,rfl,e⟩:=Pr U;refine⟨.DD,e,?_⟩;refine JL.y (v:= .bool false) rfl rfl rfl (fun ρ h=>(Yl.neq (h _ _ rfl) (h _ _ rfl)).to (by simp [Fam.word])) ?_;refine JL.go 6 rfl ?_;refine JL.HK (p:= .DD) (q:= .Fq) rfl K (by simp) (fun _ _ _=>rfl) rfl rfl rfl rfl rfl (by simp) (FR H) ?_;refine JL.go 3 rfl ?_;refine JL.conv (p:= .Fq) (q:= .EA) (ad:=F.sA) rfl K (by simp) (fun _ _ _=>rfl) rfl rfl rfl rfl rfl H.underlying_tWgP H.underlying_tUP H.room_tWg rfl (.inl rfl) ?_
   refine JL.HA (p:= .EA) (q:= .Cw) (mk:= .acquire) (ad:=F.sA) (vs:= [.pointer (some F.sA)]) rfl K (by simp) (fun _ _ _=>rfl) rfl rfl rfl rfl (by simp) (LA H) rfl rfl ?_;refine JL.go 8 rfl ?_;exact JL.ret rfl rfl (Bv.none H.f_wait rfl) (back _ _ _ _ h)
  ·refine JL.done ?_;refine JL.go 3 rfl ?_;refine JL.again ?_;refine JL.Cc (L':= [(0,.pointer (some F.sA))]) ⟨rfl,trivial⟩ ?_;exact ag (v - 1) (by omega) (by omega)
theorem JO.I9(K:b.roundOf=none)(O:s.q=false)(h:JO (Es P) (EO P 0) b n M ds cs .quiet):
  JO (A4 P false) (Stop P F .B6) b n M (dcall L.done #[.pointer (some F.sA)]::ds) cs s:=by
 refine JO.enter (vs:= [.pointer (some F.sA)]) K H.f_done (nm_done L) rfl (Nat.le_of_ble_eq_true rfl) fun T U todo=>?_;refine JL.go 2 rfl ?_;refine JL.addNeg H O rfl rfl rfl rfl rfl ?_;refine JL.done ?_;exact JL.out rfl (JO.leaveD rfl H.f_done rfl (.inl rfl) (h T U todo))
end
end Pal
namespace Pal
open Go Go.Conc
section
variable {P:Program}{J:Judge P}{Q:Goroutine→St→Prop}{g:Goroutine}{cs:List Frame}{c:Frame}{E H:LH}{S S':List Seg}
theorem Kc(K:S.flatten.Perm S'.flatten)(O:Ax E H S)(h:Ax E H S'→J.ok Q g (Am E H S')):J.ok Q g (Am E H S):=by
 have U:Am E H S=Am E H S':=C3 O K;rw [U];exact h (Nd.perm O K)
theorem MF(K:S'.flatten=S.flatten)(O:Ax E H S)(h:Ax E H S'→J.ok Q g (Am E H S')):J.ok Q g (Am E H S):=Kc (by rw [K]) O h
theorem Mr{f:FuncId}{vs:List Value}{seg:Seg}{R:Value→LH→Seg→Prop}(j:Nat)(ae:As J f vs E seg R)(K:Ax E H S)(O:S[j]? =some seg)
  (ag:∀v E' seg',Le E E'→R v E' seg'→Ax E' H (S.set j seg')→J.ok Q (G (c.finish v) cs) (Am E' H (S.set j seg'))):
  J.ok Q (G (Frame.enter P f vs.toArray .normal) (c::cs)) (Am E H S):=by
 have U:S.flatten.Perm (seg++(S.set j []).flatten):=(CB (seg':=seg) O).1.trans List.perm_append_comm;have W:Nd E H (seg++(S.set j []).flatten):=Nd.perm K U;have ah:Am E H S=mk E (AS (S.set j []).flatten H) seg:=by
  rw [show Am E H S=mk E H S.flatten from rfl,C3 K U];unfold mk;rw [Ds]
 have Z:=Cz.Fp (ae (AS (S.set j []).flatten H) (Nd.front W)) (by rintro v s' ⟨E',B',_,_,_,rfl⟩;rfl);rw [← ah] at Z;refine Z Q c cs ?_;rintro v au ⟨⟨E',B',hle,ai,aj,rfl⟩,w,ak⟩;have al:mk E' (AS (S.set j []).flatten H) B'=mk E' H (B'++(S.set j []).flatten):=by unfold mk;rw [Ds]
 have am:Nd E H (S.set j []).flatten:=by
  have:=W;rw [Nd.iff] at this ⊢;rw [List.map_append,List.nodup_append] at this;exact⟨this.1.2.1,fun q an=>this.2 q (List.mem_append_right _ an)⟩
 have ao:Nd E' H (S.set j []).flatten:=am.grow fun x ap=>by
  have aq:=ak.d x ap;have ar:AS B' (AS (S.set j []).flatten H) x=none:=aq;exact(Ep ar).1
 have aa:Nd E' H (B'++(S.set j []).flatten):=Nd.glue aj ao;rw [al];have ab:(B'++(S.set j []).flatten).Perm (S.set j B').flatten:=List.perm_append_comm.trans (CB O).2.symm;rw [C3 aa ab];exact ag v E' B' hle ai (Nd.perm aa ab)
theorem NR{e p d l:Seg}:([e,p]++ [d]++ [l]:List Seg).flatten.Perm ([e++(l++p),d]:List Seg).flatten:=by
 simp only [List.cons_append,List.nil_append,List.flatten_cons,List.flatten_nil,List.append_nil,List.append_assoc];refine List.Perm.append_left e ?_;rw [← List.append_assoc];exact List.perm_append_comm
end
section
variable {P:Program}{J:Judge P}{Q:Goroutine→St→Prop}{b:Frame}{n:Nat}{L:Env}{ds:List Deferred}{k:List Item}{cs:List Frame}{E H:LH}{S:List Seg}{ops:Array Oper}{i:Nat}{rest:List Nat}{d:Option Tmp}{t ty e:TypeId}{p:String}{af:Array Edge}{g:Option (Nat×Bool)}
theorem JS.makeChan{dir:ChanDir}{K:Nat}(O:ops[i]? =some ⟨d,.makeChan t (.const (.int .i64 0)),ty,p,af,g⟩)(hw:AU L ops ⟨d,.makeChan t (.const (.int .i64 0)),ty,p,af,g⟩=some true)(U:BR b n ⟨d,.makeChan t (.const (.int .i64 0)),ty,p,af,g⟩=true)
  (ht:P.underlying t=some (.chan dir e)) (hb:Dc P e=some K) (W:Ax E H S)
  (h:∀r,Ax E H (S++ [[(r,.chan 0 #[] false 0 0 false)]])→JL J Q b n (AE L d (.chan (some r))) ds (.inRegion ops rest::k) cs (Am E H (S++ [[(r,.chan 0 #[] false 0 0 false)]]))):
  JL J Q b n L ds (.inRegion ops (i::rest)::k) cs (Am E H S):=
 JL.op O hw U fun ρ Z=>by
  show lp P (do pure (Next.value (← Instr.makeChan t (ρ (.const (.int .i64 0)))))) _ _ _
  rw [Z _ _ rfl]
  obtain⟨inf,hi,aj⟩:=It hb
  refine AD _ _ ?_
  unfold Instr.makeChan
  simp only [asInt,bind,Sem.bind,pure]
  refine AD (x:=underlying t) _ (Ck ht ?_)
  simp only
  refine AD (x:=typeInfo e) _ (FQ hi ?_)
  have aa:¬((0:Int)<0∨(0:Int)>IntKind.i64.max∨(inf.bytes:Int)*0>2 ^ 48 - 112):=by
   simp [IntKind.max,IntKind.signed,IntKind.bits]
  rw [if_neg aa];simp only [newObj,Sem.bind,lp];refine⟨rfl,fun r ab ae=>?_⟩;obtain⟨ag,ah⟩:=GK ab ae (.chan 0 #[] false 0 0 false) W;obtain⟨p1,p2⟩:=Db ag;have ai:(Am E H S).upd r (.chan 0 #[] false 0 0 false)=Am E H (S++ [[(r,.chan 0 #[] false 0 0 false)]]):=by rw [← p1,← ah];rfl
  show JL J Q b n (AE L d (.chan (some r))) ds (.inRegion ops rest::k) cs ((Am E H S).upd r (.chan 0 #[] false 0 0 false));rw [ai];exact h r p2
end
theorem O0{E H:LH}{a b:Nat}{K O:Obj}(Z:Ax E H [[(a,K)],[(b,O)]]):(⟨E,FX (Am E H [[(a,K)],[(b,O)]]).H b a,false⟩:St)=Am E H []:=by
 have h:=Nd.iff.1 Z;have aa:H a=none:=(h.2 (a,K) (by simp)).2;have ab:H b=none:=(h.2 (b,O) (by simp)).2;unfold Am mk;congr 1;funext x;simp only [FX,Am,mk,List.flatten_cons,List.flatten_nil,List.append_nil,List.cons_append,List.nil_append,AS];by_cases U:x=a
 ·subst U;simp [aa]
 ·by_cases W:x=b
  ·subst W;simp [U,ab]
  ·simp [U,W]
theorem Ax.up{E E' H:LH}{S:List Seg}(U:Ax E H S)(h:∀x,E' x≠none→(Am E H S).H x=none):Ax E' H S:=by
 have K:=Nd.iff.1 U;refine Nd.iff.2 ⟨K.1,fun q O=>⟨?_,(K.2 q O).2⟩⟩;cases W:E' q.1 with
 | none=>rfl
 | some o=>
  have Z:=h q.1 (by rw [W];simp);have aa:AS S.flatten H q.1=none:=Z;exact absurd rfl ((Ep aa).2 q O)
end Pal
namespace Pal
open Go Go.Conc
theorem JS.merge{P:Program}{J:Judge P}{Q:Goroutine→St→Prop}{b:Frame}{n:Nat}{L:Env}{ds:List Deferred}{cs:List Frame}{E H:LH}{S:List Seg}{todo:List Item}{A B:Seg}(j K:Nat)(O:S[j]? =some A)(Z:(S.set j [])[K]? =some B)(aa:Ax E H S)
  (h:Ax E H (((S.set j []).set K []).set j (A++B))→JL J Q b n L ds todo cs (Am E H (((S.set j []).set K []).set j (A++B)))):JL J Q b n L ds todo cs (Am E H S):=by
 refine JS.perm ?_ aa h;have U:j<S.length:=(List.getElem?_eq_some_iff.1 O).1;have ab:=(CB (seg':=A) O).1;have ae:=(CB (seg':=B) Z).1;have ag:((S.set j []).set K [])[j]? =some []:=by
  by_cases e:K=j
  ·subst e;rw [List.getElem?_set_self (by simpa using U)]
  ·rw [List.getElem?_set_ne e,List.getElem?_set_self U]
 have W:=(CB (seg':=A++B) ag).2;have ah:(((S.set j []).set K []).set j [])=(S.set j []).set K []:=by
  by_cases e:K=j
  ·subst e;simp
  ·rw [List.set_comm _ _ e];simp
 rw [ah] at W;refine ab.trans (List.Perm.trans ?_ W.symm);refine(List.Perm.append_right A ae).trans ?_;rw [List.append_assoc];exact List.Perm.append_left _ List.perm_append_comm
end Pal
