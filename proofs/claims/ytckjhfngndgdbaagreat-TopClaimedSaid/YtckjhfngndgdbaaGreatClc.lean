/- TopClaimed: the claims of a book as words of vouchers: a part (3 of 8) of the proof of its row. -/
import Derived.Test.YtckjhfngndgdbaaGreatCla
import Derived.Test.YtckjhfngndgdbaaGreatClb
import Derived.Test.YtckjhfngndgdbaaGreatRows
import Derived.Test.YtckjhfngndgdbaaGreatChecked
import Derived.Conc.LeavingOf
import Derived.Conc.HoldsTime
import Derived.Carry
import Derived.ChangeSame
import Derived.ChangeVars
import Derived.ChangeSlices
import Derived.JoinedOf
import Derived.RowKit
import Derived.Deep.Strs
import Derived.Stop.Joined
import Derived.Test.YtckjhfngndgdbaaGreatProg
import Derived.ProofKit
set_option linter.all false
set_option maxRecDepth 100000
namespace Pal
open Go Go.Conc Go.Proofs Go.ChangeShapes Go.WideShapes Go.ChangeAt Go.RowKit
open Go.Proofs.YtckjhfngndgdbaaGreat
theorem Tryz.own:ownKnob Tryz.prog.godebug=none:=by kernel_rfl
theorem Tryz.laidOut:laidOutB Tryz.prog=true:=by kernel_rfl
theorem Tryz.V6:Tryz.prog.cellsOf 3=1:=by kernel_rfl
variable{v:Value}
theorem RE{R:Value->St->Prop}{W w':World}(h:After Tryz.prog R W (Fw W) v w'):(∃s,R v s)/\Below W.heap.size W {w' with os:=W.os}/\Go.ConcM.OsLater W.os w'.os:=by
 obtain⟨s,U,V,Y,Z,aa,ab⟩:=h;have hb:∀k,k<W.heap.size->w'.heap[k]?=W.heap[k]? :=λk K=>by
  have h1:(Fw W).E k=some W.heap[k]:=kS K;have O:=V.e k _ (Y k _ h1);rw[O,kS K]
 refine⟨⟨s,U⟩,⟨rfl,Z,ab,?_,hb⟩,aa⟩;show W.heap.size<=w'.heap.size;rcases k4 W.heap.size with h0 | h0;omega;have h1:=hb (W.heap.size - 1) (by omega);have ac:W.heap[W.heap.size - 1]?=some W.heap[W.heap.size - 1]:=kS (by omega);rw[ac] at h1;have O:=(f4.1 h1).1;omega
theorem Pg(a:Addr):a.add 0=a:=by unfold Addr.add;rw[d5 rfl]
variable {H:Type}{enc:TypeId×Value->H}{W:World}{cs:Lv_}
variable{b off:Nat}
section
variable {fuel:Nat}{x:DataW H×List MemPlace}
theorem TF(h:W.cell? ⟨b,off,none⟩=some v):At (Fw W).E b off [v]:=by
 unfold World.cell? at h;split at h
 .rename_i c e f hW;simp only[Option.isSome_none,kV,lE] at h;refine⟨c,e,f,hW,λj w K=>?_⟩
  match j,K with
  | 0,K=>simp at K;subst K;simpa using h
  | j+1,K=>simp at K
 .cases h
theorem SD(h0:0<cs.length)(h:∀j,j<cs.length->W.cell? ⟨b,off+j,none⟩=cs[j]?):At (Fw W).E b off cs:=by
 have h1:=h 0 h0;rw[f9 h0] at h1;let⟨f,e,fr,O,_⟩:=TF h1;have hW:W.heap[b]?=some (.cells f e fr):=O;refine⟨f,e,fr,O,λj w U=>?_⟩;have V:=(d8.1 U).1;have K:=h j V;rw[U] at K;unfold World.cell? at K;simp only[hW] at K;simpa using K
theorem WK{α:Type}{p:Rp α}{t e:TypeId}(ak:Tryz.prog.underlying t=some (.slice e))(al:Tryz.prog.cellsOf e=p.n)(am:0<p.n)
  (an:∀n cs x,DataW.trod enc Tryz.prog W 0 (λ_=>true) true n e cs=some x->∃v,p.r (Fw W).E cs v)
  (ao:DataW.trod enc Tryz.prog W 0 (λ_=>true) true fuel t cs=some x):∃(a:Option Addr) (c:Nat) (ae:List α),cs=[.slice a ae.length c]/\AK p (Fw W).E a c ae:=by
 rcases DataW.trod_slice ak ao with⟨Y,ap⟩ | ⟨a,len,cap,elems,rest,n,_,Y,ap,_,aq,_,hlen,ag,ah,_⟩;exact⟨none,0,[],Y,AK.nil⟩
 .rw [al] at ag ah;rcases k4 cap with h0 | h0
  .have:len=0:=by omega
   subst this;subst h0;exact⟨some a,0,[],Y,kG _,.inl ⟨rfl,λ_ _=>.inr rfl⟩⟩
  .have ai:∀i,i<len->∃vs y,vs.length=p.n/\(∀j,j<p.n->W.cell? ((a.add (i*p.n)).add j)=vs[j]?)/\DataW.trod enc Tryz.prog W 0 (λ_=>true) true n e vs=some y:=λi hi=>by
    have h1:=ag i hi;rw[f9 (by omega)] at h1;let⟨vs,aa,U⟩:=me.1 h1;let⟨_,K,ab⟩:=World.cells?_some aa;exact⟨vs,_,K,ab,U⟩
   have ac:a.spot=none:=by
    have key:∀vs:Lv_,vs.length=p.n->(∀j,j<p.n->W.cell? ((a.add (0*p.n)).add j)=vs[j]?)->a.spot=none:=λvs Z O=>by
     have:=O 0 am;rw[f9 (by omega),Pg,mq,Pg] at this;exact World.cell?_spot this
    rcases k4 len with h1 | h1;let⟨aa,U⟩:=ah rfl;have K:=U 0 (by omega);rw[f9 (by omega)] at K;let⟨vs,ab,_⟩:=me.1 K;let⟨_,Z,O⟩:=World.cells?_some ab;rw[h1] at O;exact key vs Z O;let⟨vs,y,Z,O,_⟩:=ai 0 h1;exact key vs Z O
   have aj:∀i:Fin len,∃z:α,∃vs,p.r (Fw W).E vs z/\At (Fw W).E a.block (a.off+i*p.n) vs:=λi=>by
    let⟨vs,y,aa,U,K⟩:=ai i i.2;obtain⟨z,V⟩:=an _ _ _ K;refine⟨z,vs,V,SD (by omega) λj ar=>?_⟩;have:=U j (by omega);rw[DK ac,DK rfl] at this;exact this
   refine⟨some a,cap,List.ofFn λi=>Classical.choose (aj i),by simpa using Y,by simpa using aq,.inr ⟨a.block,a.off,?_,λi z V=>?_⟩⟩;obtain⟨b,o,s⟩:=a;simp only at ac;subst ac;rfl
   .have hi:i<len:=by have:=(d8.1 V).1;simpa using this
    simp[hi] at V;have:=lq (aj ⟨i,hi⟩);rw[V] at this;exact this
theorem Ur(h:DataW.trod enc Tryz.prog W 0 (λ_=>true) true fuel 3 cs=some x):∃z:Int,cs=[iV z]:=by
 let⟨n1,K,_⟩:=DataW.trod_int Tryz.underlying3 h;exact⟨n1,K⟩
theorem Tk(O:DataW.trod enc Tryz.prog W 0 (λ_=>true) true fuel 22 cs=some x):∃(a:Option Addr) (c:Nat) (K:List Int),cs=[.slice a K.length c]/\AK rI (Fw W).E a c K:=
 WK (p:=rI) Tryz.underlying22 Tryz.V6 Nat.one_pos (λn cs x h=>by
  obtain⟨z,rfl⟩:=Ur h
  exact⟨z,rfl⟩) O
theorem Tm{b0:Nat}{d:DataW H}{p:List MemPlace}(O:Value.okWide Tryz.prog W .any b0 22 v)(hd:DataW.Trod enc Tryz.prog W 0 (λ_=>true) true 22 v d p):
  ∃(a:Option Addr) (c:Nat) (K:List Int),v=.slice a K.length c/\AK rI (Fw W).E a c K:=by
 obtain⟨a0,len,cap,rfl⟩:=okWide_slice Tryz.underlying22 O;obtain⟨fuel,U⟩:=hd;let⟨a,c,K,e,g⟩:=Tk U;simp[Value.cells] at e;obtain⟨rfl,rfl,rfl⟩:=e;exact⟨_,_,_,V,g⟩
end
end Pal
namespace Pal
open Go Go.Conc
def HF(K:Bool)(ws:Lv_):Value:=if K then .agg ws.toArray else ws.headD undef
def Vr{α:Type}(pp:Rp α)(K:Bool)(E:LH)(v:Value)(x:α):Prop:=∃ws,pp.r E ws x/\v=HF K ws
variable{K:Bool}
theorem Vr.Ag{α:Type}{pp:Rp α}{E E':LH}{v:Value}{x:α}(h:Vr pp K E v x)(hle:Le E E'):Vr pp K E' v x:=
 let ⟨ws,h1,O⟩:=h;⟨ws,pp.Ag hle h1,O⟩
structure HE (P:Program) (t:TypeId) {κ:Type} [DecidableEq κ] (pk:Rp κ) (ka:Bool):Prop where
 Bt:∀{em:Bool}{E:LH}{v:Value}{x:κ}{s:St}{Q:Unit->St->Prop}{X:Halt->St->Prop},Vr pk ka E v x->Q () s->lp P (Instr.checkKey em 10000 t v) s Q X
 kind:∃kd,P.underlying t=some kd/\((∀v w,Instr.sameNow kd v w=none)∨∀{E:LH}{v w:Value}{x y:κ},Vr pk ka E v x->Vr pk ka E w y->Instr.sameNow kd v w=some (decide (x=y)))
 eq:∀{E:LH}{v w:Value}{x y:κ}{s:St}{Q:Bool->St->Prop}{X:Halt->St->Prop},Vr pk ka E v x->Vr pk ka E w y->Q (decide (x=y)) s->lp P (Op.equal t v w) s Q X
 same:∀{E:LH}{v:Value}{x:κ},Vr pk ka E v x->Instr.sameBits 10000 v v=true
 uniq:∀{E:LH}{v w:Value}{x:κ},Vr pk ka E v x->Vr pk ka E w x->v=w
variable {κ ν:Type}{pk:Rp κ}{pv:Rp ν}{ka va:Bool}{E E':LH}
variable {P:Program}{s:St}{t tm te:TypeId}{X:Halt->St->Prop}
variable{c2:Nat}
section
variable [DecidableEq κ]
def CI(pk:Rp κ)(ka:Bool)(pv:Rp ν)(va:Bool)(E:LH):List MapEntry->List (κ×ν)->Prop
 | [],[]=>True
 | e::es,x::xs=>Vr pk ka E e.key x.1/\Vr pv va E e.val x.2/\CI pk ka pv va E es xs
 | _,_=>False
theorem CI.Ag(hle:Le E E'):∀{es:List MapEntry}{xs:List (κ×ν)},CI pk ka pv va E es xs->CI pk ka pv va E' es xs
 | [],[],_=>trivial
 | e::es,x::xs,h=>⟨h.1.Ag hle,h.2.1.Ag hle,CI.Ag hle h.2.2⟩
 | [],_::_,h=>h.elim
 | _::_,[],h=>h.elim
theorem CI.len:∀{es:List MapEntry}{xs:List (κ×ν)},CI pk ka pv va E es xs->es.length=xs.length
 | [],[],_=>rfl
 | e::es,x::xs,h=>by simp[CI.len h.2.2]
 | [],_::_,h=>h.elim
 | _::_,[],h=>h.elim
def Fv(x:κ):List MapEntry->List (κ×ν)->Nat->Option (Nat×Value)
 | e::es,y::ys,i=>if x=y.1 then some (i,e.val) else Fv x es ys (i+1)
 | _,_,_=>none
def Ej(xs:List (κ×ν))(x:κ)(v:ν):List (κ×ν):=match xs with
 | []=>[(x,v)]
 | y::ys=>if x=y.1 then(x,v)::ys else y::Ej ys x v
theorem CI.put{x:κ}{v0:ν}{O w:Value}(U:Vr pk ka E O x)(hw:Vr pv va E w v0)(V:Nat):∀{es:List MapEntry}{xs:List (κ×ν)}{i:Nat},CI pk ka pv va E es xs->
  (Fv x es xs i=none/\CI pk ka pv va E (es++ [{key:=O,val:=w,born:=V}]) (Ej xs x v0))∨
  ∃j u,Fv x es xs i=some (i+j,u)/\j<es.length/\(∀e,es[j]?=some e->Vr pk ka E e.key x)/\CI pk ka pv va E (es.modify j λe=>{e with key:=O,val:=w}) (Ej xs x v0)
 | [],[],i,_=>.inl ⟨rfl,U,hw,trivial⟩
 | e::es,y::ys,i,h=>by
  unfold Fv Ej
  by_cases K:x=y.1;refine .inr ⟨0,e.val,by rw[d5 K];rfl,by simp,λY he=>?_,?_⟩;simp at he;subst he;rw[K];exact h.1;rw[d5 K];exact⟨U,hw,h.2.2⟩;rcases CI.put U hw V (i:=i+1) h.2.2 with⟨h1,Z⟩ | ⟨j,u,h1,Z,aa,ab⟩;exact .inl ⟨by rw[d7 K];exact h1,by rw[d7 K];exact⟨h.1,h.2.1,Z⟩⟩;refine .inr ⟨j+1,u,by rw[d7 K,h1];congr 2;omega,by simp;omega,λY he=>aa Y (by simpa using he),?_⟩;rw[d7 K];exact⟨h.1,h.2.1,ab⟩
 | [],_::_,_,h=>h.elim
 | _::_,[],_,h=>h.elim
def JE(pk:Rp κ)(ka:Bool)(pv:Rp ν)(va:Bool)(E:LH)(o:Obj)(xs:List (κ×ν)):Prop:=
 ∃es clock,o=.map es clock/\CI pk ka pv va E es.toList xs/\(es.toList.map (·.born)).Pairwise (·<·)/\∀e∈es.toList,e.born<clock
theorem JE.Ag{o:Obj}{xs:List (κ×ν)}(h:JE pk ka pv va E o xs)(hle:Le E E'):JE pk ka pv va E' o xs:=
 let ⟨es,c,h1,K,O⟩:=h;⟨es,c,h1,K.Ag hle,O⟩
theorem OE(U:HE P t pk ka){k:Value}{x:κ}(V:Vr pk ka E k x){Q:Option (Nat×Value)->St->Prop}:∀{es:List MapEntry}{xs:List (κ×ν)}{i:Nat},CI pk ka pv va E es xs->Q (Fv x es xs i) s->lp P (Instr.findAsking t k es i) s Q X
 | [],[],i,_,h=>h
 | e::es,y::ys,i,h,K=>by
  unfold Instr.findAsking
  refine AG _ _ (U.eq V h.1 ?_)
  unfold Fv at K
  by_cases O:x=y.1
  .rw [k8 O]
   rw[d5 O] at K;exact K
  .rw [kZ O];rw[d7 O] at K;exact OE U V h.2.2 K
 | [],_::_,_,h,_=>h.elim
 | _::_,[],_,h,_=>h.elim
theorem OS{kd:TypeDesc}{k:Value}{x:κ}(O:Vr pk ka E k x)(U:∀{E:LH}{v w:Value}{x y:κ},Vr pk ka E v x->Vr pk ka E w y->Instr.sameNow kd v w=some (decide (x=y))):∀{es:List MapEntry}{xs:List (κ×ν)}{i:Nat},CI pk ka pv va E es xs->Instr.findNow kd k es i=some (Fv x es xs i)
 | [],[],i,_=>rfl
 | e::es,y::ys,i,h=>by
  unfold Instr.findNow Fv
  rw[U O h.1]
  by_cases K:x=y.1;simp[K];simp only[kZ K,d7 K];exact OS O U h.2.2
 | [],_::_,_,h=>h.elim
 | _::_,[],_,h=>h.elim
theorem OZ(O:HE P t pk ka){k:Value}{x:κ}(U:Vr pk ka E k x){Q:Option (Nat×Value)->St->Prop}{es:List MapEntry}{xs:List (κ×ν)}(h:CI pk ka pv va E es xs)(K:Q (Fv x es xs 0) s):lp P (Instr.findKey t k es) s Q X:=by
 unfold Instr.findKey;obtain⟨kd,V,Y | Z⟩:=O.kind
 .refine AG _ _ (CE V ?_);cases es with
  | nil=>
   cases xs with
   | nil=>exact K
   | cons y ys=>exact h.elim
  | cons e es=>
   have aa:Instr.findNow kd k (e::es) 0=none:=by unfold Instr.findNow;rw[Y]
   rw[aa];exact OE O U h K
 .refine AG _ _ (CE V ?_);rw[OS U Z h];exact K
theorem Rq(O:HE P t pk ka)(hm:P.underlying tm=some (.map t te)){o:Obj}{xs:List (κ×ν)}{k w:Value}{x:κ}{v0:ν}(ab:s.get c2=some o)(Y:s.H c2=some o)(ac:JE pk ka pv va E o xs)(K:Vr pk ka E k x)(hw:Vr pv va E w v0){Q:Unit->St->Prop}
  (h:∀o',JE pk ka pv va E o' (Ej xs x v0)->Q () (s.upd c2 o')):lp P (Instr.mapUpdate tm (.map (some c2)) k w) s Q X:=by
 obtain⟨es,c,rfl,h1,Z,U⟩:=ac;unfold Instr.mapUpdate;refine AG _ _ (CE hm ?_);unfold getObj;simp only[bind,Sem.bind,lp];refine⟨_,ab,rfl,?_⟩;refine AG (x:=Instr.checkKey false 10000 t k) _ (O.Bt K ?_);refine AG (x:=Instr.findKey t k es.toList) _ (OZ O K h1 ?_);rcases CI.put K hw c (i:=0) h1 with⟨V,e2⟩ | ⟨j,u,V,e2,ae,ag⟩;rw[V];simp only[setObj,lp];refine⟨⟨_,Y,rfl⟩,rfl,h _ ⟨es.push {key:=k,val:=w,born:=c},c+1,rfl,by simpa using e2,?_,?_⟩⟩;rw[Array.toList_push,k7,List.pairwise_append];refine⟨Z,by simp,λa ah b hb=>?_⟩;simp at hb;subst hb;obtain⟨e,he,rfl⟩:=k3.1 ah;exact U e he;intro e he;rw[Array.toList_push] at he;rcases kM.1 he with he | he;have:=U e he;omega;simp at he;subst he;simp
 .rw [V];have aa:es[j]?=some (es[j]'(by simpa using e2)):=kS (by simpa using e2);have ai:(es[j]'(by simpa using e2)).key=k:=O.uniq (ae _ (by rw[lC];exact aa)) K;simp only[l1,aa,mh,Option.getD_some,ai];refine AG (x:=Instr.keyThatStays k k) _ ?_;unfold Instr.keyThatStays;rw[d5 (O.same K)];simp only[lp,pure,setObj];refine⟨⟨_,Y,rfl⟩,rfl,h _ ⟨_,c,rfl,by simpa using ag,?_,?_⟩⟩
  .have:(es.modify j λe=>{e with key:=k,val:=w}).toList.map (·.born)=es.toList.map (·.born):=by
    rw[Array.toList_modify];apply lQ;intro q;simp only[lI,List.getElem?_modify];split<;>cases es.toList[q]?<;>rfl
   rw[this];exact Z
  .intro e he;rw[Array.toList_modify] at he;obtain⟨q,aj,rfl⟩:=ng.1 he;rw[List.getElem_modify];have ak:q<es.toList.length:=by simpa using aj
   split;show(es.toList[q]'ak).born<c;exact U _ (kX _);exact U _ (kX _)
end
variable{l us:Lv_}
theorem Qk{r:Lv_}:∀j w,us[j]?=some w->(l++us++r).toArray[l.length+j]?=some w:=λj w h=>by
 have K:j<us.length:=(d8.1 h).1
 rw[lM,lA,kI (by omega),show l.length+j - l.length=j by omega,kN K]
 exact h
variable{O:Bool}
section
variable {e:TypeId}
theorem NC{c:Av_}{off:Nat}(V:DZ P e=some O)(Y:Bo P e=some us.length)(h1:O=false->us.length=1)(hw:∀j w,us[j]?=some w->c[off+j]?=some w)
  {Q:Value->St->Prop}(k:Q (HF O us) s):lp P (Go.part e c off) s Q X:=by
 unfold Go.part;refine AG (x:=isAgg e) _ (LW V ?_);cases O with
 | true=>
  simp only[lL];refine AG (x:=Go.sizeOf e) _ (EH Y ?_);have Z:c.extract off (off+us.length)=us.toArray:=by
   apply lf;intro j;by_cases U:j<us.length;have K:=hw j us[j] (f9 U);have aa:off+j<c.size:=(f4.1 K).1;simp only[mI];rw[d5 (by omega),K];simp[U];simp only[mI];rw[d7 (by omega)];simp;omega
  show Q (.agg (c.extract off (off+us.length))) s;rw[Z];exact k
 | false=>
  obtain⟨w,rfl⟩:∃w,us=[w]:=by
   match us,h1 rfl with
   | [w],_=>exact⟨w,rfl⟩
  have K:=hw 0 w rfl;rw[k6] at K;simp only[kV,lE,K];exact k
end
structure D7 (P:Program) (t:TypeId) {α:Type} [DecidableEq α] (pp:Rp α) (K:Bool) (dep:Nat):Prop where
 agg:DZ P t=some K
 size:Bo P t=some pp.n
 one:K=false->pp.n=1
 eq:∀{n:Nat}{E E':LH}{ws ws':Lv_}{x y:α}{s:St}{Q:Bool->St->Prop}{X:Halt->St->Prop},dep<=n->pp.r E ws x->pp.r E' ws' y->Q (decide (x=y)) s->lp P (Op.equalIn n t (HF K ws) (HF K ws')) s Q X
 Bt:∀{n:Nat}{em:Bool}{E:LH}{ws:Lv_}{x:α}{s:St}{Q:Unit->St->Prop}{X:Halt->St->Prop},dep<=n->pp.r E ws x->Q () s->lp P (Instr.checkKey em n t (HF K ws)) s Q X
 uniq:∀{E E':LH}{ws ws':Lv_}{x:α},pp.r E ws x->pp.r E' ws' x->ws=ws'
 same:∀{E:LH}{ws:Lv_}{x:α},pp.r E ws x->∀w∈ws,∀m,Instr.sameBits (m+1) w w=true
 now:∃kd,P.underlying t=some kd/\((∀v w,Instr.sameNow kd v w=none)∨∀{E E':LH}{ws ws':Lv_}{x y:α},pp.r E ws x->pp.r E' ws' y->Instr.sameNow kd (HF K ws) (HF K ws')=some (decide (x=y)))
variable {ρ:Operand->Value}{d:Option Tmp}{u ty:TypeId}{p:String}{af:Ae_}{g:On_}{ws ws':Lv_}
variable{dep:Nat}{cx:Av_}{β:Type}
section
variable {e:TypeId}
theorem D7.nat{kd:IntKind}(O:P.underlying t=some (.int kd))(V:Bo P t=some 1):D7 P t (rN kd) false 1 where
 agg:=by unfold DZ;rw[O]
 size:=V
 one _:=rfl
 eq {n E E' ws ws' x y s Q X} Y h1 K k:=by
  obtain⟨m,rfl⟩:∃m,n=m+1:=⟨n - 1,by omega⟩;have h1:ws=[.int kd ((x:Nat):Int)]:=h1;have K:ws'=[.int kd ((y:Nat):Int)]:=K;subst h1 K;refine Wx O ?_;have e:((x:Int)==(y:Int))=decide (x=y):=by
   by_cases h:x=y;simp[h]
   .have U:¬(x:Int)=(y:Int):=by omega
    simp[h,U]
  rw[e];exact k
 Bt {n em E ws x s Q X} Y h1 k:=by
  obtain⟨m,rfl⟩:∃m,n=m+1:=⟨n - 1,by omega⟩;have h1:ws=[.int kd ((x:Nat):Int)]:=h1;subst h1;unfold Instr.checkKey;refine AG _ _ (CE O ?_);exact k
 uniq h1 K:=by
  have h1:_=[Value.int kd _]:=h1;have K:_=[Value.int kd _]:=K;rw[h1,K]
 same {E ws x} h w hw m:=by
  have h:ws=[Value.int kd ((x:Nat):Int)]:=h;subst h;simp at hw;subst hw;simp[Instr.sameBits]
 now:=⟨_,O,.inr λ{E E' ws ws' x y} h1 K=>by
  have h1:ws=[.int kd ((x:Nat):Int)]:=h1
  have K:ws'=[.int kd ((y:Nat):Int)]:=K
  subst h1 K
  have e:((x:Int)==(y:Int))=decide (x=y):=by
   by_cases h:x=y;simp[h]
   .have U:¬(x:Int)=(y:Int):=by omega
    simp[h,U]
  show(if kd=kd then some ((x:Int)==(y:Int)) else none)=_
  rw[d5 rfl,e]⟩
theorem D7.up{α:Type} [DecidableEq α] {pp:Rp α}{U:Nat}(h:D7 P t pp O dep)(hd:dep<=U):D7 P t pp O U:=
 ⟨h.agg,h.size,h.one,λK=>h.eq (lO hd K),λK=>h.Bt (lO hd K),h.uniq,h.same,h.now⟩
theorem D7.field{α:Type} [DecidableEq α] {pp:Rp α}{Z:Bool}{n:Nat}{f:Field}{s:St}{X:Halt->St->Prop}(h:D7 P f.type pp Z dep)(hd:dep<=n)(aa:f.name≠ "_"){E E':LH}{V:Lv_}{x y:α}(r1:pp.r E us x)(r2:pp.r E' V y){Y:Av_}
  (w1:∀j w,us[j]?=some w->cx[f.offset+j]?=some w) (w2:∀j w,V[j]?=some w->Y[f.offset+j]?=some w) {K:ForInStep (Option Bool×Unit)->St->Prop}(O:K (if x=y then .yield (none,()) else .done (some false,())) s):
  lp P (if f.name≠ "_" then do
   if !(← Op.equalIn n f.type (← Go.part f.type cx f.offset) (← Go.part f.type Y f.offset)) then pure (ForInStep.done (some false,())) else pure (ForInStep.yield (none,()))
   else pure (ForInStep.yield (none,()))) s K X:=by
 rw[d5 aa]
 refine AG _ _ (NC h.agg (by rw[pp.len r1];exact h.size) (λq=>by rw[pp.len r1];exact h.one q) w1 ?_)
 refine AG _ _ (NC h.agg (by rw[pp.len r2];exact h.size) (λq=>by rw[pp.len r2];exact h.one q) w2 ?_)
 refine AG _ _ (h.eq hd r1 r2 ?_)
 by_cases U:x=y;rw[d5 U] at O;simpa [lp,pure,U] using O;rw[d7 U] at O;simpa [lp,pure,U] using O
theorem D7.Qx{α:Type} [DecidableEq α] {pp:Rp α}{em:Bool}{n:Nat}{f:Field}{s:St}{X:Halt->St->Prop}(h:D7 P f.type pp O dep)(hd:dep<=n)(U:f.name≠ "_"){E:LH}{x:α}(r1:pp.r E us x)
  (w1:∀j w,us[j]?=some w->cx[f.offset+j]?=some w) {K:ForInStep Unit->St->Prop}(V:K (.yield ()) s):
  lp P (if f.name≠ "_" then do
   Instr.checkKey em n f.type (← Go.part f.type cx f.offset)
   pure (ForInStep.yield ())
   else pure (ForInStep.yield ())) s K X:=by
 rw[d5 U]
 refine AG _ _ (NC h.agg (by rw[pp.len r1];exact h.size) (λq=>by rw[pp.len r1];exact h.one q) w1 ?_)
 refine AG _ _ (h.Bt hd r1 ?_)
 exact V
theorem Ok{r:Lv_}{o:Nat}(K:o=0):∀j w,us[j]?=some w->(us++r).toArray[o+j]?=some w:=λj w h=>by subst K;exact Qk (l:=[]) j w h
theorem Xb{r:Lv_}{o:Nat}(K:o=l.length):∀j w,us[j]?=some w->(l++(us++r)).toArray[o+j]?=some w:=λj w h=>by
 subst K
 have:=Qk (l:=l) (r:=r) j w h
 rwa[lA] at this
theorem Of{o:Nat}(K:o=l.length):∀j w,us[j]?=some w->(l++us).toArray[o+j]?=some w:=λj w h=>by
 have:=Xb (r:=[]) K j w h
 rwa[k2] at this
theorem D7.two{α:Type} [DecidableEq α] [DecidableEq β] {p1:Rp α}{p2:Rp β}{a1 ah:Bool}{f1 f2:Field}(K:P.underlying t=some (.struct #[f1,f2]))(h1:D7 P f1.type p1 a1 dep)(O:D7 P f2.type p2 ah dep)(ai:P.stoodInHeld t=false)
  (n1:f1.name≠ "_") (ag:f2.name≠ "_") (Y:f1.offset=0) (Z:f2.offset=p1.n) (aj:Bo P t=some (p1.n+p2.n)):D7 P t (rP p1 p2) true (dep+1) where
 agg:=by unfold DZ;rw[K]
 size:=aj
 one:=λh=>by cases h
 eq {n E E' ws ws' x y s Q X} ak aa al k:=by
  obtain⟨n,rfl⟩:∃m,n=m+1:=⟨n - 1,by omega⟩;obtain⟨ab,ac,rfl,r1,r2⟩:=aa;obtain⟨v1,v2,rfl,U,ae⟩:=al;simp only[HF,lL];unfold Op.equalIn;refine AG _ _ (CE K ?_);refine AG (x:=program) _ ?_;show lp P (if P.stoodInHeld t=true then _ else _) s _ _
  rw[d7 (by rw[ai];exact f8)]
  dsimp only;rw[← Array.forIn_toList];simp only[List.forIn_cons,List.forIn_nil];refine AG _ _ (AG _ _ (h1.field (by omega) n1 r1 U (Ok Y) (Ok Y) ?_));by_cases V:x.1=y.1;rw[d5 V];refine AG _ _ (O.field (by omega) ag r2 ae (Of (Z.trans (p1.len r1).symm)) (Of (Z.trans (p1.len U).symm)) ?_);by_cases e2:x.2=y.2;have e:x=y:=Prod.ext V e2;rw[d5 e2];simpa [lp,pure,e] using k;have e:¬x=y:=λq=>e2 (by rw[q]);rw[d7 e2];simpa [lp,pure,e] using k;have e:¬x=y:=λq=>V (by rw[q]);rw[d7 V];simpa [lp,pure,e] using k
 Bt {n em E ws x s Q X} ak aa k:=by
  obtain⟨n,rfl⟩:∃m,n=m+1:=⟨n - 1,by omega⟩;obtain⟨ab,ac,rfl,r1,r2⟩:=aa;simp only[HF,lL];unfold Instr.checkKey;refine AG _ _ (CE K ?_)
  dsimp only;rw[← Array.forIn_toList];simp only[List.forIn_cons,List.forIn_nil];refine AG _ _ (AG _ _ (h1.Qx (by omega) n1 r1 (Ok Y) ?_));refine AG _ _ (O.Qx (by omega) ag r2 (Of (Z.trans (p1.len r1).symm)) ?_);exact k
 uniq {E E' ws ws' x} a b:=by
  obtain⟨ab,ac,rfl,r1,r2⟩:=a;obtain⟨v1,v2,rfl,U,ae⟩:=b;rw[h1.uniq r1 U,O.uniq r2 ae]
 same {E ws x} a w hw m:=by
  obtain⟨ab,ac,rfl,r1,r2⟩:=a;rcases kM.1 hw with hw | hw;exact h1.same r1 w hw m;exact O.same r2 w hw m
 now:=⟨_,K,.inl λv w=>rfl⟩
theorem D7.key{α:Type} [DecidableEq α] {pp:Rp α}(h:D7 P t pp K dep)(hd:dep<=10000):HE P t pp K where
 Bt:=by
  rintro em E v x s Q X ⟨ws,U,rfl⟩ k;exact h.Bt hd U k
 kind:=by
  obtain⟨kd,h1,V⟩:=h.now;refine⟨kd,h1,V.imp id λY=>?_⟩;rintro E v w x y ⟨ws,r1,rfl⟩ ⟨ws',r2,rfl⟩;exact Y r1 r2
 eq:=by
  rintro E v w x y s Q X ⟨ws,r1,rfl⟩ ⟨ws',r2,rfl⟩ k;exact h.eq hd r1 r2 k
 same:=by
  rintro E v x ⟨ws,r1,rfl⟩;cases K with
  | false=>
   obtain⟨w,rfl⟩:∃w,ws=[w]:=by
    have:=(pp.len r1).trans (h.one rfl)
    match ws,this with
    | [w],_=>exact⟨w,rfl⟩
   exact h.same r1 w (by simp) 9999
  | true=>
   show(ws.toArray.size==ws.toArray.size&&(ws.toArray.toList.zip ws.toArray.toList).all λ(x,y)=>Instr.sameBits 9999 x y)=true;rw[f5];refine⟨by simp,kW.2 ?_⟩;rintro⟨a,b⟩ Z;have h1:∀(l:Lv_) a b,(a,b)∈l.zip l->a=b/\a∈l:=by
    intro l
    induction l with
    | nil=>intro a b h;simp at h
    | cons c l O=>
     intro a b h;simp only[mF,f7,d9] at h;rcases h with⟨rfl,rfl⟩ | h;exact⟨rfl,by simp⟩;exact⟨(O a b h).1,kO _ (O a b h).2⟩
   obtain⟨rfl,hm⟩:=h1 _ a b Z;exact h.same r1 a (by simpa using hm) 9998
 uniq:=by
  rintro E v w x ⟨ws,r1,rfl⟩ ⟨ws',r2,rfl⟩;rw[h.uniq r1 r2]
section
variable {x y:Operand}
end
end
theorem Rr{E H:LH}{B:List (Nat×Obj)}(i:Nat){o:Obj}(K:Nd E H B)(h:B[i]?=some (c2,o)):∃E',Le E E'/\E' c2=some o/\Nd E' H (B.eraseIdx i)/\BA (mk E H B) (mk E' H (B.eraseIdx i)):=by
 have ac:=kL h;have ae:E c2=none/\H c2=none:=by
  have:∀{B:List (Nat×Obj)},Nd E H B->(c2,o)∈B->E c2=none/\H c2=none:=by
   intro B K O
   induction B with
   | nil=>simp at O
   | cons q B V=>
    rcases f7.1 O with rfl | O;exact⟨K.1,K.2.1⟩;exact V K.2.2.2 O
  exact this K ac
 let E':LH:=λx=>if x=c2 then some o else E x
 have Z:E' c2=some o:=by simp[E']
 have hle:Le E E':=λx u U=>by
  have:x≠c2:=λe=>by subst e;rw[ae.1] at U;cases U
  simp[E',this,U]
 have ag:Nd E' H (B.eraseIdx i):=by
  have:∀{B:List (Nat×Obj)}{i:Nat},Nd E H B->B[i]?=some (c2,o)->Nd E' H (B.eraseIdx i)/\∀p∈B.eraseIdx i,p.1≠c2:=by
   intro B
   induction B with
   | nil=>intro i _ h;simp at h
   | cons q B V=>
    obtain⟨c,v⟩:=q;intro i K h;have up:∀{B:List (Nat×Obj)},Nd E H B->(∀p∈B,p.1≠c2)->Nd E' H B:=by
     intro B K aa
     induction B with
     | nil=>trivial
     | cons q B ah=>exact⟨by simpa [E',aa q (by simp)] using K.1,K.2.1,K.2.2.1,ah K.2.2.2 λp O=>aa p (kO _ O)⟩
    cases i with
    | zero=>
     simp at h;obtain⟨rfl,rfl⟩:=h;exact⟨up K.2.2.2 K.2.2.1,K.2.2.1⟩
    | succ i=>
     simp at h;let⟨h1,Y⟩:=V K.2.2.2 h;have ab:c≠c2:=λe=>K.2.2.1 (c2,o) (kL h) e.symm;refine⟨⟨by simpa [E',ab] using K.1,K.2.1,λp O=>K.2.2.1 p (m2 O),h1⟩,λp O=>?_⟩;rcases f7.1 O with rfl | O;exact ab;exact Y p O
  exact(this K h).1
 refine⟨E',hle,Z,ag,⟨λx u U=>hle x u U,λx u U=>(Kb K h U).2,λx u U=>?_,rfl⟩⟩;by_cases e:x=c2
 .subst e;right;have:u=o:=by have:E' x=some u:=U;rw[Z] at this;exact(d0 this).symm
  subst this;refine⟨Ho K h,?_⟩;cases ai:(mk E' H (B.eraseIdx i)).H x with
  | none=>rfl
  | some y=>exact absurd rfl (Kb K h ai).1
 .left;have h1:E' x=some u:=U;have Y:E' x=E x:=by simp[E',e]
  show E x=some u;rw[← Y];exact h1
theorem Rf{E H:LH}{B0:List (Nat×Obj)}{e:TypeId}{l c:Nat}{a:Option Addr}{blk:List (Nat×Obj)}{xs:Lv_}(aa:GS e c2 a l c blk xs)(U:Nd E H (B0++blk)):∃E',Le E E'/\MW E' c2 (.slice a l c) l xs/\Nd E' H B0/\BA (mk E H (B0++blk)) (mk E' H B0):=by
 rcases aa with⟨rfl,rfl,rfl,rfl,rfl⟩ | ⟨bk,f,rfl,rfl,ab,V,rfl⟩;simp only[k2] at U ⊢;exact⟨E,Le.refl _,.nil,U,.refl _⟩
 .have ac:(B0++ [(bk,Obj.cells f e (0,0))])[B0.length]?=some (bk,Obj.cells f e (0,0)):=by simp
  let⟨E',hle,ae,Y,Z⟩:=Rr B0.length U ac;have ag:(B0++ [(bk,Obj.cells f e (0,0))]).eraseIdx B0.length=B0:=by rw[mc (kG _)];simp
  rw[ag] at Y Z;refine⟨E',hle,⟨_,c,rfl,V,?_,.inr ⟨bk,0,f,e,(0,0),rfl,ae,λj w O=>?_⟩⟩,Y,Z⟩;have:l*c2<=c*c2:=la _ V;simp[ab,l7 this];rw[lU] at O;split at O;simpa using O;cases O
variable{seg:Seg}
theorem Ri{α:Type}{pp:Rp α}{E H:LH}{S:List Seg}{e:TypeId}{a:Option Addr}{c:Nat}{xs:List α}(j:Nat)(O:OL e pp E a c seg xs)(ae:Ak E H S)(ag:S[j]?=some seg):∃E',Le E E'/\AK pp E' a c xs/\Ak E' H (S.set j [])/\BA (Ae E H S) (Ae E' H (S.set j [])):=by
 obtain⟨Y,O,Z,aa⟩:=O;have ah:∀ad:Addr,a=some ad->ad.spot=none:=λad K=>by
  rcases O with⟨h1,_⟩ | ⟨bk,f,h1,_⟩;rw[h1] at K;cases K;rw[h1] at K;cases K;rfl
 let⟨h1,ai⟩:=FJ ae ag;let⟨E',hle,aj,ak,ab⟩:=Rf O ai;rw[← h1] at ab;refine⟨E',hle,?_,ak,ab⟩;obtain⟨al,am,U,an,au,V⟩:=aj;obtain⟨rfl,-,rfl⟩:a=al/\xs.length=xs.length/\c=am:=by
  simp only[Value.slice.injEq] at U;exact⟨U.1,rfl,U.2.2⟩
 refine⟨an,?_⟩;rcases V with V | ⟨bk,off,f,ao,fr,ap,g2,aq⟩;exact .inl ⟨lN V,λad K=>.inl (ah ad K)⟩
 .refine .inr ⟨bk,off,ap,λi x ac=>?_⟩;have ar:i<Y.length:=by rw[Z];exact(d8.1 ac).1
  have hw:=f9 ar;refine⟨Y[i],pp.Ag hle (aa i x _ ac hw),f,ao,fr,g2,λm w hm=>?_⟩;rw[mf];exact aq _ w (I0 (HZ Z aa) hw m w hm)
variable{s₀:St}
theorem BA.get{s:St}(h:BA s s₀){b:Nat}{o:Obj}(K:s₀.get b=some o):s.get b=some o:=by
 unfold St.get at K ⊢;cases O:s₀.E b with
 | some o'=>
  rw[O] at K;simp only at K;cases K;rcases h.Dg _ _ O with h1 | ⟨h1,_⟩;rw[h1]
  .cases he:s.E b with
   | none=>exact h1
   | some U=>
    have:=h.ext _ _ he;rw[O] at this;cases this;rfl
 | none=>
  rw[O] at K;simp only at K;cases he:s.E b with
  | none=>exact h.own _ _ K
  | some U=>
   have:=h.ext _ _ he;rw[O] at this;cases this
theorem BA.upd{s:St}(h:BA s s₀){b:Nat}(o:Obj)(hb:(∃u,s₀.H b=some u)∨s₀.E b=none):BA (s.upd b o) (s₀.upd b o):=by
 refine⟨h.ext,λx u K=>?_,λx u K=>?_,h.q⟩;simp only[St.upd] at K ⊢;by_cases e:x=b;rw[d5 e] at K ⊢;exact K;rw[d7 e] at K ⊢;exact h.own _ _ K
 .have O:s₀.E x=some u:=K;rcases h.Dg _ _ O with h1 | ⟨h1,U⟩;exact .inl h1
  .refine .inr ?_;have e:x≠b:=λe=>by
    subst e;rcases hb with⟨w,hw⟩ | hb;rw[hw] at U;cases U;rw[hb] at O;cases O
   simp only[St.upd,d7 e];exact⟨h1,U⟩
theorem BA.none{s:St}(h:BA s s₀){b:Nat}(h1:s.E b=none)(O:s.H b=none):s₀.E b=none/\s₀.H b=none:=by
 constructor
 .cases he:s₀.E b with
  | none=>rfl
  | some o=>
   rcases h.Dg _ _ he with K | ⟨K,_⟩;rw[h1] at K;cases K;rw[O] at K;cases K
 .cases he:s₀.H b with
  | none=>rfl
  | some o=>have:=h.own _ _ he;rw[O] at this;cases this
theorem TZ{P:Program}{α:Type}(x:Sem α):∀{s s₀:St}{Q:α->St->Prop}{X:Halt->St->Prop},BA s s₀->lp P x s₀ Q X->lp P x s (λa s'=>∃V,BA s' V/\Q a V) (λh s'=>∃V,BA s' V/\X h V):=by
 induction x with
 | pure a=>intro s s₀ Q X g h;exact⟨s₀,g,h⟩
 | load m a k K=>
  intro s s₀ Q X g h;obtain⟨h1,v,O,U⟩:=h;let⟨o,aa,ab⟩:=me.1 O;exact⟨h1,v,by unfold St.cell?;rw[g.get aa];exact ab,K v g U⟩
 | store m a v k K=>
  intro s s₀ Q X g h;obtain⟨h1,O,o,U,ac,ae,ag⟩:=h;exact⟨h1,O,o,g.own _ _ U,ac,ae,K (g.upd _ (.inl ⟨o,U⟩)) ag⟩
 | new o k K=>
  intro s s₀ Q X g h;refine⟨by rw[← g.q];exact h.1,λr h1 O=>?_⟩;let⟨Z,e2⟩:=g.none h1 O;exact K r (g.upd _ (.inr Z)) (h.2 r Z e2)
 | shape r k K=>intro s s₀ Q X g h;obtain⟨o,h1,O⟩:=h;exact⟨o,g.get h1,K _ g O⟩
 | freeze a n k K=>intro s s₀ Q X g h;exact h.elim
 | frozen a k K=>intro s s₀ Q X g h;obtain⟨o,h1,O⟩:=h;exact⟨o,g.get h1,K _ g O⟩
 | getObj r k K=>intro s s₀ Q X g h;obtain⟨o,h1,O,U⟩:=h;exact⟨o,g.get h1,O,K _ g U⟩
 | setObj r o k K=>
  intro s s₀ Q X g h;obtain⟨⟨o',h1,ah⟩,O,U⟩:=h;exact⟨⟨o',g.own _ _ h1,ah⟩,O,K (g.upd _ (.inl ⟨o',h1⟩)) U⟩
 | choose q k K=>
  intro s s₀ Q X g h;simp only[lp] at h ⊢;split;rename_i Y;rw[d5 Y] at h;exact K _ g h;rename_i Y;rw[d7 Y] at h;exact⟨by rw[← g.q];exact h.1,λt=>K _ g (h.2 t)⟩
 | sys c k K=>intro s s₀ Q X g h;exact h.elim
 | program k K=>intro s s₀ Q X g h;exact K _ g h
 | mark m k K=>
  intro s s₀ Q X g h;refine⟨?_,K g h.2⟩;rcases h.1 with⟨h1,O⟩ | h1;exact .inl ⟨by rw[← g.q];exact h1,O⟩;exact .inr h1
 | halt h=>intro s s₀ Q X g ai;exact⟨s₀,g,ai⟩
variable {J:Judge P}{Q:Gs_}{b:Frame}{n:Nat}{ds:Ld_}{ops:Ao_}{k:Li_}{cs:Lf_}{m:Nat}{D:Nat->Bool}{listed:Array Bool}{L:Env}{H:LH}{S:List Seg}
variable {v:Value}{i:Nat}{kd:IntKind}
variable{f:FuncId}{args:Array Operand}{ats:Array TypeId}{vs:Lv_}{R:Value->LH->Seg->Prop}
section
variable {fuel:Nat}
variable {x y:Operand}{e:TypeId}
theorem Kf(j:Nat)(ak:∀x,D x=true->∃(O:Nat) (o:Obj),(S.set j [])[O]?=some [(x,o)])(al:Ax J f vs E seg R)(am:Region.ready .any ops listed=[i])
  (an:ops[i]?=some ⟨d,.call ⟨.value (.func f),args,ats⟩,ty,p,af,g⟩) (ao:A5 n d=true) (hw:AO L ops ⟨d,.call ⟨.value (.func f),args,ats⟩,ty,p,af,g⟩=some true) (hb:Dd P f=true) (ap:evs L args.toList=some vs) (Y:Ak E H S) (Z:S[j]?=some seg)
  (aq:∀v E' seg',Le E E'->R v E' seg'->Ak E' H (S.set j seg')->AL J Q b n ds ops k cs m D fuel (AZ listed i) (Az L d v) (Ae E' H (S.set j seg'))):
  AL J Q b n ds ops k cs m D (fuel+1) listed L (Ae E H S):=by
 have aa:S.flatten.Perm (seg++(S.set j []).flatten):=(Db (seg':=seg) Z).1.trans kK;have ab:Nd E H (seg++(S.set j []).flatten):=Nd.perm Y aa;have ar:Ae E H S=mk E (AS (S.set j []).flatten H) seg:=by
  rw[show Ae E H S=mk E H S.flatten from rfl,Ez Y aa];unfold mk;rw[EI]
 have ac:=CZ.JC (al (AS (S.set j []).flatten H) (Nd.front ab)) (by rintro v s' ⟨E',B',_,_,_,rfl⟩;rfl);rw[← ar] at ac;refine AL.call rfl am an ao hw hb ap ac ?_;rintro v aC ⟨⟨E',B',hle,au,av,rfl⟩,w,aw⟩;have e2:mk E' (AS (S.set j []).flatten H) B'=mk E' H (B'++(S.set j []).flatten):=by unfold mk;rw[EI]
 have ay:Nd E H (S.set j []).flatten:=by
  have:=ab;rw[Nd.iff] at this ⊢;rw[k7,ls] at this;exact⟨this.1.2.1,λq az=>this.2 q (lB _ az)⟩
 have aA:Nd E' H (S.set j []).flatten:=ay.grow λx U=>by
  have h0:=aw.d x U;have h1:AS B' (AS (S.set j []).flatten H) x=none:=h0;exact(GX h1).1
 have ae:Nd E' H (B'++(S.set j []).flatten):=Nd.glue av aA;have ag:(B'++(S.set j []).flatten).Perm (S.set j B').flatten:=kK.trans (Db Z).2.symm;have ah:Ak E' H (S.set j B'):=Nd.perm ae ag;rw[e2,Ez ae ag];refine⟨rfl,λx o U=>?_,aq v E' B' hle au ah⟩;by_cases hd:D x=true
 .obtain⟨O,o',V⟩:=ak x hd;have ai:j≠O:=λh=>by
   subst h;rw[mJ (d8.1 Z).1] at V;cases V
  have aj:S[O]?=some [(x,o')]:=by rw[l2 ai] at V;exact V
  have h1:(Ae E H S).get x=some o':=Dp (i:=0) Y aj rfl;have aB:(Ae E' H (S.set j B')).get x=some o':=Dp (i:=0) ah (by rw[l2 ai];exact aj) rfl;have K:(if D x then(Ae E H S).get x else E x)=some o:=U
  show(if D x then(Ae E' H (S.set j B')).get x else E' x)=some o
  rw[d5 hd] at K ⊢;rw[aB,← h1];exact K
 .have K:(if D x then(Ae E H S).get x else E x)=some o:=U
  show(if D x then(Ae E' H (S.set j B')).get x else E' x)=some o
  rw[d7 hd] at K ⊢;exact hle _ _ K
theorem JA.ghost:∀(fuel:Nat) {listed:Array Bool}{T:Av_}{s s₀:St},BA s s₀->JA J Q b ds ops k cs m Dy fuel listed T s₀->JA J Q b ds ops k cs m Dy fuel listed T s
 | 0,listed,T,s,s₀,g,h=>⟨h.1,J.ghost g h.2⟩
 | fuel+1,listed,T,s,s₀,g,h=>by
  rcases h with⟨h1,O⟩ | ⟨h1,O,Y⟩;exact .inl ⟨h1,λt=>J.ghost g (O t)⟩
  .refine .inr ⟨h1,by rw[← g.q];exact O,λi hi o Z=>?_⟩;let⟨a1,aa,ab⟩:=Y i hi o Z;refine⟨a1,λe=>JA.ghost fuel g (aa e),λe=>?_⟩;have ac:=TZ _ (s:=A2 Dy s) (s₀:=A2 Dy s₀) g (ab e);refine CL _ ac ?_ (λ_ s' ⟨_,_,h⟩=>h);intro nx s' K;obtain⟨U,V,K⟩:=K;cases nx with
   | value v=>exact JA.ghost fuel (s:=s') (s₀:=U) V K
   | skip=>exact JA.ghost fuel (s:=s') (s₀:=U) V K
   | enter f args=>
    obtain⟨R,ae,ag⟩:=K;refine⟨R,λQ c cs ah=>J.ghost (s:=s') (s₀:=U) V (ae Q c cs ah),λv ai aj=>?_⟩;let⟨b1,ak,al⟩:=ag v ai aj;exact⟨b1,λx o K=>ak x o (g.ext x o K),al⟩
   | _=>exact K.elim
theorem Ls{α:Type}{pp:Rp α}{a:Option Addr}{c:Nat}{xs:List α}(j:Nat)(K:OL e pp E a c seg xs)(O:Ak E H S)(U:S[j]?=some seg)
  (h:∀E',Le E E'->AK pp E' a c xs->Ak E' H (S.set j [])->AL J Q b n ds ops k cs m Dy fuel listed L (Ae E' H (S.set j []))):AL J Q b n ds ops k cs m Dy fuel listed L (Ae E H S):=λT V=>by
 let⟨E',h1,Y,Z,aa⟩:=Ri j K O U
 exact JA.ghost _ aa (h E' h1 Y Z T V)
end
theorem oi{α:Type}{a b:α}(h:some a=some b):a=b:=d0 h
theorem bs{α:Type}{o:Option α}{f:α->Option β}{r:β}(h:o.bind f=some r):∃x,o=some x/\f x=some r:=bind_some h
def Jk(L:Env):Env->List (Option Value)
 | []=>[]
 | (t,_)::L'=>look L t::Jk L L'
def Jp:Env->List (Option Value)
 | []=>[]
 | (_,v)::L'=>some v::Jp L'
theorem NY{L:Env}:∀{L':Env},Jk L L'=Jp L'->Sub L' L
 | [],_=>trivial
 | (t,v)::L',h=>by
  simp only[Jk,Jp,List.cons.injEq] at h
  exact⟨h.1,NY h.2⟩
variable {L':Env}{k':Li_}{rest:List Nat}
variable {op:Op}
variable{fn:Func}
section
theorem FR(L':Env)(h:Jk L L'=Jp L')(k':JL J Q b n L' ds k cs s):JL J Q b n L ds k cs s:=Ap (NY h) k'
theorem Oi(k':JL J Q b n L' ds k cs s)(h:Jk L L'=Jp L'):JL J Q b n L ds k cs s:=Ap (NY h) k'
def IP(b:Frame)(n:Nat)(L:Env)(ops:Ao_)(i:Nat):Option Oper:=
 match JI ops.toList i with
 | some ⟨d,op,ty,p,af,g⟩=>match AO L ops ⟨d,op,ty,p,af,g⟩ with
  | some true=>match Bt b n ⟨d,op,ty,p,af,g⟩ with
   | true=>some ⟨d,op,ty,p,af,g⟩
   | false=>none
  | _=>none
 | none=>none
theorem P0{o:Oper}(h:IP b n L ops i=some o):ops[i]?=some o/\AO L ops o=some true/\Bt b n o=true:=by
 unfold IP at h;split at h;rename_i K;rw[NR,lC] at K;split at h;rename_i hw;split at h;rename_i O;cases h;exact⟨K,hw,O⟩;cases h;cases h;cases h
theorem AJ(K:IP b n L ops i=some ⟨d,op,ty,p,af,g⟩)(h:∀ρ,Eg L ρ->Yl P ⟨d,op,ty,p,af,g⟩ ρ s v)(O:JL J Q b n (Az L d v) ds (.inRegion ops rest::k) cs s):
  JL J Q b n L ds (.inRegion ops (i::rest)::k) cs s:=
 let ⟨h1,U,V⟩:=P0 K
 Ac h1 U V h O
theorem WS{c:Code}{E:LH}{B:Seg}(O:P.funcs[f]?=some fn)(hb:fn.body=some c)(U:Nat.ble vs.length fn.ntmps=true)
  (h:∀(Q:Gs_) (K:Frame) (cs:Lf_) (H:LH),Ak E H [B]->(∀v E' S' B',Le E E'->S'.flatten=B'->R v E' B'->Ak E' H S'->J.ok Q (G (K.finish v) cs) (Ae E' H S'))->JL J Q (base f) fn.ntmps (Gh 0 vs) [] [.code c] (K::cs) (Ae E H [B])):Ax J f vs E B R:=
 Ax.enter O hb (d4 U) h
variable {fuel:Nat}
end
def MP(L:Env):List ResultVar->Option (Lv_)
 | []=>some []
 | .tmp t::rs=>match look L t with
  | some v=>match MP L rs with
   | some vs=>some (v::vs)
   | none=>none
  | none=>none
 | _=>none
theorem Ql{P:Program}{L:Env}{s:St}:∀{rs:List ResultVar}{vs:Lv_},MP L rs=some vs->RV P L s rs vs
 | [],vs,h=>by cases h;trivial
 | .tmp t::rs,vs,h=>by
  unfold MP at h
  split at h
  .rename_i v K
   split at h;rename_i ws hw;cases h;exact⟨K,Ql hw⟩;cases h
  .cases h
 | .cell _ _::_,_,h=>by cases h
variable {ft:TypeId}
section
variable {x y:Operand}{e:TypeId}
theorem QL{c:Frame}(O:P.funcs[b.fn]?=some fn)(K:(b.kind== .normal&&b.roundOf.isNone)=true)(U:MP L fn.results.toList=some vs)(h:J.ok Q (G (c.finish (Mb vs)) cs) s):JL J Q b n L [] (.code .ret::k) (c::cs) s:=by
 simp only[f5,mb,Option.isNone_iff_eq_none] at K;exact JL.ret K.1 K.2 (Ay.list O V (Ql U)) h
theorem W0
  (O:Ax J f vs E [] R) (U:IP b n L ops i=some ⟨d,.call ⟨.value (.func f),args,ats⟩,ty,p,af,g⟩) (V:evs L args.toList=some vs) (hb:Dd P f=true)
  (Y:Ak E H S) (Z:∀v E' seg',Le E E'->R v E' seg'->Ak E' H (S++ [seg'])->JL J Q b n (Az L d v) ds (.inRegion ops rest::k) cs (Ae E' H (S++ [seg']))):
  JL J Q b n L ds (.inRegion ops (i::rest)::k) cs (Ae E H S):=by
 let⟨h1,aa,K⟩:=P0 U;refine JS.call O h1 aa ?_ hb V Y Z;simp only[Bt,f5] at K ⊢;exact⟨K.1,K.2.1⟩
theorem W7{v:Value}
  (O:Ax J f vs E [] (λw E' B'=>w=v/\B'=[])) (U:IP b n L ops i=some ⟨d,.call ⟨.value (.func f),args,ats⟩,ty,p,af,g⟩) (V:evs L args.toList=some vs) (hb:Dd P f=true)
  (K:Ak E H S) (Y:∀E',Le E E'->Ak E' H (S++ [[]])->JL J Q b n (Az L d v) ds (.inRegion ops rest::k) cs (Ae E' H (S++ [[]]))):
  JL J Q b n L ds (.inRegion ops (i::rest)::k) cs (Ae E H S):=W0 O U V hb K (by rintro _ E' _ hle ⟨rfl,rfl⟩ K;exact Y E' hle K)
theorem Oa{r m m':Int}{u:TypeId}(h:AR (m+m')=some r)(K:IP b n L ops i=some ⟨d,.binOp .add t x y u,ty,p,af,g⟩)(O:ev L x=some (iV m))(U:ev L y=some (iV m'))
  (V:JL J Q b n (Az L d (iV r)) ds (.inRegion ops rest::k) cs s):JL J Q b n L ds (.inRegion ops (i::rest)::k) cs s:=AJ K (λ_ q=>BH (q _ _ O) (q _ _ U) h) V
variable {fuel:Nat}
end
theorem ip{α:Type}{p:Prop} [Decidable p] {A B:Option α}{r:α}(h:(if p then A else B)=some r)(c:p):A=some r:=by rwa[d5 c] at h
theorem im{α:Type}{p:Prop} [Decidable p] {A B:Option α}{r:α}(h:(if p then A else B)=some r)(c:¬p):B=some r:=by rwa[d7 c] at h
theorem ib{α:Type}{c:Bool}{A B:Option α}{r:α}(h:(if c=true then A else B)=some r)(K:c=false):B=some r:=by subst K;simpa using h
theorem zg{P:Program}{J:Judge P}{Q:Gs_}{b:Frame}{n:Nat}{L L':Env}{ds:Ld_}{k k':Li_}{cs:Lf_}{s:St}(m:Nat)(h:Mn b n m k L=some (k',L'))(K:JL J Q b n L' ds k' cs s):JL J Q b n L ds k cs s:=JL.go m h K
abbrev C:=@zg
variable {α:Type}{A B:Option α}{r:α}
section
theorem Ob{c:Operand}{x y:Code}{p:Prop} [Decidable p] (K:(if p then A else B)=some r)(h1:p->A=some r->JL J Q b n L ds (.code x::k) cs s)(O:¬p->B=some r->JL J Q b n L ds (.code y::k) cs s)
  (U:ev L c=some (.bool (decide p)):=by exact rfl):JL J Q b n L ds (.code (.cond c x y)::k) cs s:=AU U (λh=>h1 h (ip K h)) λh=>O h (im K h)
variable {fuel:Nat}
end
instance {α:Type} [DecidableEq α] (xs:List α):Decidable (xs=[]):=inferInstance
variable {w:Value}
section
variable {x y:Operand}{e:TypeId}
end
section
variable {fuel:Nat}
variable {x y:Operand}{e:TypeId}
end
section
variable {fuel:Nat}
end
variable {e2:TypeId}
section
variable {x y:Operand}{e:TypeId}
abbrev rs(q:Nat×Obj)(K:Seg)(p:Nat×Obj)(g2:Seg):Seg:=q::(K++ [p]++g2)
end
variable {bk:Nat}{o:Obj}{xs:List (κ×ν)}{v0:ν}
variable {kk:Li_}
variable {z:Operand}{x0:κ}
variable{es:Array MapEntry}{seen:Array Nat}
section
variable [DecidableEq κ]
def KN(xs:List (κ×ν)):Prop:=(xs.map (·.1)).Nodup
theorem KN.perm{xs ys:List (κ×ν)}(h:KN xs)(p:ys.Perm xs):KN ys:=((p.map (λq:κ×ν=>q.1)).nodup_iff).2 h
def Cu(xs:List (κ×ν))(x:κ):List (κ×ν):=xs.filter λy=>decide (x≠y.1)
theorem Pu{xs:List (κ×ν)}{x:κ}(h:∀y∈xs,x≠y.1):Cu xs x=xs:=List.filter_eq_self.2 λy K=>by simpa using h y K
theorem Ly{x:κ}{v:ν}:∀{xs:List (κ×ν)},KN xs->(Ej xs x v).Perm ((x,v)::Cu xs x)
 | [],_=>.refl _
 | y::ys,h=>by
  have h1:y.1 ∉ ys.map (·.1)/\KN ys:=by simpa [KN] using h
  unfold Ej;by_cases e:x=y.1
  .rw [d5 e];have e2:Cu (y::ys) x=ys:=by
    have:Cu (y::ys) x=Cu ys x:=by simp[Cu,e]
    rw[this];exact Pu λz K q=>h1.1 (k3.2 ⟨z,K,by rw[← q,e]⟩)
   rw[e2]
  .rw [d7 e];have e2:Cu (y::ys) x=y::Cu ys x:=by simp[Cu,e]
   rw[e2];exact((Ly h1.2).cons y).trans (List.Perm.swap _ _ _)
theorem Nr{xs ys:List (κ×ν)}(p:ys.Perm xs)(x:κ):(Cu ys x).Perm (Cu xs x):=p.filter _
theorem Sc{xs ys:List (κ×ν)}(h:KN xs)(p:ys.Perm xs)(x:κ)(v:ν):(Ej ys x v).Perm (Ej xs x v):=
 (Ly (h.perm p)).trans (((Nr p x).cons _).trans (Ly h).symm)
theorem KN.del{xs:List (κ×ν)}(h:KN xs)(x:κ):KN (Cu xs x):=by
 unfold KN Cu;exact List.Nodup.sublist (List.Sublist.map _ List.filter_sublist) h
theorem KN.put{xs:List (κ×ν)}(h:KN xs)(x:κ)(v:ν):KN (Ej xs x v):=by
 refine KN.perm ?_ (Ly h);unfold KN;simp only[lG,mx];refine⟨λq=>?_,h.del x⟩;let⟨z,K,e⟩:=k3.1 q;have:=(kY.1 K).2;simp at this;exact this e.symm
def Df(pk:Rp κ)(ka:Bool)(pv:Rp ν)(va:Bool)(E:LH)(o:Obj)(xs:List (κ×ν)):Prop:=KN xs/\∃ys,ys.Perm xs/\JE pk ka pv va E o ys
theorem Df.Ag{o:Obj}{xs:List (κ×ν)}(h:Df pk ka pv va E o xs)(hle:Le E E'):Df pk ka pv va E' o xs:=
 let ⟨h1,ys,K,O⟩:=h;⟨h1,ys,K,O.Ag hle⟩
theorem Df.nil:Df pk ka pv va E (.map #[] 0) []:=⟨List.nodup_nil,[],.refl _,⟨#[],0,V,trivial,.nil,by simp⟩⟩
section
variable {k:Value}{x:κ}
theorem Rn(K:HE P t pk ka)(hm:P.underlying tm=some (.map t te))(O:s.get bk=some o)(U:s.H bk=some o)(V:Df pk ka pv va E o xs)(Y:Vr pk ka E k x)(hw:Vr pv va E w v0){Q:Unit->St->Prop}
  (h:∀o',Df pk ka pv va E o' (Ej xs x v0)->Q () (s.upd bk o')):lp P (Instr.mapUpdate tm (.map (some bk)) k w) s Q X:=by
 obtain⟨h1,ys,Z,aa⟩:=V;exact Rq K hm O U aa Y hw λo' ab=>h o' ⟨h1.put _ _,_,Sc h1 Z _ _,ab⟩
theorem CI.erase(U:Vr pk ka E k x):∀{es:List MapEntry}{ys:List (κ×ν)}{i:Nat},CI pk ka pv va E es ys->KN ys->
  (Fv x es ys i=none/\Cu ys x=ys)∨∃j u,Fv x es ys i=some (i+j,u)/\CI pk ka pv va E (es.eraseIdx j) (Cu ys x)
 | [],[],i,_,_=>.inl ⟨rfl,rfl⟩
 | e::es,y::ys,i,h,V=>by
  have h1:y.1 ∉ ys.map (·.1)/\KN ys:=by simpa [KN] using V
  unfold Fv;by_cases K:x=y.1
  .refine .inr ⟨0,e.val,by rw[d5 K];rfl,?_⟩;have e2:Cu (y::ys) x=ys:=by
    have:Cu (y::ys) x=Cu ys x:=by simp[Cu,K]
    rw[this];exact Pu λz Y q=>h1.1 (k3.2 ⟨z,Y,by rw[← q,K]⟩)
   rw[e2];exact h.2.2
  .have e2:Cu (y::ys) x=y::Cu ys x:=by simp[Cu,K]
   rcases CI.erase U (i:=i+1) h.2.2 h1.2 with⟨a1,O⟩ | ⟨j,u,a1,O⟩;exact .inl ⟨by rw[d7 K];exact a1,by rw[e2,O]⟩;refine .inr ⟨j+1,u,by rw[d7 K,a1];congr 2;omega,?_⟩;rw[e2];exact⟨h.1,h.2.1,O⟩
 | [],_::_,_,h,_=>h.elim
 | _::_,[],_,h,_=>h.elim
end
section
variable {x y:Operand}{e:TypeId}{k:Value}
theorem JS.makeMap(K:ops[i]?=some ⟨d,.makeMap t none,ty,p,af,g⟩)(hw:AO L ops ⟨d,.makeMap t none,ty,p,af,g⟩=some true)(O:Bt b n ⟨d,.makeMap t none,ty,p,af,g⟩=true)(U:Ak E H S)
  (h:∀r,Ak E H (S++ [[(r,.map #[] 0)]])->JL J Q b n (Az L d (.map (some r))) ds (.inRegion ops rest::kk) cs (Ae E H (S++ [[(r,.map #[] 0)]]))):
  JL J Q b n L ds (.inRegion ops (i::rest)::kk) cs (Ae E H S):=
 JL.op K hw O λρ ab=>by
  show lp P (do pure (Next.value (← Instr.makeMap t none))) _ _ _
  refine AG _ _ ?_
  unfold Instr.makeMap
  simp only[newObj,bind,Sem.bind,pure,lp]
  refine⟨rfl,λr h1 V=>?_⟩
  let⟨Y,Z⟩:=IB h1 V (.map #[] 0) U
  let⟨p1,p2⟩:=F8 Y
  have aa:(Ae E H S).upd r (.map #[] 0)=Ae E H (S++ [[(r,.map #[] 0)]]):=by rw[← p1,← Z];rfl
  show JL J Q b n (Az L d (.map (some r))) ds (.inRegion ops rest::kk) cs ((Ae E H S).upd r (.map #[] 0));rw[aa];exact h r p2
theorem JS.mapUpdate(j:Nat)(V:HE P t pk ka)(hm:P.underlying tm=some (.map t te))(Y:Df pk ka pv va E o xs)(Z:Vr pk ka E k x0)(aa:Vr pv va E w v0)(K:Ak E H S)(O:S[j]?=some [(bk,o)])
  (ab:ops[i]?=some ⟨d,.mapUpdate tm x y z,ty,p,af,g⟩) (hw:AO L ops ⟨d,.mapUpdate tm x y z,ty,p,af,g⟩=some true) (ac:Bt b n ⟨d,.mapUpdate tm x y z,ty,p,af,g⟩=true) (ae:ev L x=some (.map (some bk))) (ag:ev L y=some k) (ah:ev L z=some w)
  (h:∀o',Df pk ka pv va E o' (Ej xs x0 v0)->Ak E H (S.set j [(bk,o')])->JL J Q b n (Az L d undef) ds (.inRegion ops rest::kk) cs (Ae E H (S.set j [(bk,o')]))):
  JL J Q b n L ds (.inRegion ops (i::rest)::kk) cs (Ae E H S):=
 JL.op ab hw ac λρ U=>by
  show lp P (do Instr.mapUpdate tm (ρ x) (ρ y) (ρ z);pure Next.skip) _ _ _
  rw[U _ _ ae,U _ _ ag,U _ _ ah]
  refine AG _ _ (Rn V hm (Dp (i:=0) K O rfl) (Il K O) Y Z aa λo' ai=>?_)
  let⟨aj,ak⟩:=Jd K O o'
  rw[aj]
  exact h o' ai ak
theorem Pr{α:Type}{m:Nat}{f:Nat->Sem α}{s:St}{Q:α->St->Prop}{X:Halt->St->Prop}(hm:0<m)(K:s.q=false)(h:∀i,i<m->lp P (f i) s Q X):lp P ((choose (.mapNext m)).bind f) s Q X:=by
 simp only[choose,Sem.bind,lp];split;exact h 0 hm;exact⟨K,λt=>h _ (mO _ hm)⟩
theorem JS.range{c:Nat}(hm:P.underlying tm=some (.map t te))(K:(Ae E H S).get bk=some (.map es c))(O:ops[i]?=some ⟨d,.range tm x,ty,p,af,g⟩)(hw:AO L ops ⟨d,.range tm x,ty,p,af,g⟩=some true)(U:Bt b n ⟨d,.range tm x,ty,p,af,g⟩=true)(V:Ak E H S)
  (Y:ev L x=some (.map (some bk)))
  (h:∀r,Ak E H (S++ [[(r,.mapIter (some bk) c #[] c)]])->JL J Q b n (Az L d (.pointer (some ⟨r,0,none⟩))) ds (.inRegion ops rest::kk) cs (Ae E H (S++ [[(r,.mapIter (some bk) c #[] c)]]))):
  JL J Q b n L ds (.inRegion ops (i::rest)::kk) cs (Ae E H S):=
 JL.op O hw U λρ Z=>by
  show lp P (do pure (Next.value (← Instr.range tm (ρ x)))) _ _ _
  rw[Z _ _ Y]
  refine AG _ _ ?_
  unfold Instr.range
  refine AG _ _ (CE hm ?_)
  simp only[getObj,newObj,bind,Sem.bind,pure,lp]
  refine⟨_,K,rfl,rfl,λr h1 aa=>?_⟩
  let⟨ab,ac⟩:=IB h1 aa (.mapIter (some bk) c #[] c) V
  let⟨p1,p2⟩:=F8 ab
  have ae:(Ae E H S).upd r (.mapIter (some bk) c #[] c)=Ae E H (S++ [[(r,.mapIter (some bk) c #[] c)]]):=by rw[← p1,← ac];rfl
  show JL J Q b n (Az L d (.pointer (some ⟨r,0,none⟩))) ds (.inRegion ops rest::kk) cs ((Ae E H S).upd r (.mapIter (some bk) c #[] c));rw[ae];exact h r p2
theorem JS.next{c r:Nat}(j:Nat)(ab:(Ae E H S).get bk=some (.map es c))(hb:∀e∈es.toList,e.born<c)(K:Ak E H S)(O:S[j]?=some [(r,.mapIter (some bk) c seen c)])
  (ac:ops[i]?=some ⟨d,.next x false,ty,p,af,g⟩) (hw:AO L ops ⟨d,.next x false,ty,p,af,g⟩=some true) (ae:Bt b n ⟨d,.next x false,ty,p,af,g⟩=true) (U:ev L x=some (.pointer (some ⟨r,0,none⟩)))
  (h1:∀e∈es.toList,e.born ∉ seen->Ak E H (S.set j [(r,.mapIter (some bk) c (seen.push e.born) c)])->JL J Q b n (Az L d (.tuple #[.bool true,e.key,e.val])) ds (.inRegion ops rest::kk) cs (Ae E H (S.set j [(r,.mapIter (some bk) c (seen.push e.born) c)])))
  (ag:(∀e∈es.toList,e.born∈seen)->JL J Q b n (Az L d (.tuple #[.bool false])) ds (.inRegion ops rest::kk) cs (Ae E H S)):
  JL J Q b n L ds (.inRegion ops (i::rest)::kk) cs (Ae E H S):=
 JL.op ac hw ae λρ ah=>by
  show lp P (do pure (Next.value (← Instr.next (ρ x) false ty))) _ _ _
  rw[ah _ _ U]
  refine AG _ _ ?_
  unfold Instr.next
  simp only[getObj,setObj,bind,Sem.bind,pure,lp]
  refine⟨_,Dp (i:=0) K O rfl,rfl,?_⟩
  simp only[lp]
  refine⟨_,ab,rfl,?_⟩
  have ai:(!seen.isEmpty&& !es.isEmpty&&es.all (λe=>decide (e.born>=c)))=false:=by
   by_cases he:es.toList=[]
   .have:es.isEmpty=true:=by simpa [Array.isEmpty_iff] using he
    simp[this]
   .let⟨e,Z⟩:=List.exists_mem_of_ne_nil _ he;have ay:=hb e Z;have:es.all (λe=>decide (e.born>=c))=false:=by
     cases U:es.all (λe=>decide (e.born>=c)) with
     | false=>rfl
     | true=>
      have:=l6.1 U e (mr.1 Z);simp at this;omega
    simp[this]
  have aj:Array.filter (λx:MapEntry=>decide (x.born<c)) (Array.filter (λe=> !seen.contains e.born) es)=Array.filter (λe=> !seen.contains e.born) es:=by
   apply m6.1;rw[md,List.filter_eq_self];intro e he;rw[md] at he;simpa using hb e (kY.1 he).1
  have e2:Array.filter (λx:MapEntry=>decide (x.born>=c)) (Array.filter (λe=> !seen.contains e.born) es)=#[]:=by
   apply m6.1;rw[md,na];intro e he;rw[md] at he;have:=hb e (kY.1 he).1;simp;omega
  dsimp only;rw[d7 (by rw[ai];exact f8),aj,e2];have V:∀e,e∈(Array.filter (λe=> !seen.contains e.born) es).toList↔e∈es.toList/\e.born ∉ seen:=by
   intro e;rw[md,kY];simp
  generalize Array.filter (λe:MapEntry=> !seen.contains e.born) es=left at V ⊢;by_cases Y:left.toList=[]
  .have ak:left=#[]:=m6.1 Y;subst ak;refine Pr (by simp) rfl λi hi=>?_;obtain rfl:i=0:=by simp at hi;exact hi
   have al:((if(#[]:Array MapEntry).isEmpty=true then #[none] else #[])++Array.map some ((#[]:Array MapEntry)++ #[]))[0]?=some none:=by simp
   rw[al];refine ag λe he=>?_;by_cases aa:e.born∈seen;exact aa;have:=(V e).2 ⟨he,aa⟩;simp at this
  .have am:left.isEmpty=false:=by
    cases an:left.isEmpty with
    | false=>rfl
    | true=>exact absurd (by simpa [Array.isEmpty_iff] using an) Y
   rw[am];simp only[kV,lE,mD,Array.empty_append];have ao:0<left.size:=by
    rcases k4 left.size with h0 | h0;exact absurd (by simpa using Array.eq_empty_of_size_eq_zero h0) Y;exact h0
   refine Pr (by simpa using ao) rfl λi hi=>?_;have ap:i<left.size:=by simpa using hi
   have aq:(Array.map some left)[i]?=some (some left[i]):=by simp[ap]
   rw[aq];simp only[lp];let⟨ar,au⟩:=(V left[i]).1 (Array.getElem_mem_toList _);refine⟨⟨_,Il K O,rfl⟩,rfl,?_⟩;let⟨av,aw⟩:=Jd K O (.mapIter (some bk) c (seen.push left[i].born) c);rw[av];exact h1 _ ar au aw
theorem JS.entry{c r:Nat}{e:MapEntry}(j:Nat)(U:(Ae E H S).get bk=some (.map es c))(he:e∈es.toList)(hb:(es.toList.map (·.born)).Pairwise (·<·))(V:Ak E H S)(Y:S[j]?=some [(r,.mapIter (some bk) c (seen.push e.born) c)])
  (Z:ops[i]?=some ⟨d,.entry x,ty,p,af,g⟩) (hw:AO L ops ⟨d,.entry x,ty,p,af,g⟩=some true) (aa:Bt b n ⟨d,.entry x,ty,p,af,g⟩=true) (ab:ev L x=some (.pointer (some ⟨r,0,none⟩)))
  (h:JL J Q b n (Az L d (.tuple #[e.key,e.val])) ds (.inRegion ops rest::kk) cs (Ae E H S)):
  JL J Q b n L ds (.inRegion ops (i::rest)::kk) cs (Ae E H S):=
 JL.op Z hw aa λρ ac=>by
  show lp P (do pure (Next.value (← Instr.entry (ρ x)))) _ _ _
  rw[ac _ _ ab]
  refine AG _ _ ?_
  unfold Instr.entry
  simp only[getObj,bind,Sem.bind,pure,lp]
  refine⟨_,Dp (i:=0) V Y rfl,rfl,?_⟩
  simp only[Array.back?_push,bne_self_eq_false,lp]
  refine⟨_,U,rfl,?_⟩
  have ae:es.find? (λx=>x.born==e.born)=some e:=by
   rw[← Array.find?_toList];have key:∀(l:List MapEntry),e∈l->(l.map (·.born)).Pairwise (·<·)->l.find? (λx=>x.born==e.born)=some e:=by
    intro l
    induction l with
    | nil=>intro h;cases h
    | cons y l ag=>
     intro hm K;rw[lG,mV] at K;by_cases O:y.born=e.born;rcases f7.1 hm with rfl | hm;simp;have:=K.1 e.born (k3.2 ⟨e,hm,rfl⟩);omega;rw[List.find?_cons_of_neg (by simpa using O)];rcases f7.1 hm with rfl | hm;exact absurd rfl O;exact ag hm K.2
   exact key _ he hb
  simp only[bne_self_eq_false,kV,lE,ae,lp];exact h
end
end
theorem OJ{α:Type}(f:α->β){l:List α}(h:(l.map f).Nodup):l.Nodup:=by
 unfold List.Nodup at h ⊢;rw[List.pairwise_map] at h;exact h.imp λh e=>h (by rw[e])
theorem LC{α:Type}:∀{l l':List α},l.Nodup->(∀x∈l,x∈l')->l.length<=l'.length
 | [],_,_,_=>lz _
 | x::l,l',h,O=>by
  obtain⟨a,b,rfl⟩:=List.append_of_mem (O x (by simp))
  have h1:=mx.1 h
  have:=LC (l:=l) (l':=a++b) h1.2 (λy U=>by
   have K:=O y (kO _ U)
   have V:y≠x:=λe=>h1.1 (e▸U)
   simp at K ⊢
   rcases K with K | K | K;exact .inl K;exact absurd K V
   .exact .inr K)
  simp at this ⊢;omega
variable {ys:List (κ×ν)}
section
variable [DecidableEq κ]
def H6(es:Array MapEntry)(ys:List (κ×ν))(seen:Array Nat)(done:List (κ×ν)):Prop:=
 ∃K:List (MapEntry×(κ×ν)),done=K.map (·.2)/\seen.toList=K.map (·.1.born)/\K.Nodup/\∀q∈K,q∈es.toList.zip ys
theorem H6.nil{ys:List (κ×ν)}:H6 es ys #[] []:=⟨[],V,V,.nil,by simp⟩
theorem PS:∀{es:List MapEntry}{ys:List (κ×ν)},(es.map (·.born)).Pairwise (·<·)->∀{p q:MapEntry×(κ×ν)},p∈es.zip ys->q∈es.zip ys->p.1.born=q.1.born->p=q
 | [],_,_,_,_,h,_,_=>by simp at h
 | _::_,[],_,_,_,h,_,_=>by simp at h
 | e::es,y::ys,O,p,q,h1,K,hb=>by
  rw[lG,mV] at O
  rw[mF] at h1 K
  have U:∀{z:MapEntry×(κ×ν)},z∈es.zip ys->z.1.born∈es.map (·.born):=λ{z} V=>by
   have:=(mQ V).1
   exact k3.2 ⟨z.1,this,rfl⟩
  rcases f7.1 h1 with rfl | h1<;>rcases f7.1 K with rfl | K;rfl;have:=O.1 _ (U K);simp at hb;omega;have:=O.1 _ (U h1);simp at hb;omega;exact PS O.2 h1 K hb
theorem CI.zip:∀{es:List MapEntry}{ys:List (κ×ν)},CI pk ka pv va E es ys->∀{q:MapEntry×(κ×ν)},q∈es.zip ys->Vr pk ka E q.1.key q.2.1/\Vr pv va E q.1.val q.2.2
 | [],[],_,_,h=>by simp at h
 | e::es,y::ys,h,q,K=>by
  rw[mF] at K
  rcases f7.1 K with rfl | K;exact⟨h.1,h.2.1⟩;exact CI.zip h.2.2 K
 | [],_::_,h,_,_=>h.elim
 | _::_,[],h,_,_=>h.elim
theorem PM:∀{es:List MapEntry}{ys:List (κ×ν)},KN ys->(es.map (·.born)).Pairwise (·<·)->∀{p q:MapEntry×(κ×ν)},p∈es.zip ys->q∈es.zip ys->p.2.1=q.2.1->p=q
 | [],_,_,_,_,_,h,_,_=>by simp at h
 | _::_,[],_,_,_,_,h,_,_=>by simp at h
 | e::es,y::ys,Y,U,p,q,h1,K,hb=>by
  have O:y.1 ∉ ys.map (·.1)/\KN ys:=by simpa [KN] using Y
  rw[lG,mV] at U;rw[mF] at h1 K;have V:∀{z:MapEntry×(κ×ν)},z∈es.zip ys->z.2.1∈ys.map (·.1):=λ{z} Z=>k3.2 ⟨z.2,(mQ Z).2,rfl⟩;rcases f7.1 h1 with rfl | h1<;>rcases f7.1 K with rfl | K;rfl;have:=V K;simp only at hb;rw[← hb] at this;exact absurd this O.1;have:=V h1;simp only at hb;rw[hb] at this;exact absurd this O.1;exact PM O.2 U.2 h1 K hb
theorem H6.len{ys:List (κ×ν)}{done:List (κ×ν)}(h:H6 es ys seen done):done.length<=ys.length:=by
 obtain⟨V,rfl,h1,K,O⟩:=h;rw[lS];have U:=LC K O;exact lO U (by rw[my];exact Nat.min_le_right _ _)
section
variable {x y:Operand}{e:TypeId}
theorem TN{c r:Nat}{done:List (κ×ν)}(j:Nat)(aa:CI pk ka pv va E es.toList ys)(Y:(es.toList.map (·.born)).Pairwise (·<·))(hb:∀e∈es.toList,e.born<c)(ah:KN ys)(ai:H6 es ys seen done)(aj:(Ae E' H S).get bk=some (.map es c))(ak:Ak E' H S)(al:S[j]?=some [(r,.mapIter (some bk) c seen c)])
  (am:ops[i]?=some ⟨d,.next x false,ty,p,af,g⟩) (hw:AO L ops ⟨d,.next x false,ty,p,af,g⟩=some true) (an:Bt b n ⟨d,.next x false,ty,p,af,g⟩=true) (ao:ev L x=some (.pointer (some ⟨r,0,none⟩)))
  (h1:∀e O,Vr pk ka E e.key O.1->Vr pv va E e.val O.2->O∈ys->O.1 ∉ done.map (·.1)->e∈es.toList->H6 es ys (seen.push e.born) (done++ [O])->Ak E' H (S.set j [(r,.mapIter (some bk) c (seen.push e.born) c)])->
   JL J Q b n (Az L d (.tuple #[.bool true,e.key,e.val])) ds (.inRegion ops rest::kk) cs (Ae E' H (S.set j [(r,.mapIter (some bk) c (seen.push e.born) c)])))
  (ap:done.Perm ys->JL J Q b n (Az L d (.tuple #[.bool false])) ds (.inRegion ops rest::kk) cs (Ae E' H S)):
  JL J Q b n L ds (.inRegion ops (i::rest)::kk) cs (Ae E' H S):=by
 obtain⟨Z,rfl,a1,ab,V⟩:=ai;have hlen:=aa.len;refine JS.next j aj hb ak al am hw an ao (λe he aq ar=>?_) (λau=>?_)
 .let⟨m,hm,av⟩:=ng.1 he;have U:(e,ys[m]'(by omega))∈es.toList.zip ys:=by
   rw[← av];have:(es.toList.zip ys)[m]'(by rw[my];omega)=(es.toList[m],ys[m]'(by omega)):=List.getElem_zip;rw[← this];exact kX _
  let⟨k1,aw⟩:=aa.zip U;have ac:(e,ys[m]'(by omega)) ∉ Z:=λq=>aq (by
   rw[← mr,a1]
   exact k3.2 ⟨_,q,rfl⟩)
  refine h1 e _ k1 aw (kX _) (λq=>?_) he ⟨Z++ [(e,ys[m]'(by omega))],by simp,by simp[a1],?_,λq K=>?_⟩ ar;let⟨O,ay,az⟩:=k3.1 q;obtain⟨z,ae,rfl⟩:=k3.1 ay;have:=PM ah Y (V z ae) U az;exact ac (this▸ae);rw[ls];exact⟨ab,by simp,by intro q K z ag aA;simp at ag;subst ag aA;exact ac K⟩;rcases kM.1 K with K | K;exact V q K;simp at K;subst K;exact U
 .refine ap ?_;have aB:Z.Perm (es.toList.zip ys):=by
   have aC:(es.toList.zip ys).Nodup:=by
    have:((es.toList.zip ys).map (·.1)).Nodup:=by
     rw[List.map_fst_zip (by omega)];exact OJ (λe:MapEntry=>e.born) (Y.imp (λh=>nm h))
    exact OJ _ this
   refine(mW ab aC).2 λq=>⟨λK=>V q K,λK=>?_⟩;have:=au q.1 (mQ K).1;rw[← mr,a1] at this;let⟨z,U,aD⟩:=k3.1 this;have:=PS Y (V z U) K aD;exact this▸U
  have:=aB.map (·.2)
  rwa[List.map_snd_zip (by omega)] at this
end
end
variable {l0 bks xl:List Nat}
section
variable {fuel:Nat}
end
variable {i2:Nat}
variable {d2:Option Tmp}{x2:Operand}{t2 ty2:TypeId}{p2:String}{af2:Ae_}{g2:On_}
section
variable {x y:Operand}{e:TypeId}
theorem Oh(K:List Seg)(O:Env){todo:Li_}{c:Code}(U:∀E',Le E E'->Ak E' H K->JL J Q b n O ds todo cs (Ae E' H K))
  (h:(∀{E':LH}{L:Env},Le E E'->Ak E' H K->Jk L O=Jp O->JL J Q b n L ds todo cs (Ae E' H K))->JL J Q b n L ds (.code c::todo) cs (Ae E H S)):JL J Q b n L ds (.code c::todo) cs (Ae E H S):=
 h λh1 V Y=>Oi (U _ h1 V) Y
theorem QF{c:Code}{E:LH}{B:Seg}(O:P.funcs[f]?=some fn)
  (h:∀(Q:Gs_) (K:Frame) (cs:Lf_) (H:LH),Ak E H [B]->(∀{v:Value}{E':LH}{S':List Seg}{B':Seg},Le E E'->S'.flatten=B'->R v E' B'->Ak E' H S'->J.ok Q (G (K.finish v) cs) (Ae E' H S'))->JL J Q (base f) fn.ntmps (Gh 0 vs) [] [.code c] (K::cs) (Ae E H [B]))
  (hb:fn.body=some c:=by exact rfl) (U:Nat.ble vs.length fn.ntmps=true:=by exact rfl):Ax J f vs E B R:=
 WS O hb U λQ K cs H V Y=>h Q K cs H V λh1 Z aa ab=>Y _ _ _ _ h1 Z aa ab
variable {fuel:Nat}
end
abbrev s8(s:Nat):Value:=.int .u8 (s:Int)
def KP(a:Nat)(n:Int):Option Nat:=if 0<=n/\n<=8 then some (a>>>n.toNat) else none
def KX(a b:Nat):Option Nat:=if a<256/\b<256 then some (a|||b) else none
def KS(a b:Nat):Option Nat:=if a<256/\b<256 then some (a&&& b) else none
variable {a c:Nat}
section
variable {x y:Operand}{b r:Nat}{m:Int}
theorem Og{m:Nat}(h:m<256):IntKind.u8.wrap (m:Int)=m:=by
 simp only[IntKind.wrap,IntKind.bits,IntKind.signed];simp;omega
theorem JN{m:Nat}(h:m<256):(BitVec.ofInt IntKind.u8.bits (m:Int)).toNat=m:=by
 simp[IntKind.bits,BitVec.toNat_ofInt];omega
theorem W9{k:Nat}(a c:Nat)(K:c<=k):((a:Int).fdiv (2^(min c k)))=((a>>>c:Nat):Int):=by
 rw[l7 K,mZ,l9 _ (Int.pow_nonneg (by decide)),Int.natCast_ediv]
 rfl
theorem S7(K:ρ x=s8 a)(O:ρ y=iV m)(h:KP a m=some r):Yl P ⟨d,.binOp .shr t x y u,ty,p,af,g⟩ ρ s (s8 r):=by
 unfold KP at h;split at h;rename_i h0;cases h;have h:=Yl.shr (P:=P) (s:=s) (d:=d) (t:=t) (u:=u) (ty:=ty) (p:=p) (af:=af) (g:=g) K O h0.1;rw[show IntKind.u8.bits=8 from rfl,W9 a m.toNat (by omega)] at h;exact h;cases h
theorem US(K:ρ x=s8 a)(O:ρ y=s8 b)(h:KX a b=some r):Yl P ⟨d,.binOp .or t x y u,ty,p,af,g⟩ ρ s (s8 r):=by
 unfold KX at h;split at h;rename_i h0;cases h;have h:=Yl.or (P:=P) (s:=s) (d:=d) (t:=t) (u:=u) (ty:=ty) (p:=p) (af:=af) (g:=g) K O;rw[BitVec.toNat_or,JN h0.1,JN h0.2,Og (Nat.or_lt_two_pow (n:=8) h0.1 h0.2)] at h;exact h;cases h
theorem Te(K:ρ x=s8 a)(O:ρ y=s8 b)(h:KS a b=some r):Yl P ⟨d,.binOp .and t x y u,ty,p,af,g⟩ ρ s (s8 r):=by
 unfold KS at h;split at h;rename_i h0;cases h;have h:=Yl.and (P:=P) (s:=s) (d:=d) (t:=t) (u:=u) (ty:=ty) (p:=p) (af:=af) (g:=g) K O;rw[mK,JN h0.1,JN h0.2,Og (lD mz h0.1)] at h;exact h;cases h
end
def FX(n:Int):Option Nat:=if 0<=n/\n<=8 then some ((1<<<n.toNat)%256) else none
section
variable {e:TypeId}{x y:Operand}{b r:Nat}{m:Int}
theorem Ko(K:ρ x=s8 1)(O:ρ y=iV m)(h:FX m=some r):Yl P ⟨d,.binOp .shl t x y u,ty,p,af,g⟩ ρ s (s8 r):=by
 unfold FX at h;split at h
 .rename_i h0;cases h;have h:=Yl.shl (P:=P) (s:=s) (d:=d) (t:=t) (u:=u) (ty:=ty) (p:=p) (af:=af) (g:=g) K O h0.1;have e:IntKind.u8.wrap (((1:Nat):Int)*2^(min m.toNat IntKind.u8.bits))=(((1<<<m.toNat)%256:Nat):Int):=
   (by decide:∀k:Fin 9,IntKind.u8.wrap (((1:Nat):Int)*2^(min k.1 IntKind.u8.bits))=(((1<<<k.1)%256:Nat):Int)) ⟨m.toNat,by omega⟩
  rw[e] at h;exact h
 .cases h
theorem PQ(K:ρ x=s8 a)(O:ρ y=s8 b)(hb:b<=256):Yl P ⟨d,.binOp .sub t x y u,ty,p,af,g⟩ ρ s (s8 ((a+(256 - b))%256)):=by
 have h:=Yl.sub (P:=P) (s:=s) (d:=d) (t:=t) (u:=u) (ty:=ty) (p:=p) (af:=af) (g:=g) K O;have e:IntKind.u8.wrap ((a:Int) - (b:Int))=(((a+(256 - b))%256:Nat):Int):=by
  simp only[IntKind.wrap,IntKind.bits,IntKind.signed];simp;omega
 rw[e] at h;exact h
end
section
variable {e:TypeId}
end
section
variable {fuel:Nat}
variable {x y:Operand}{e:TypeId}
end
section
variable (J:Judge P)(Q:Gs_)
end
variable {bc:Frame}{dsc:Ld_}{ch:List PanicEntry}{T Tc:Av_}{todoc:Li_}
section
variable {x:Operand}
theorem Rz(K:ops[i]?=some ⟨d,.call ⟨.builtin .recover,#[],ats⟩,ty,p,af,g⟩)(O:b.roundOf=none)(U:b.kind=.deferred)(Z:A5 n d=true)(hw:AO L ops ⟨d,.call ⟨.builtin .recover,#[],ats⟩,ty,p,af,g⟩=some true)
  (h:JL J Q b n (Az L d .nilIface) ds (.inRegion ops rest::k) (Dw bc Tc dsc todoc::cs) s):
  JL J Q b n L ds (.inRegion ops (i::rest)::k) (Dw bc Tc dsc todoc::cs) s:=λT V=>
 Judge.CM rfl (λw=>by
  have he:execOp (Bc T) ⟨d,.call ⟨.builtin .recover,#[],ats⟩,ty,p,af,g⟩=.pure .recover:=by
   simp[execOp,resolve,Deferred.ofValue,invoke,bind,Sem.bind,pure,Go.builtin]
  have Y:=F7 (b:=b) (ds:=ds) (k:=k) T ops i rest .nilIface _ K
  simp only[fr,O,U] at Y
  rw[stepG_op K (BF V hw)]
  simp[O,U,stepG.apply,he,Sem.run,Sem.runT,Sem.events,GStep.after,fr,Dw,tryRecover,G,seen_none,Y]) (h _ (V.put Z _))
end
open Go.Proofs
abbrev Dq:=Int×Int×Int
abbrev QX:=List Dq
abbrev XE:=List QX
abbrev Xy:=List (List Int)
abbrev XF:=Xy×QX
abbrev XG:=rP rI (rP rI rI)
open Go.Proofs.Tryz
def Aw:=AB Tryz.type3
def AD:=De Tryz.underlying3
def Ch:=AB Tryz.type22
def CV:=De Tryz.underlying22
def HS:=AB Tryz.type51
def Lb:=De Tryz.underlying51
def Ed:=A4 Tryz.func14 rfl
def Dk:=Cm Tryz.type3
def Ew:=Cm Tryz.type31
def BV:=AB Tryz.type31
def EW:=De Tryz.underlying31
def Lk:=A4 Tryz.func34 rfl
def Lj:=A4 Tryz.func13 rfl
def FC:=De Tryz.underlying26
def Ex:=AB Tryz.type26
def M5:=Cm Tryz.type102
def J7:=Cm Tryz.type76
def GV:=A4 Tryz.func29 rfl
def Iu:=Cm Tryz.type42
def DU:=AB Tryz.type87
def Eu:=De Tryz.underlying87
def IX:=A4 Tryz.func40 rfl
def Hj:=AB Tryz.type42
def J0:=De Tryz.underlying42
def J6:=Cm Tryz.type150
def FF:=AB Tryz.type40
def J4:=A4 Tryz.func83 rfl
def Lh:=Cm Tryz.type140
def Li:=Cm Tryz.type141
def Lf:=Cm Tryz.type143
def Lg:=Cm Tryz.type144
def J3:=Cm Tryz.type146
def J2:=Cm Tryz.type148
def Gt:=A4 Tryz.func38 rfl
def EX:=A4 Tryz.func30 rfl
def J1:=De Tryz.underlying44
def F5:=AB Tryz.type44
def IY:=AB Tryz.type38
def Lc:=De Tryz.underlying38
def Hi:=Cm Tryz.type44
def JY:=De Tryz.underlying40
def M6:=Cm Tryz.type81
def GW:=AB Tryz.type81
def HR:=De Tryz.underlying81
def F4:=De Tryz.underlying89
def Cq:=AB Tryz.type89
def M3:=A4 Tryz.func32 rfl
def J8:=Cm Tryz.type89
def JZ:=De Tryz.underlying84
def M1:=De Tryz.underlying113
def FE:=De Tryz.underlying21
def Lm:=AB Tryz.type123
def Ln:=AB Tryz.type66
def J5:=A4 Tryz.func41 rfl
def M8:=AB Tryz.type9
def M9:=AB Tryz.type4
def J9:=Cm Tryz.type26
def M7:=Cm Tryz.type40
theorem mixed:Tryz.prog.follows .mixedOrders=true:=rfl
variable {J:Judge Tryz.prog}
end Pal
namespace Pal
open Go Go.Conc
variable {P:Program}{Q:Gs_}{b:Frame}{n:Nat}{ds:Ld_}{ops:Ao_}{k:Li_}{cs:Lf_}{L:Env}{E H:LH}{S:List Seg}
variable {d:Option Tmp}{w:Operand}{t u ty:TypeId}{p:String}{af:Ae_}{g:On_}{i:Nat}{rest:List Nat}{s:St}{ρ:Operand->Value}
variable{c2:Nat}
section
variable {J:Judge P}
variable {x y:Operand}{e:TypeId}
theorem AK.Xs{α:Type}{pp:Rp α}{kk o:Nat}{ws:Lv_}{xs ys:List α}{hi:Int}(U:At E c2 o ws)(O:(rA kk pp).r E ws xs)(hC:MS xs 0 hi=some ys):AK pp E (some ⟨c2,o,none⟩) kk ys:=by
 have Z:=O.1;unfold MS at hC;split at hC
 .rename_i hb;cases hC;refine⟨by simp;omega,.inr ⟨c2,o,rfl,λq z K=>?_⟩⟩;simp only[Int.toNat_zero,List.drop_zero,lU] at K;split at K
  .have V:ix xs (q:Int)=some z:=by unfold ix;rw[d5 (by omega)];simpa using K
   let⟨us,h1,Y,_,_⟩:=WY O U V;exact⟨us,h1,by simpa using Y⟩
  .cases K
 .cases hC
end
open Go.Proofs Go.Proofs.Tryz
variable {J:Judge Tryz.prog}
variable {J:Judge Tryz.prog}
variable {J:Judge Tryz.prog}
def Qy:List Nat:=[0,1,2,2,3,3,3,3,4,4,4,4,4,4,4,4,5,5,5,5,5,5,5,5,5,5,5,5,5,5,5,5,6,6,6,6,6,6,6,6,6,6,6,6,6,6,6,6,6,6,6,6,6,6,6,6,6,6,6,6,6,6,6,6,7,7,7,7,7,7,7,7,7,7,7,7,7,7,7,7,7,7,7,7,7,7,7,7,7,7,7,7,7,7,7,7,7,7,7,7,7,7,7,7,7,7,7,7,7,7,7,7,7,7,7,7,7,7,7,7,7,7,7,7,7,7,7,7,8,8,8,8,8,8,8,8,8,8,8,8,8,8,8,8,8,8,8,8,8,8,8,8,8,8,8,8,8,8,8,8,8,8,8,8,8,8,8,8,8,8,8,8,8,8,8,8,8,8,8,8,8,8,8,8,8,8,8,8,8,8,8,8,8,8,8,8,8,8,8,8,8,8,8,8,8,8,8,8,8,8,8,8,8,8,8,8,8,8,8,8,8,8,8,8,8,8,8,8,8,8,8,8,8,8,8,8,8,8,8,8,8,8,8,8,8,8,8,8,8,8,8,8,8,8,8,8]
def f146(ac:Nat)(p0:Nat):Option Int:=Option.bind (if(((4294967296):Nat):Int)<=(((p0):Nat):Int) then(some (p0>>>32,32)) else(some (p0,0))) λK=>Option.bind (if(((65536):Nat):Int)<=(((K.1):Nat):Int) then((AR (K.2+16)).bind λV=>some (K.1>>>16,V)) else(some K)) λO=>Option.bind (if(((256):Nat):Int)<=(((O.1):Nat):Int) then((AR (O.2+8)).bind λY=>some (O.1>>>8,Y)) else(some O)) λU=>(JD Qy (((((U.1)%256):Nat):Int))).bind λZ=>(AR (((Z):Nat):Int)).bind λaa=>(AR (U.2+aa)).bind λab=>some ab
variable{p0:Nat}{r:Int}
theorem WO{ag:Nat}(V:f146 ag p0=some r):Ax J 103 [.int .u64 ((p0:Nat):Int)] E [] (λw E' B'=>w=iV r/\B'=[]):=by
 refine QF func103 λQ aQ cs H Y ah=>?_;unfold f146 at V;let⟨K,ai,aj⟩:=bs V;refine C 10 rfl (Oh [] [(0,.int .u64 ((K.1:Nat):Int)),(2,iV K.2)] (λaR ak Z=>?_) (λaa=>?_));let⟨O,al,am⟩:=bs aj;refine C 6 rfl (Oh [] [(0,.int .u64 ((O.1:Nat):Int)),(2,iV O.2)] (λaS an ab=>?_) (λac=>?_));let⟨U,ao,ap⟩:=bs am;refine C 6 rfl (Oh [] [(0,.int .u64 ((U.1:Nat):Int)),(2,iV U.2)] (λaT aq ar=>?_) (λae=>?_));refine C 4 rfl (AJ (v:=.int .u8 (((U.1)%256:Nat):Int)) rfl (λρ h=>Vs underlying51 underlying5 (h _ _ rfl)) ?_);let⟨au,av,aw⟩:=bs ap;refine AJ (v:=.int .u8 ((au:Nat):Int)) rfl (λρ h=>Pv (l:=Qy) (by decide+kernel) underlying9 (h _ _ rfl) (h _ _ rfl) av) ?_;let⟨ay,az,aA⟩:=bs aw;refine AJ (v:=iV ay) rfl (λρ h=>P4 underlying5 underlying3 (h _ _ rfl) az) ?_;let⟨aU,aB,aC⟩:=bs aA;refine Oa aB rfl rfl rfl (C 2 rfl ?_);cases aC;exact QL func103 rfl rfl (ah ((ak.Q4 an).Q4 aq) rfl ⟨rfl,rfl⟩ ar);refine Ob ao (λaD aE=>?_) (λaD aF=>?_);refine C 3 rfl (AJ (v:=.int .u64 ((O.1>>>8:Nat):Int)) rfl (λρ h=>Jh 8 (h _ _ rfl) (h _ _ rfl) (by decide)) ?_);obtain⟨aV,aG,aH⟩:=bs aE;refine C 4 rfl (Oa aG rfl rfl rfl ?_);refine C 2 rfl ?_;cases aH;exact ae JV ab rfl;refine JL.skip ?_;cases aF;exact ae JV ab rfl;refine Ob al (λaI aJ=>?_) (λaI aK=>?_);refine C 3 rfl (AJ (v:=.int .u64 ((K.1>>>16:Nat):Int)) rfl (λρ h=>Jh 16 (h _ _ rfl) (h _ _ rfl) (by decide)) ?_);let⟨aW,aL,aM⟩:=bs aJ;refine C 4 rfl (Oa aL rfl rfl rfl ?_);refine C 2 rfl ?_;cases aM;exact ac JV Z rfl;refine JL.skip ?_;cases aK;exact ac JV Z rfl;refine Ob ai (λaN aO=>?_) (λaN aP=>?_);refine C 3 rfl (AJ (v:=.int .u64 ((p0>>>32:Nat):Int)) rfl (λρ h=>Jh 32 (h _ _ rfl) (h _ _ rfl) (by decide)) ?_);refine C 5 rfl ?_;cases aO;exact aa JV Y rfl;refine JL.skip ?_;cases aP;exact aa JV Y rfl
def f115(K:Nat)(p0:Nat):Option Int:=(f146 K p0).bind λO=>some O
theorem Wq(K:f115 c2 p0=some r):Ax J 82 [.int .u64 ((p0:Nat):Int)] E [] (λw E' B'=>w=iV r/\B'=[]):=by
 refine QF func82 λQ ac cs H U V=>?_;unfold f115 at K;let⟨ae,Y,Z⟩:=bs K;refine C 10 rfl (W7 (WO Y) rfl rfl (A4 func103 rfl) U λag aa ab=>?_);refine C 2 rfl ?_;cases Z;exact QL func82 rfl rfl (V aa rfl ⟨rfl,rfl⟩ ab)
end Pal
namespace Pal
open Go Go.Conc
variable {P:Program}{E:LH}{s:St}{ρ:Operand->Value}{d:Option Tmp}{t ty:TypeId}{p:String}{af:Ae_}{g:On_}{kd:IntKind}
section
variable {x y:Operand}{e:TypeId}
end
variable {Q:Gs_}{b:Frame}{n:Nat}{L L':Env}{ds:Ld_}{k:Li_}{cs:Lf_}{ops:Ao_}{H:LH}{S:List Seg}
variable {d2:Option Tmp}{x2 y2:Operand}{ty2:TypeId}{p2:String}{af2:Ae_}{g2:On_}
variable {m:Nat}{listed:Array Bool}{bks xl l0:List Nat}{α:Type}{q:Rp α}{xs:List (List α)}{xv:List α}{mm:Int}{bk c c1 n':Nat}{f:Av_}
section
variable {J:Judge P}
variable {x y:Operand}{e:TypeId}
variable {fuel:Nat}
end
variable {v:Value}{i:Nat}
section
variable {J:Judge P}{fuel:Nat}
variable {x y:Operand}{e:TypeId}
theorem Take.y0{oi:Oper}(hi:ops[i]?=some oi)(K:(!CX oi.op&&A5 n oi.dst)=true)(hw:AO L ops oi=some true)(O:∀ρ,Eg L ρ->Yl P oi ρ s v)
  (h:AL J Q b n ds ops k cs m Dy fuel (AZ listed i) (Az L oi.dst v) s):Take J Q b n ds ops k cs m Dy fuel listed L s i:=
 Take.Q0 hi K hw λρ U=>by
  have:=O ρ U
  unfold Yl at this
  refine CL _ this ?_ (λ_ _ h=>h)
  rintro nx s' ⟨rfl,rfl⟩
  exact h
end
variable {bc:Frame}{dsc:Ld_}{rest:List Nat}{pp:String}{pv:Value}
section
variable {J:Judge P}{e:TypeId}
end
variable{ats:Array TypeId}
section
variable {J:Judge P}{e:TypeId}{x y:Operand}
theorem Rt{ρ:Operand->Value}:
  execOp ρ ⟨d,.call ⟨.builtin .copy,#[x,y],ats⟩,ty,p,af,g⟩=(do pure (Next.value (← Builtin.copy_ ats ty #[ρ x,ρ y]))):=by
 simp[execOp,resolve,invoke,builtin,bind,Sem.bind,pure]
end
variable {D:Nat->Bool}{E':LH}
variable {u:TypeId}
section
variable {J:Judge P}{fuel:Nat}
variable {x y:Operand}{e:TypeId}
theorem Take.Gb{f:FuncId}{args:Array Operand}{vs:Lv_}{seg:Seg}{R:Value->LH->Seg->Prop}(j:Nat)(O:Ak E H S)(ae:Ax J f vs E seg R)
  (ag:ops[i]?=some ⟨d,.call ⟨.value (.func f),args,ats⟩,ty,p,af,g⟩) (hw:AO L ops ⟨d,.call ⟨.value (.func f),args,ats⟩,ty,p,af,g⟩=some true) (ah:A5 n d=true) (hb:Dd P f=true) (ai:evs L args.toList=some vs) (U:S[j]?=some seg)
  (aj:∀v E' seg',Le E E'->R v E' seg'->Ak E' H (S.set j seg')->AL J Q b n ds ops k cs m Dy fuel (AZ listed i) (Az L d v) (Ae E' H (S.set j seg'))):
  Take J Q b n ds ops k cs m Dy fuel listed L (Ae E H S) i:=by
 have V:S.flatten.Perm (seg++(S.set j []).flatten):=(Db (seg':=seg) U).1.trans kK;have Y:Nd E H (seg++(S.set j []).flatten):=Nd.perm O V;have ak:Ae E H S=mk E (AS (S.set j []).flatten H) seg:=by
  rw[show Ae E H S=mk E H S.flatten from rfl,Ez O V];unfold mk;rw[EI]
 have Z:=CZ.JC (ae (AS (S.set j []).flatten H) (Nd.front Y)) (by rintro v s' ⟨E',B',_,_,_,rfl⟩;rfl);rw[← ak] at Z;refine⟨_,ag,by simp[CX],ah,hw,λρ aa=>?_⟩;have al:args.map ρ=vs.toArray:=by
  rw[← F6 aa ai];apply lJ;simp
 have am:ρ (.func f)=.func (.func f) #[] #[]:=aa _ _ rfl;simp only[execOp,resolve,bind,Sem.bind,Deferred.ofValue,am,pure,invoke];have e: #[]++args.map ρ++ #[]=vs.toArray:=by rw[al];simp
 rw[e];refine Iv hb ?_;rw[I3];refine⟨_,Z,?_⟩;rintro v aw ⟨⟨E',B',hle,an,ao,rfl⟩,w,ap⟩;have e2:mk E' (AS (S.set j []).flatten H) B'=mk E' H (B'++(S.set j []).flatten):=by unfold mk;rw[EI]
 have aq:Nd E H (S.set j []).flatten:=by
  have:=Y;rw[Nd.iff] at this ⊢;rw[k7,ls] at this;exact⟨this.1.2.1,λq ar=>this.2 q (lB _ ar)⟩
 have au:Nd E' H (S.set j []).flatten:=aq.grow λx K=>by
  have h0:=ap.d x K;have h1:AS B' (AS (S.set j []).flatten H) x=none:=h0;exact(GX h1).1
 have ab:Nd E' H (B'++(S.set j []).flatten):=Nd.glue ao au;have ac:(B'++(S.set j []).flatten).Perm (S.set j B').flatten:=kK.trans (Db U).2.symm;have av:Ak E' H (S.set j B'):=Nd.perm ab ac;rw[e2,Ez ab ac];exact⟨rfl,λx o K=>hle _ _ K,aj v E' B' hle an av⟩
end
section
variable {J:Judge P}{fuel:Nat}
variable {x y:Operand}{e:TypeId}
end
open Go.Proofs
def f20(fuel:Nat)(p0:List Int):Option (((List Int)×Int×Nat)):=
 some (p0,0,2685821657736338717)
variable{a1:Option Addr}{c2:Nat}
theorem WZ{J:Judge Tryz.prog}{E:LH}{p0:List Int}(Z:AK rI E a1 c2 (p0)){fuel:Nat}{r:((List Int)×Int×Nat)}(O:f20 fuel p0=some r):Ax J 4 [.slice a1 (p0).length c2] E [] (λw E' B'=>∃(U:Nat) (V:Option Addr) (Y:Nat),w=.pointer (some ⟨U,0,none⟩)/\B'=[(U,.cells #[.slice V (r.1).length Y,iV r.2.1,.int .u64 ((r.2.2:Nat):Int)] 53 (0,0))]/\AK rI E' V Y (r.1)):=by
 refine Ax.enter Tryz.func4 rfl (d4 rfl) λQ ae cs H aa ab=>?_;unfold f20 at O;refine JL.seq (JL.region ?_);refine Ac (v:=.pointer none) rfl rfl rfl (λρ h=>Yl.assign (h _ _ rfl)) (JL.done ?_);refine JL.seq (JL.region ?_);refine Ac (v:=.slice a1 (p0).length c2) rfl rfl rfl (λρ h=>Yl.move (h _ _ rfl)) (Ac (v:=.agg #[.slice a1 (p0).length c2,iV 0,.int .u64 ((2685821657736338717:Nat):Int)]) rfl rfl rfl (λρ h=>Cf [(0,1),(1,1),(2,1)] h (Cm Tryz.type53) Tryz.underlying53 ⟨rfl,AB Tryz.type22,rfl,AB Tryz.type3,rfl,AB Tryz.type51,trivial⟩ rfl rfl) ?_);refine JS.box (v:=.agg #[.slice a1 (p0).length c2,iV 0,.int .u64 ((2685821657736338717:Nat):Int)]) rfl rfl rfl aa rfl λK ac=>Ac (v:=.pointer (some ⟨K,0,none⟩)) rfl rfl rfl (λρ h=>Yl.assign (h _ _ rfl)) (JL.done ?_);have ag:r=(p0,0,2685821657736338717):=(d0 O).symm;subst r;exact JL.ret (v:=.pointer (some ⟨K,0,none⟩)) rfl rfl (Ay.list Tryz.func4 rfl (vs:=[.pointer (some ⟨K,0,none⟩)]) ⟨rfl,trivial⟩) (ab _ _ _ _ (Le.refl _) rfl ⟨K,a1,c2,rfl,(by first | rfl | simp | (simp[Value.cells])),Z⟩ ac)
def f83(fuel:Nat)(p0:(List Int)×Int×Nat):Option (Nat×((List Int)×Int×Nat)):=
 (AR (p0.2.1+1)).bind λO=>
 Option.bind (
  if O<=((p0.1).length:Int) then(
   (AR (O - 1)).bind λU=>
   (ix p0.1 (U)).bind λV=>
   some (((((Cd O)*11400714819323198485)%2^64) ^^^ (((Cd V)*14029467366897019727)%2^64))%2^64)
  ) else(
   some (((Cd O)*11400714819323198485)%2^64)
  )
 ) λK=>
 some (((((((((((p0.2.2 ^^^ K)%2^64)*18397679294719823053)%2^64) ^^^ (((((p0.2.2 ^^^ K)%2^64)*18397679294719823053)%2^64)>>>33))%2^64)*14181476777654086739)%2^64) ^^^ (((((((((p0.2.2 ^^^ K)%2^64)*18397679294719823053)%2^64) ^^^ (((((p0.2.2 ^^^ K)%2^64)*18397679294719823053)%2^64)>>>33))%2^64)*14181476777654086739)%2^64)>>>29))%2^64)>>>11,(p0.1,O,(((((p0.2.2 ^^^ K)%2^64)*18397679294719823053)%2^64) ^^^ (((((p0.2.2 ^^^ K)%2^64)*18397679294719823053)%2^64)>>>33))%2^64))
variable{dep:Nat}{p0:(List Int)×Int×Nat}
theorem Xc{J:Judge Tryz.prog}{E:LH}(ag:AK rI E a1 c2 (p0.1)){fuel:Nat}{r:Nat×((List Int)×Int×Nat)}(ah:f83 fuel p0=some r):Ax J 33 [.pointer (some ⟨dep,0,none⟩)] E [(dep,.cells #[.slice a1 (p0.1).length c2,iV p0.2.1,.int .u64 ((p0.2.2:Nat):Int)] 53 (0,0))] (λw E' B'=>∃(ai:Option Addr) (aj:Nat),w=.int .u64 ((r.1:Nat):Int)/\B'=[(dep,.cells #[.slice ai (r.2.1).length aj,iV r.2.2.1,.int .u64 ((r.2.2.2:Nat):Int)] 53 (0,0))]/\AK rI E' ai aj (r.2.1)):=by
 refine Ax.enter Tryz.func33 rfl (d4 rfl) λQ aH cs H ak au=>?_;unfold f83 at ah;refine JL.seq (JL.region ?_);refine Ac (v:=.int .u64 ((0:Nat):Int)) rfl rfl rfl (λρ h=>Yl.assign (h _ _ rfl)) (JL.done ?_);refine JL.seq (JL.region ?_);refine Ac (v:=.pointer (some ⟨dep,0,none⟩)) rfl rfl rfl (λρ h=>Yl.move (h _ _ rfl)) (Ac (v:=.pointer (some ⟨dep,0,none⟩)) rfl rfl rfl (λρ h=>Yl.nilCheck (h _ _ rfl)) ?_);refine Ac (v:=.pointer (some ⟨dep,1,none⟩)) rfl rfl rfl (λρ h=>Aq (a:=⟨dep,0,none⟩) 0 1 Tryz.underlying53 Aw rfl rfl rfl (h _ _ rfl)) (Ac (v:=iV p0.2.1) rfl rfl rfl (λρ h=>Yl.load AD (h _ _ rfl) (CB (j:=0) (off:=1) ak rfl rfl)) ?_);obtain⟨V,av,aw⟩:=bind_some ah;refine Ac (v:=iV V) rfl rfl rfl (λρ h=>BH (h _ _ rfl) (h _ _ rfl) av) (Ac (v:=.pointer (some ⟨dep,0,none⟩)) rfl rfl rfl (λρ h=>Yl.nilCheck (h _ _ rfl)) ?_);refine Ac (v:=.pointer (some ⟨dep,1,none⟩)) rfl rfl rfl (λρ h=>Aq (a:=⟨dep,0,none⟩) 0 1 Tryz.underlying53 Aw rfl rfl rfl (h _ _ rfl)) (JS.store (v:=iV V) (off:=1) 0 rfl rfl rfl ak rfl rfl Aw (by simp[Value.cells,A3]) rfl (d4 rfl) λY=>?_);refine JL.done (JL.seq ?_);refine JL.region (Ac (v:=.pointer (some ⟨dep,0,none⟩)) rfl rfl rfl (λρ h=>Yl.move (h _ _ rfl)) ?_);refine Ac (v:=.pointer (some ⟨dep,0,none⟩)) rfl rfl rfl (λρ h=>Yl.nilCheck (h _ _ rfl)) (Ac (v:=.pointer (some ⟨dep,1,none⟩)) rfl rfl rfl (λρ h=>Aq (a:=⟨dep,0,none⟩) 0 1 Tryz.underlying53 Aw rfl rfl rfl (h _ _ rfl)) ?_);refine Ac (v:=iV V) rfl rfl rfl (λρ h=>Yl.load AD (h _ _ rfl) (CB (j:=0) (off:=1) Y rfl rfl)) (Ac (v:=.int .u64 ((Cd V:Nat):Int)) rfl rfl rfl (λρ h=>Yl.Cd Tryz.underlying3 Tryz.underlying51 (h _ _ rfl)) ?_);refine Ac (v:=.int .u64 ((((Cd V)*11400714819323198485)%2^64:Nat):Int)) rfl rfl rfl (λρ h=>L5 (h _ _ rfl) (h _ _ rfl)) (Ac (v:=.int .u64 ((((Cd V)*11400714819323198485)%2^64:Nat):Int)) rfl rfl rfl (λρ h=>Yl.assign (h _ _ rfl)) ?_);refine JL.done (JL.seq ?_);refine JL.seq (HX 9 [dep] ⟨⟨0,_,rfl⟩,trivial⟩ Y mixed rfl (by decide+kernel) λU=>?_);refine JG.val (v:=.pointer (some ⟨dep,0,none⟩)) 0 rfl U (by decide+kernel) rfl rfl rfl (λρ h s' O=>Yl.move (h _ _ rfl)) (JG.val (v:=.pointer (some ⟨dep,0,none⟩)) 1 rfl U (by decide+kernel) rfl rfl rfl (λρ h s' O=>Yl.nilCheck (h _ _ rfl)) ?_);refine JG.val (v:=.pointer (some ⟨dep,1,none⟩)) 2 rfl U (by decide+kernel) rfl rfl rfl (λρ h s' O=>Aq (a:=⟨dep,0,none⟩) 0 1 Tryz.underlying53 Aw rfl rfl rfl (h _ _ rfl)) (JG.val (v:=iV V) 3 rfl U (by decide+kernel) rfl rfl rfl (λρ h s' O=>Yl.load AD (h _ _ rfl) (Dc (o:=1) 0 Y rfl (by simp[AW]) O rfl)) ?_);refine JG.val (v:=.pointer (some ⟨dep,0,none⟩)) 4 rfl U (by decide+kernel) rfl rfl rfl (λρ h s' O=>Yl.move (h _ _ rfl)) (JG.val (v:=.pointer (some ⟨dep,0,none⟩)) 5 rfl U (by decide+kernel) rfl rfl rfl (λρ h s' O=>Yl.nilCheck (h _ _ rfl)) ?_);refine JG.val (v:=.pointer (some ⟨dep,0,none⟩)) 6 rfl U (by decide+kernel) rfl rfl rfl (λρ h s' O=>Aq (a:=⟨dep,0,none⟩) 0 0 Tryz.underlying53 Ch rfl rfl rfl (h _ _ rfl)) (JG.val (v:=.slice a1 (p0.1).length c2) 7 rfl U (by decide+kernel) rfl rfl rfl (λρ h s' O=>Yl.load CV (h _ _ rfl) (Dc (o:=0) 0 Y rfl (by simp[AW]) O rfl)) ?_);refine JG.val (v:=iV ((p0.1).length:Int)) 8 rfl U (by decide+kernel) rfl rfl rfl (λρ h s' O=>Yl.len rfl Tryz.underlying22 (h _ _ rfl)) (AL.leaf (tail:=[9]) (by decide+kernel) (λt=>Bb (by decide+kernel) Cn t) ?_);refine Ac (v:=.bool (decide (V<=((p0.1).length:Int)))) rfl rfl rfl (λρ h=>Yl.leq (h _ _ rfl) (h _ _ rfl)) (JL.done ?_);let⟨K,al,ay⟩:=bind_some aw;refine Bj (λL s=>∃(aa:LH),L=[(0,.pointer (some ⟨dep,0,none⟩)),(3,.int .u64 ((K:Nat):Int))]/\s=Ae aa H [[(dep,.cells #[.slice a1 (p0.1).length c2,iV V,.int .u64 ((p0.2.2:Nat):Int)] 53 (0,0))]]/\Le E aa/\Ak aa H [[(dep,.cells #[.slice a1 (p0.1).length c2,iV V,.int .u64 ((p0.2.2:Nat):Int)] 53 (0,0))]]) ?_ ?_;rintro _ _ ⟨aa,rfl,rfl,am,an⟩;refine JL.seq (JL.region ?_);refine Ac (v:=.pointer (some ⟨dep,0,none⟩)) rfl rfl rfl (λρ h=>Yl.move (h _ _ rfl)) (Ac (v:=.pointer (some ⟨dep,0,none⟩)) rfl rfl rfl (λρ h=>Yl.move (h _ _ rfl)) ?_);refine Ac (v:=.pointer (some ⟨dep,0,none⟩)) rfl rfl rfl (λρ h=>Yl.nilCheck (h _ _ rfl)) (Ac (v:=.pointer (some ⟨dep,2,none⟩)) rfl rfl rfl (λρ h=>Aq (a:=⟨dep,0,none⟩) 0 2 Tryz.underlying53 HS rfl rfl rfl (h _ _ rfl)) ?_);refine Ac (v:=.int .u64 ((p0.2.2:Nat):Int)) rfl rfl rfl (λρ h=>Yl.load Lb (h _ _ rfl) (CB (j:=0) (off:=2) an rfl rfl)) (Ac (v:=.int .u64 ((K:Nat):Int)) rfl rfl rfl (λρ h=>Yl.move (h _ _ rfl)) ?_);refine Ac (v:=.int .u64 (((p0.2.2 ^^^ K)%2^64:Nat):Int)) rfl rfl rfl (λρ h=>L4 (h _ _ rfl) (h _ _ rfl)) (Ac (v:=.int .u64 (((((p0.2.2 ^^^ K)%2^64)*18397679294719823053)%2^64:Nat):Int)) rfl rfl rfl (λρ h=>L5 (h _ _ rfl) (h _ _ rfl)) ?_);refine Ac (v:=.pointer (some ⟨dep,0,none⟩)) rfl rfl rfl (λρ h=>Yl.nilCheck (h _ _ rfl)) (Ac (v:=.pointer (some ⟨dep,2,none⟩)) rfl rfl rfl (λρ h=>Aq (a:=⟨dep,0,none⟩) 0 2 Tryz.underlying53 HS rfl rfl rfl (h _ _ rfl)) ?_);refine JS.store (v:=.int .u64 (((((p0.2.2 ^^^ K)%2^64)*18397679294719823053)%2^64:Nat):Int)) (off:=2) 0 rfl rfl rfl an rfl rfl HS (by simp[Value.cells,A3]) rfl (d4 rfl) λab=>JL.done (JL.seq ?_);refine HX 11 [dep] ⟨⟨0,_,rfl⟩,trivial⟩ ab mixed rfl (by decide+kernel) λU=>JG.val (v:=.pointer (some ⟨dep,0,none⟩)) 0 rfl U (by decide+kernel) rfl rfl rfl (λρ h s' O=>Yl.move (h _ _ rfl)) (JG.val (v:=.pointer (some ⟨dep,0,none⟩)) 1 rfl U (by decide+kernel) rfl rfl rfl (λρ h s' O=>Yl.move (h _ _ rfl)) ?_);refine JG.val (v:=.pointer (some ⟨dep,0,none⟩)) 2 rfl U (by decide+kernel) rfl rfl rfl (λρ h s' O=>Yl.nilCheck (h _ _ rfl)) (JG.val (v:=.pointer (some ⟨dep,2,none⟩)) 3 rfl U (by decide+kernel) rfl rfl rfl (λρ h s' O=>Aq (a:=⟨dep,0,none⟩) 0 2 Tryz.underlying53 HS rfl rfl rfl (h _ _ rfl)) ?_);refine JG.val (v:=.int .u64 (((((p0.2.2 ^^^ K)%2^64)*18397679294719823053)%2^64:Nat):Int)) 4 rfl U (by decide+kernel) rfl rfl rfl (λρ h s' O=>Yl.load Lb (h _ _ rfl) (Dc (o:=2) 0 ab rfl (by simp[AW]) O rfl)) (JG.val (v:=.pointer (some ⟨dep,0,none⟩)) 5 rfl U (by decide+kernel) rfl rfl rfl (λρ h s' O=>Yl.move (h _ _ rfl)) ?_);refine JG.val (v:=.pointer (some ⟨dep,0,none⟩)) 6 rfl U (by decide+kernel) rfl rfl rfl (λρ h s' O=>Yl.nilCheck (h _ _ rfl)) (JG.val (v:=.pointer (some ⟨dep,2,none⟩)) 7 rfl U (by decide+kernel) rfl rfl rfl (λρ h s' O=>Aq (a:=⟨dep,0,none⟩) 0 2 Tryz.underlying53 HS rfl rfl rfl (h _ _ rfl)) ?_);refine JG.val (v:=.int .u64 (((((p0.2.2 ^^^ K)%2^64)*18397679294719823053)%2^64:Nat):Int)) 8 rfl U (by decide+kernel) rfl rfl rfl (λρ h s' O=>Yl.load Lb (h _ _ rfl) (Dc (o:=2) 0 ab rfl (by simp[AW]) O rfl)) (JG.val (v:=.int .u64 ((((((p0.2.2 ^^^ K)%2^64)*18397679294719823053)%2^64)>>>33:Nat):Int)) 9 rfl U (by decide+kernel) rfl rfl rfl (λρ h s' O=>Jh 33 (h _ _ rfl) (h _ _ rfl) (by decide)) ?_);refine JG.val (v:=.int .u64 (((((((p0.2.2 ^^^ K)%2^64)*18397679294719823053)%2^64) ^^^ (((((p0.2.2 ^^^ K)%2^64)*18397679294719823053)%2^64)>>>33))%2^64:Nat):Int)) 10 rfl U (by decide+kernel) rfl rfl rfl (λρ h s' O=>L4 (h _ _ rfl) (h _ _ rfl)) (AL.leaf (tail:=[11,12,13]) (by decide+kernel) (λt=>Bb (by decide+kernel) (Bb (by decide+kernel) (Bb (by decide+kernel) Cn)) t) ?_);refine Ac (v:=.pointer (some ⟨dep,0,none⟩)) rfl rfl rfl (λρ h=>Yl.nilCheck (h _ _ rfl)) (Ac (v:=.pointer (some ⟨dep,2,none⟩)) rfl rfl rfl (λρ h=>Aq (a:=⟨dep,0,none⟩) 0 2 Tryz.underlying53 HS rfl rfl rfl (h _ _ rfl)) ?_);refine JS.store (v:=.int .u64 (((((((p0.2.2 ^^^ K)%2^64)*18397679294719823053)%2^64) ^^^ (((((p0.2.2 ^^^ K)%2^64)*18397679294719823053)%2^64)>>>33))%2^64:Nat):Int)) (off:=2) 0 rfl rfl rfl ab rfl rfl HS (by simp[Value.cells,A3]) rfl (d4 rfl) λaz=>AT (S':=[[(dep,.cells #[.slice a1 (p0.1).length c2,iV V,.int .u64 (((((((p0.2.2 ^^^ K)%2^64)*18397679294719823053)%2^64) ^^^ (((((p0.2.2 ^^^ K)%2^64)*18397679294719823053)%2^64)>>>33))%2^64:Nat):Int)] 53 (0,0))]]) rfl az λao=>JL.done (JL.seq ?_);refine JL.region (Ac (v:=.pointer (some ⟨dep,0,none⟩)) rfl rfl rfl (λρ h=>Yl.move (h _ _ rfl)) ?_);refine Ac (v:=.pointer (some ⟨dep,0,none⟩)) rfl rfl rfl (λρ h=>Yl.nilCheck (h _ _ rfl)) (Ac (v:=.pointer (some ⟨dep,2,none⟩)) rfl rfl rfl (λρ h=>Aq (a:=⟨dep,0,none⟩) 0 2 Tryz.underlying53 HS rfl rfl rfl (h _ _ rfl)) ?_);refine Ac (v:=.int .u64 (((((((p0.2.2 ^^^ K)%2^64)*18397679294719823053)%2^64) ^^^ (((((p0.2.2 ^^^ K)%2^64)*18397679294719823053)%2^64)>>>33))%2^64:Nat):Int)) rfl rfl rfl (λρ h=>Yl.load Lb (h _ _ rfl) (CB (j:=0) (off:=2) ao rfl rfl)) (Ac (v:=.int .u64 (((((((((p0.2.2 ^^^ K)%2^64)*18397679294719823053)%2^64) ^^^ (((((p0.2.2 ^^^ K)%2^64)*18397679294719823053)%2^64)>>>33))%2^64)*14181476777654086739)%2^64:Nat):Int)) rfl rfl rfl (λρ h=>L5 (h _ _ rfl) (h _ _ rfl)) ?_);refine Ac (v:=.int .u64 (((((((((p0.2.2 ^^^ K)%2^64)*18397679294719823053)%2^64) ^^^ (((((p0.2.2 ^^^ K)%2^64)*18397679294719823053)%2^64)>>>33))%2^64)*14181476777654086739)%2^64:Nat):Int)) rfl rfl rfl (λρ h=>Yl.assign (h _ _ rfl)) (JL.done ?_);refine JL.seq (JL.region ?_);refine Ac (v:=.int .u64 (((((((((p0.2.2 ^^^ K)%2^64)*18397679294719823053)%2^64) ^^^ (((((p0.2.2 ^^^ K)%2^64)*18397679294719823053)%2^64)>>>33))%2^64)*14181476777654086739)%2^64:Nat):Int)) rfl rfl rfl (λρ h=>Yl.move (h _ _ rfl)) (Ac (v:=.int .u64 (((((((((p0.2.2 ^^^ K)%2^64)*18397679294719823053)%2^64) ^^^ (((((p0.2.2 ^^^ K)%2^64)*18397679294719823053)%2^64)>>>33))%2^64)*14181476777654086739)%2^64:Nat):Int)) rfl rfl rfl (λρ h=>Yl.move (h _ _ rfl)) ?_);refine Ac (v:=.int .u64 ((((((((((p0.2.2 ^^^ K)%2^64)*18397679294719823053)%2^64) ^^^ (((((p0.2.2 ^^^ K)%2^64)*18397679294719823053)%2^64)>>>33))%2^64)*14181476777654086739)%2^64)>>>29:Nat):Int)) rfl rfl rfl (λρ h=>Jh 29 (h _ _ rfl) (h _ _ rfl) (by decide)) (Ac (v:=.int .u64 (((((((((((p0.2.2 ^^^ K)%2^64)*18397679294719823053)%2^64) ^^^ (((((p0.2.2 ^^^ K)%2^64)*18397679294719823053)%2^64)>>>33))%2^64)*14181476777654086739)%2^64) ^^^ (((((((((p0.2.2 ^^^ K)%2^64)*18397679294719823053)%2^64) ^^^ (((((p0.2.2 ^^^ K)%2^64)*18397679294719823053)%2^64)>>>33))%2^64)*14181476777654086739)%2^64)>>>29))%2^64:Nat):Int)) rfl rfl rfl (λρ h=>L4 (h _ _ rfl) (h _ _ rfl)) ?_);refine Ac (v:=.int .u64 ((((((((((((p0.2.2 ^^^ K)%2^64)*18397679294719823053)%2^64) ^^^ (((((p0.2.2 ^^^ K)%2^64)*18397679294719823053)%2^64)>>>33))%2^64)*14181476777654086739)%2^64) ^^^ (((((((((p0.2.2 ^^^ K)%2^64)*18397679294719823053)%2^64) ^^^ (((((p0.2.2 ^^^ K)%2^64)*18397679294719823053)%2^64)>>>33))%2^64)*14181476777654086739)%2^64)>>>29))%2^64)>>>11:Nat):Int)) rfl rfl rfl (λρ h=>Jh 11 (h _ _ rfl) (h _ _ rfl) (by decide)) (Ac (v:=.int .u64 ((((((((((((p0.2.2 ^^^ K)%2^64)*18397679294719823053)%2^64) ^^^ (((((p0.2.2 ^^^ K)%2^64)*18397679294719823053)%2^64)>>>33))%2^64)*14181476777654086739)%2^64) ^^^ (((((((((p0.2.2 ^^^ K)%2^64)*18397679294719823053)%2^64) ^^^ (((((p0.2.2 ^^^ K)%2^64)*18397679294719823053)%2^64)>>>33))%2^64)*14181476777654086739)%2^64)>>>29))%2^64)>>>11:Nat):Int)) rfl rfl rfl (λρ h=>Yl.assign (h _ _ rfl)) ?_);refine JL.done ?_;have aI:r=(((((((((((p0.2.2 ^^^ K)%2^64)*18397679294719823053)%2^64) ^^^ (((((p0.2.2 ^^^ K)%2^64)*18397679294719823053)%2^64)>>>33))%2^64)*14181476777654086739)%2^64) ^^^ (((((((((p0.2.2 ^^^ K)%2^64)*18397679294719823053)%2^64) ^^^ (((((p0.2.2 ^^^ K)%2^64)*18397679294719823053)%2^64)>>>33))%2^64)*14181476777654086739)%2^64)>>>29))%2^64)>>>11,(p0.1,V,(((((p0.2.2 ^^^ K)%2^64)*18397679294719823053)%2^64) ^^^ (((((p0.2.2 ^^^ K)%2^64)*18397679294719823053)%2^64)>>>33))%2^64)):=(d0 ay).symm;subst r;exact JL.ret (v:=.int .u64 ((((((((((((p0.2.2 ^^^ K)%2^64)*18397679294719823053)%2^64) ^^^ (((((p0.2.2 ^^^ K)%2^64)*18397679294719823053)%2^64)>>>33))%2^64)*14181476777654086739)%2^64) ^^^ (((((((((p0.2.2 ^^^ K)%2^64)*18397679294719823053)%2^64) ^^^ (((((p0.2.2 ^^^ K)%2^64)*18397679294719823053)%2^64)>>>33))%2^64)*14181476777654086739)%2^64)>>>29))%2^64)>>>11:Nat):Int)) rfl rfl (Ay.list Tryz.func33 rfl (vs:=[.int .u64 ((((((((((((p0.2.2 ^^^ K)%2^64)*18397679294719823053)%2^64) ^^^ (((((p0.2.2 ^^^ K)%2^64)*18397679294719823053)%2^64)>>>33))%2^64)*14181476777654086739)%2^64) ^^^ (((((((((p0.2.2 ^^^ K)%2^64)*18397679294719823053)%2^64) ^^^ (((((p0.2.2 ^^^ K)%2^64)*18397679294719823053)%2^64)>>>33))%2^64)*14181476777654086739)%2^64)>>>29))%2^64)>>>11:Nat):Int)]) ⟨rfl,trivial⟩) (au _ _ _ _ am rfl ⟨a1,c2,rfl,rfl,(ag.Ag am)⟩ ao);intro ap;refine AU (p:=V<=((p0.1).length:Int)) rfl (λac=>?_) (λac=>?_);have aq:=al;rw[d5 ac] at aq;refine HX 14 [dep] ⟨⟨0,_,rfl⟩,trivial⟩ Y mixed rfl (by decide+kernel) λU=>?_;refine JG.val (v:=.int .u64 ((((Cd V)*11400714819323198485)%2^64:Nat):Int)) 0 rfl U (by decide+kernel) rfl rfl rfl (λρ h s' O=>Yl.move (h _ _ rfl)) ?_;refine JG.val (v:=.pointer (some ⟨dep,0,none⟩)) 1 rfl U (by decide+kernel) rfl rfl rfl (λρ h s' O=>Yl.move (h _ _ rfl)) ?_;refine JG.val (v:=.pointer (some ⟨dep,0,none⟩)) 2 rfl U (by decide+kernel) rfl rfl rfl (λρ h s' O=>Yl.nilCheck (h _ _ rfl)) ?_;refine JG.val (v:=.pointer (some ⟨dep,0,none⟩)) 3 rfl U (by decide+kernel) rfl rfl rfl (λρ h s' O=>Aq (a:=⟨dep,0,none⟩) 0 0 Tryz.underlying53 Ch rfl rfl rfl (h _ _ rfl)) ?_;refine JG.val (v:=.slice a1 (p0.1).length c2) 4 rfl U (by decide+kernel) rfl rfl rfl (λρ h s' O=>Yl.load CV (h _ _ rfl) (Dc (o:=0) 0 Y rfl (by simp[AW]) O rfl)) ?_;refine JG.val (v:=.pointer (some ⟨dep,0,none⟩)) 5 rfl U (by decide+kernel) rfl rfl rfl (λρ h s' O=>Yl.move (h _ _ rfl)) ?_;refine JG.val (v:=.pointer (some ⟨dep,0,none⟩)) 6 rfl U (by decide+kernel) rfl rfl rfl (λρ h s' O=>Yl.nilCheck (h _ _ rfl)) ?_;refine JG.val (v:=.pointer (some ⟨dep,1,none⟩)) 7 rfl U (by decide+kernel) rfl rfl rfl (λρ h s' O=>Aq (a:=⟨dep,0,none⟩) 0 1 Tryz.underlying53 Aw rfl rfl rfl (h _ _ rfl)) ?_;refine JG.val (v:=iV V) 8 rfl U (by decide+kernel) rfl rfl rfl (λρ h s' O=>Yl.load AD (h _ _ rfl) (Dc (o:=1) 0 Y rfl (by simp[AW]) O rfl)) ?_;let⟨aA,aB,aC⟩:=bind_some aq;refine JG.val (v:=iV aA) 9 rfl U (by decide+kernel) rfl rfl rfl (λρ h s' O=>BP (h _ _ rfl) (h _ _ rfl) aB) ?_;let⟨Z,aD,aE⟩:=bind_some aC;refine G2 10 ag aD rfl U (by decide+kernel) rfl rfl rfl rfl rfl Tryz.underlying22 Aw ?_;rintro aF aG _ rfl ae;replace ae:At E aF aG [iV Z]:=ae;refine JG.val (v:=iV Z) 11 rfl U (by decide+kernel) rfl rfl rfl (λρ h s' O=>Yl.load AD (h _ _ rfl) (At.BS (j:=0) ae (Mt Y O ⟨⟨0,_,rfl⟩,trivial⟩) rfl)) ?_;refine JG.val (v:=.int .u64 ((Cd Z:Nat):Int)) 12 rfl U (by decide+kernel) rfl rfl rfl (λρ h s' O=>Yl.Cd Tryz.underlying3 Tryz.underlying51 (h _ _ rfl)) ?_;refine JG.val (v:=.int .u64 ((((Cd Z)*14029467366897019727)%2^64:Nat):Int)) 13 rfl U (by decide+kernel) rfl rfl rfl (λρ h s' O=>L5 (h _ _ rfl) (h _ _ rfl)) ?_;refine AL.leaf (tail:=[14,15]) (by decide+kernel) (λt=>Bb (by decide+kernel) (Bb (by decide+kernel) Cn) t) ?_;refine Ac (v:=.int .u64 ((((((Cd V)*11400714819323198485)%2^64) ^^^ (((Cd Z)*14029467366897019727)%2^64))%2^64:Nat):Int)) rfl rfl rfl (λρ h=>L4 (h _ _ rfl) (h _ _ rfl)) ?_;refine Ac (v:=.int .u64 ((((((Cd V)*11400714819323198485)%2^64) ^^^ (((Cd Z)*14029467366897019727)%2^64))%2^64:Nat):Int)) rfl rfl rfl (λρ h=>Yl.assign (h _ _ rfl)) ?_;refine JL.done ?_;have aJ:K=(((((Cd V)*11400714819323198485)%2^64) ^^^ (((Cd Z)*14029467366897019727)%2^64))%2^64):=(d0 aE).symm;subst K;refine Ap ?_ (ap _ _ ⟨E,rfl,rfl,(Le.refl _),Y⟩);exact⟨rfl,rfl,trivial⟩;have ar:=al;rw[d7 ac] at ar;refine JL.skip ?_;have aK:K=(((Cd V)*11400714819323198485)%2^64):=(d0 ar).symm;subst K;refine Ap ?_ (ap _ _ ⟨E,rfl,rfl,(Le.refl _),Y⟩);exact⟨rfl,rfl,trivial⟩
def f36(fuel:Nat)(p0:(List Int)×Int×Nat)(p1:Int):Option (Int×((List Int)×Int×Nat)):=
 (f83 fuel p0).bind λK=>
 if p1<1 then(
  some (0,K.2)
 ) else(
  (MA (K.1) ((Cd p1+1)%2^64)).bind λO=>
  some (HO O,K.2)
 )
variable{p1:Int}{r:Int×((List Int)×Int×Nat)}
theorem Ef{J:Judge Tryz.prog}{E:LH}(al:AK rI E a1 c2 (p0.1)){fuel:Nat}(V:f36 fuel p0 p1=some r):Ax J 14 [.pointer (some ⟨dep,0,none⟩),iV p1] E [(dep,.cells #[.slice a1 (p0.1).length c2,iV p0.2.1,.int .u64 ((p0.2.2:Nat):Int)] 53 (0,0))] (λw E' B'=>∃(Y:Option Addr) (Z:Nat),w=iV r.1/\B'=[(dep,.cells #[.slice Y (r.2.1).length Z,iV r.2.2.1,.int .u64 ((r.2.2.2:Nat):Int)] 53 (0,0))]/\AK rI E' Y Z (r.2.1)):=by
 refine Ax.enter Tryz.func14 rfl (d4 rfl) λQ aq cs H am aa=>?_;unfold f36 at V;refine JL.seq (JL.region ?_);refine Ac (v:=iV 0) rfl rfl rfl (λρ h=>Yl.assign (h _ _ rfl)) (JL.done ?_);refine JL.seq (JL.region ?_);refine Ac (v:=.pointer (some ⟨dep,0,none⟩)) rfl rfl rfl (λρ h=>Yl.move (h _ _ rfl)) ?_;let⟨O,an,ab⟩:=bind_some V;refine DI (vs:=[.pointer (some ⟨dep,0,none⟩)]) 0 (Xc al an) rfl rfl rfl (A4 Tryz.func33 rfl) rfl am rfl ?_;rintro _ ar _ ac ⟨ae,ag,rfl,rfl,ah⟩ ai;refine Ac (v:=.int .u64 ((O.1:Nat):Int)) rfl rfl rfl (λρ h=>Yl.assign (h _ _ rfl)) (JL.done ?_);refine JL.seq (JL.seq ?_);refine JL.region (Ac (v:=iV p1) rfl rfl rfl (λρ h=>Yl.move (h _ _ rfl)) ?_);refine Ac (v:=.bool (decide (p1<1))) rfl rfl rfl (λρ h=>Yl.lss (h _ _ rfl) (h _ _ rfl)) (JL.done ?_);refine AU (p:=p1<1) rfl (λU=>?_) (λU=>?_);have aj:=ab;rw[d5 U] at aj;refine JL.seq ?_;refine JL.region ?_;refine Ac (v:=iV 0) rfl rfl rfl (λρ h=>Yl.assign (h _ _ rfl)) ?_;refine JL.done ?_;have au:r=(0,O.2):=(d0 aj).symm;subst r;refine JL.ret (v:=iV 0) rfl rfl (Ay.list Tryz.func14 rfl (vs:=[iV 0]) ⟨rfl,trivial⟩) ?_;exact aa _ _ _ _ ac rfl ⟨ae,ag,rfl,rfl,ah⟩ ai;have ak:=ab;rw[d7 U] at ak;refine JL.skip ?_;refine JL.seq ?_;refine JL.region ?_;refine Ac (v:=.int .u64 ((O.1:Nat):Int)) rfl rfl rfl (λρ h=>Yl.move (h _ _ rfl)) ?_;refine Ac (v:=iV p1) rfl rfl rfl (λρ h=>Yl.move (h _ _ rfl)) ?_;refine Ac (v:=.int .u64 ((Cd p1:Nat):Int)) rfl rfl rfl (λρ h=>Yl.Cd Tryz.underlying3 Tryz.underlying51 (h _ _ rfl)) ?_;refine Ac (v:=.int .u64 (((Cd p1+1)%2^64:Nat):Int)) rfl rfl rfl (λρ h=>U0 (h _ _ rfl) (h _ _ rfl)) ?_;let⟨K,ao,ap⟩:=bind_some ak;refine Ac (v:=.int .u64 ((K:Nat):Int)) rfl rfl rfl (λρ h=>Ti (h _ _ rfl) (h _ _ rfl) ao) ?_;refine Ac (v:=iV (HO K)) rfl rfl rfl (λρ h=>Wt Tryz.underlying51 Tryz.underlying3 (h _ _ rfl)) ?_;refine Ac (v:=iV (HO K)) rfl rfl rfl (λρ h=>Yl.assign (h _ _ rfl)) ?_;refine JL.done ?_;have av:r=(HO K,O.2):=(d0 ap).symm;subst r;refine JL.ret (v:=iV (HO K)) rfl rfl (Ay.list Tryz.func14 rfl (vs:=[iV (HO K)]) ⟨rfl,trivial⟩) ?_;exact aa _ _ _ _ ac rfl ⟨ae,ag,rfl,rfl,ah⟩ ai
def f37(fuel:Nat)(p0:(List Int)×Int×Nat)(p1:Int)(p2:Int):Option (Int×((List Int)×Int×Nat)):=
 (AR (p2 - p1)).bind λO=>
 (f36 fuel p0 O).bind λK=>
 (AR (p1+K.1)).bind λU=>
 some (U,K.2)
variable{m':Int}
theorem Mx{J:Judge Tryz.prog}{E:LH}(Z:AK rI E a1 c2 (p0.1)){fuel:Nat}(O:f37 fuel p0 p1 m'=some r):Ax J 13 [.pointer (some ⟨dep,0,none⟩),iV p1,iV m'] E [(dep,.cells #[.slice a1 (p0.1).length c2,iV p0.2.1,.int .u64 ((p0.2.2:Nat):Int)] 53 (0,0))] (λw E' B'=>∃(U:Option Addr) (V:Nat),w=iV r.1/\B'=[(dep,.cells #[.slice U (r.2.1).length V,iV r.2.2.1,.int .u64 ((r.2.2.2:Nat):Int)] 53 (0,0))]/\AK rI E' U V (r.2.1)):=by
 refine Ax.enter Tryz.func13 rfl (d4 rfl) λQ aq cs H aa ab=>?_;unfold f37 at O;refine JL.seq (JL.region ?_);refine Ac (v:=iV 0) rfl rfl rfl (λρ h=>Yl.assign (h _ _ rfl)) (JL.done ?_);refine JL.seq (JL.region ?_);refine Ac (v:=iV p1) rfl rfl rfl (λρ h=>Yl.move (h _ _ rfl)) (Ac (v:=.pointer (some ⟨dep,0,none⟩)) rfl rfl rfl (λρ h=>Yl.move (h _ _ rfl)) ?_);refine Ac (v:=iV m') rfl rfl rfl (λρ h=>Yl.move (h _ _ rfl)) (Ac (v:=iV p1) rfl rfl rfl (λρ h=>Yl.move (h _ _ rfl)) ?_);let⟨Y,ac,ae⟩:=bind_some O;refine Ac (v:=iV Y) rfl rfl rfl (λρ h=>BP (h _ _ rfl) (h _ _ rfl) ac) ?_;let⟨ag,ah,ai⟩:=bind_some ae;refine DI (vs:=[.pointer (some ⟨dep,0,none⟩),iV Y]) 0 (Ef Z ah) rfl rfl rfl Ed rfl aa rfl ?_;rintro _ ar _ aj ⟨ak,al,rfl,rfl,am⟩ an;let⟨K,ao,ap⟩:=bind_some ai;refine Ac (v:=iV K) rfl rfl rfl (λρ h=>BH (h _ _ rfl) (h _ _ rfl) ao) (Ac (v:=iV K) rfl rfl rfl (λρ h=>Yl.assign (h _ _ rfl)) ?_);refine JL.done ?_;have au:r=(K,ag.2):=(d0 ap).symm;subst r;exact JL.ret (v:=iV K) rfl rfl (Ay.list Tryz.func13 rfl (vs:=[iV K]) ⟨rfl,trivial⟩) (ab _ _ _ _ aj rfl ⟨ak,al,rfl,rfl,am⟩ an)
def f32(fuel:Nat)(p0:(List Int)×Int×Nat)(p1:Int):Option (Bool×((List Int)×Int×Nat)):=
 (AR (p1 - 1)).bind λO=>
 (f36 fuel p0 O).bind λK=>
 some (decide (K.1=0),K.2)
theorem WW{J:Judge Tryz.prog}{E:LH}(Z:AK rI E a1 c2 (p0.1)){fuel:Nat}{r:Bool×((List Int)×Int×Nat)}(O:f32 fuel p0 p1=some r):Ax J 17 [.pointer (some ⟨dep,0,none⟩),iV p1] E [(dep,.cells #[.slice a1 (p0.1).length c2,iV p0.2.1,.int .u64 ((p0.2.2:Nat):Int)] 53 (0,0))] (λw E' B'=>∃(U:Option Addr) (V:Nat),w=.bool r.1/\B'=[(dep,.cells #[.slice U (r.2.1).length V,iV r.2.2.1,.int .u64 ((r.2.2.2:Nat):Int)] 53 (0,0))]/\AK rI E' U V (r.2.1)):=by
 refine Ax.enter Tryz.func17 rfl (d4 rfl) λQ an cs H aa ab=>?_;unfold f32 at O;refine JL.seq (JL.region ?_);refine Ac (v:=.bool false) rfl rfl rfl (λρ h=>Yl.assign (h _ _ rfl)) (JL.done ?_);refine JL.seq (JL.region ?_);refine Ac (v:=.pointer (some ⟨dep,0,none⟩)) rfl rfl rfl (λρ h=>Yl.move (h _ _ rfl)) (Ac (v:=iV p1) rfl rfl rfl (λρ h=>Yl.move (h _ _ rfl)) ?_);let⟨Y,ac,ae⟩:=bind_some O;refine Ac (v:=iV Y) rfl rfl rfl (λρ h=>BP (h _ _ rfl) (h _ _ rfl) ac) ?_;let⟨K,ag,ah⟩:=bind_some ae;refine DI (vs:=[.pointer (some ⟨dep,0,none⟩),iV Y]) 0 (Ef Z ag) rfl rfl rfl Ed rfl aa rfl ?_;rintro _ ao _ ai ⟨aj,ak,rfl,rfl,al⟩ am;refine Ac (v:=.bool (decide (K.1=0))) rfl rfl rfl (λρ h=>Yl.eql (h _ _ rfl) (h _ _ rfl)) (Ac (v:=.bool (decide (K.1=0))) rfl rfl rfl (λρ h=>Yl.assign (h _ _ rfl)) ?_);refine JL.done ?_;have ap:r=(decide (K.1=0),K.2):=(d0 ah).symm;subst r;exact JL.ret (v:=.bool (decide (K.1=0))) rfl rfl (Ay.list Tryz.func17 rfl (vs:=[.bool (decide (K.1=0))]) ⟨rfl,trivial⟩) (ab _ _ _ _ ai rfl ⟨aj,ak,rfl,rfl,al⟩ am)
def f81(fuel:Nat)(p0:(List Int)×Int×Nat)(p1:List Int):Option (Int×((List Int)×Int×Nat)):=
 (AR (((p1).length:Int) - 1)).bind λO=>
 (f36 fuel p0 O).bind λK=>
 (ix p1 (K.1)).bind λU=>
 some (U,K.2)
theorem Ms{J:Judge Tryz.prog}{E:LH}{O:Option Addr}{U:Nat}{p1:List Int}(ae:AK rI E a1 c2 (p0.1))(ag:AK rI E O U (p1)){fuel:Nat}(Y:f81 fuel p0 p1=some r):Ax J 34 [.pointer (some ⟨dep,0,none⟩),.slice O (p1).length U] E [(dep,.cells #[.slice a1 (p0.1).length c2,iV p0.2.1,.int .u64 ((p0.2.2:Nat):Int)] 53 (0,0))] (λw E' B'=>∃(Z:Option Addr) (aa:Nat),w=iV r.1/\B'=[(dep,.cells #[.slice Z (r.2.1).length aa,iV r.2.2.1,.int .u64 ((r.2.2.2:Nat):Int)] 53 (0,0))]/\AK rI E' Z aa (r.2.1)):=by
 refine Ax.enter Tryz.func34 rfl (d4 rfl) λQ aA cs H ah ai=>?_;unfold f81 at Y;refine JL.seq (JL.region ?_);refine Ac (v:=iV 0) rfl rfl rfl (λρ h=>Yl.assign (h _ _ rfl)) (JL.done ?_);refine JL.seq (JL.region ?_);refine Ac (v:=.slice O (p1).length U) rfl rfl rfl (λρ h=>Yl.move (h _ _ rfl)) (Ac (v:=.pointer (some ⟨dep,0,none⟩)) rfl rfl rfl (λρ h=>Yl.move (h _ _ rfl)) ?_);refine Ac (v:=.slice O (p1).length U) rfl rfl rfl (λρ h=>Yl.move (h _ _ rfl)) (Ac (v:=iV ((p1).length:Int)) rfl rfl rfl (λρ h=>Yl.len rfl Tryz.underlying22 (h _ _ rfl)) ?_);let⟨ab,aj,ak⟩:=bind_some Y;refine Ac (v:=iV ab) rfl rfl rfl (λρ h=>BP (h _ _ rfl) (h _ _ rfl) aj) ?_;let⟨al,am,an⟩:=bind_some ak;refine DI (vs:=[.pointer (some ⟨dep,0,none⟩),iV ab]) 0 (Ef ae am) rfl rfl rfl Ed rfl ah rfl ?_;rintro _ ao _ ac ⟨ap,aq,rfl,rfl,ar⟩ au;let⟨K,av,aw⟩:=bind_some an;refine DL (ag.Ag ac) av rfl rfl rfl rfl rfl Tryz.underlying22 Aw ?_;rintro ay az _ rfl V;replace V:At ao ay az [iV K]:=V;refine Ac (v:=iV K) rfl rfl rfl (λρ h=>Yl.load AD (h _ _ rfl) (At.AN (j:=0) V rfl)) (Ac (v:=iV K) rfl rfl rfl (λρ h=>Yl.assign (h _ _ rfl)) ?_);refine JL.done ?_;have aB:r=(K,al.2):=(d0 aw).symm;subst r;exact JL.ret (v:=iV K) rfl rfl (Ay.list Tryz.func34 rfl (vs:=[iV K]) ⟨rfl,trivial⟩) (ai _ _ _ _ ac rfl ⟨ap,aq,rfl,rfl,ar⟩ au)
def MB(fuel:Nat)(p0:List Int):Option ((List Int)):=
 (G7 ([]:List Int) p0).bind λK=>
 some K
theorem Vb{J:Judge Tryz.prog}{E:LH}{p0:List Int}(Z:AK rI E a1 c2 (p0)){fuel:Nat}{r:(List Int)}(V:MB fuel p0=some r):Ax J 15 [.slice a1 (p0).length c2] E [] (λw E' B'=>∃(a0:Option Addr) (Y:Nat) (g0:Seg),w=.slice a0 (r).length Y/\B'=g0/\OL 3 rI E' a0 Y g0 (r)):=by
 refine Ax.enter Tryz.func15 rfl (d4 rfl) λQ al cs H aa ab=>?_;unfold MB at V;refine JL.seq (JL.region ?_);refine Ac (v:=.slice none 0 0) rfl rfl rfl (λρ h=>Yl.assign (h _ _ rfl)) (JL.done ?_);refine JL.seq (JL.region ?_);refine UJ (pp:=rI) rfl rfl rfl Tryz.underlying22 Aw aa λam an ac ae=>Ac (v:=.slice a1 (p0).length c2) rfl rfl rfl (λρ h=>Yl.move (h _ _ rfl)) ?_;let⟨K,ag,ah⟩:=bind_some V;refine IE (pp:=rI) 1 ag rfl rfl rfl rfl rfl rfl rfl Tryz.underlying22 Tryz.underlying22 Aw (EK Tryz.type3) Dk rfl (by decide) (by decide) ac Z ae rfl λO U ai aj ak=>Ac (v:=.slice O (K).length U) rfl rfl rfl (λρ h=>Yl.assign (h _ _ rfl)) (JL.done ?_);have ao:r=K:=(d0 ah).symm;subst r;exact JL.ret (v:=.slice O (K).length U) rfl rfl (Ay.list Tryz.func15 rfl (vs:=[.slice O (K).length U]) ⟨rfl,trivial⟩) (ab _ _ _ _ (Le.refl _) rfl ⟨O,U,ai,rfl,(by first | rfl | simp | (simp[Value.cells])),aj⟩ ak)
def Ia(fuel:Nat)(p0:(List Int)×Int×Nat)(p1:Int×(List Int))(p2:List Int):Option ((Int×Int×Int×Int)×((List Int)×Int×Nat)):=
 (AR (((p1.2).length:Int) - 1)).bind λaa=>
 (f36 fuel p0 aa).bind λK=>
 (f36 fuel K.2 5).bind λO=>
 if O.1=0 then(
  some ((1,0,0,K.1),O.2)
 ) else(
  if O.1=1 then(
   (AR (p1.1 - 1)).bind λab=>
   (ix p2 (K.1)).bind λac=>
   (AR (p1.1 - 1)).bind λae=>
   (f36 fuel O.2 ab).bind λU=>
   (f36 fuel U.2 ae).bind λV=>
   (f81 fuel V.2 ([ac,V.1]:List Int)).bind λY=>
   some ((2,U.1,Y.1,K.1),Y.2)
  ) else(
   (ix p2 (K.1)).bind λag=>
   (ix p2 (K.1)).bind λah=>
   (AR (p1.1 - 1)).bind λai=>
   (f37 fuel O.2 1 ai).bind λZ=>
   (AR (ah+Z.1)).bind λaj=>
   (JJ (aj) (p1.1)).bind λak=>
   some ((0,ag,ak,K.1),Z.2)
  )
 )
theorem T6{J:Judge Tryz.prog}{E:LH}{aj:Option Addr}{ak:Nat}{al:Option Addr}{am:Nat}{p1:Int×(List Int)}{p2:List Int}(aW:AK rI E a1 c2 (p0.1))(ck:AK rI E aj ak (p1.2))(ao:AK rI E al am (p2)){fuel:Nat}{r:(Int×Int×Int×Int)×((List Int)×Int×Nat)}(aD:Ia fuel p0 p1 p2=some r):Ax J 16 [.pointer (some ⟨dep,0,none⟩),.agg #[iV p1.1,.slice aj (p1.2).length ak],.slice al (p2).length am] E [(dep,.cells #[.slice a1 (p0.1).length c2,iV p0.2.1,.int .u64 ((p0.2.2:Nat):Int)] 53 (0,0))] (λw E' B'=>∃(aE:Option Addr) (aF:Nat),w=.agg #[iV r.1.1,iV r.1.2.1,iV r.1.2.2.1,iV r.1.2.2.2]/\B'=[(dep,.cells #[.slice aE (r.2.1).length aF,iV r.2.2.1,.int .u64 ((r.2.2.2:Nat):Int)] 53 (0,0))]/\AK rI E' aE aF (r.2.1)):=by
 refine Ax.enter Tryz.func16 rfl (d4 rfl) λQ cm cs H aX ap=>?_;unfold Ia at aD;refine JL.seq (JL.region ?_);refine JS.box (v:=.agg #[iV p1.1,.slice aj (p1.2).length ak]) rfl rfl rfl aX rfl λV aY=>A8 1 aY rfl λaZ ac ae a2=>?_;replace ae:At aZ V 0 [iV p1.1,.slice aj (p1.2).length ak]:=ae;refine JS.alloc rfl rfl rfl a2 Ew λaG a3=>JL.done (JL.seq ?_);refine JL.region (Ac (v:=.pointer (some ⟨dep,0,none⟩)) rfl rfl rfl (λρ h=>Yl.move (h _ _ rfl)) ?_);refine Ac (v:=.pointer (some ⟨V,1,none⟩)) rfl rfl rfl (λρ h=>Aq (a:=⟨V,0,none⟩) 0 1 Tryz.underlying26 Ch rfl rfl rfl (h _ _ rfl)) (Ac (v:=.slice aj (p1.2).length ak) rfl rfl rfl (λρ h=>Yl.load CV (h _ _ rfl) (At.AN (j:=1) ae rfl)) ?_);refine Ac (v:=iV ((p1.2).length:Int)) rfl rfl rfl (λρ h=>Yl.len rfl Tryz.underlying22 (h _ _ rfl)) ?_;let⟨aH,a4,a5⟩:=bind_some aD;refine Ac (v:=iV aH) rfl rfl rfl (λρ h=>BP (h _ _ rfl) (h _ _ rfl) a4) ?_;let⟨U,a6,a7⟩:=bind_some a5;refine DI (vs:=[.pointer (some ⟨dep,0,none⟩),iV aH]) 0 (Ef (aW.Ag ac) a6) rfl rfl rfl Ed rfl a3 rfl ?_;rintro _ co _ Y ⟨a8,a9,rfl,rfl,ba⟩ bb;refine AT (S':=[[(dep,.cells #[.slice a8 (U.2.1).length a9,iV U.2.2.1,.int .u64 ((U.2.2.2:Nat):Int)] 53 (0,0))],[],[(aG,.cells #[iV 0,iV 0,iV 0,iV 0] 31 (0,0))]]) rfl bb λbe=>Ac (v:=iV U.1) rfl rfl rfl (λρ h=>Yl.assign (h _ _ rfl)) (JL.done ?_);refine JL.seq (JL.seq ?_);refine JL.region (Ac (v:=.pointer (some ⟨dep,0,none⟩)) rfl rfl rfl (λρ h=>Yl.move (h _ _ rfl)) ?_);let⟨ag,bf,aI⟩:=bind_some a7;refine DI (vs:=[.pointer (some ⟨dep,0,none⟩),iV 5]) 0 (Ef ba bf) rfl rfl rfl Ed rfl be rfl ?_;rintro _ aq _ Z ⟨bg,bh,rfl,rfl,ar⟩ au;refine JL.done (JL.block ?_);refine JL.seq (JL.region ?_);refine Ac (v:=.bool (decide (ag.1=0))) rfl rfl rfl (λρ h=>Yl.eql (h _ _ rfl) (h _ _ rfl)) (Ac (v:=.bool (decide (ag.1=0))) rfl rfl rfl (λρ h=>Yl.assign (h _ _ rfl)) ?_);refine JL.done (AU (p:=ag.1=0) rfl (λav=>?_) (λav=>?_));have aJ:=aI;rw[d5 av] at aJ;refine JL.seq ?_;refine JL.region ?_;refine Ac (v:=iV U.1) rfl rfl rfl (λρ h=>Yl.move (h _ _ rfl)) ?_;refine Ac (v:=.agg #[iV 1,iV 0,iV 0,iV U.1]) rfl rfl rfl (λρ h=>Cf [(0,1),(1,1),(2,1),(3,1)] h Ew Tryz.underlying31 ⟨rfl,AB Tryz.type3,rfl,AB Tryz.type3,rfl,AB Tryz.type3,rfl,AB Tryz.type3,trivial⟩ rfl rfl) ?_;refine JS.store (v:=.agg #[iV 1,iV 0,iV 0,iV U.1]) (off:=0) 2 rfl rfl rfl au rfl rfl BV (by simp[Value.cells,A3]) rfl (d4 rfl) λaK=>?_;refine JL.done ?_;have cp:r=((1,0,0,U.1),ag.2):=(d0 aJ).symm;subst r;refine JL.ret (v:=.agg #[iV 1,iV 0,iV 0,iV U.1]) rfl rfl (Ay.list Tryz.func16 rfl (vs:=[.agg #[iV 1,iV 0,iV 0,iV U.1]]) ⟨⟨_,rfl,Ld.many (vs:=[iV 1,iV 0,iV 0,iV U.1]) EW BV (DV (off:=0) 2 aK rfl rfl)⟩,trivial⟩) ?_;refine F9 2 aK rfl λbi=>?_;exact ap _ _ _ _ ((ac.trans Y).trans Z) rfl ⟨bg,bh,rfl,rfl,ar⟩ bi;have aw:=aI;rw[d7 av] at aw;refine JL.seq ?_;refine JL.region ?_;refine Ac (v:=.bool (decide (ag.1=1))) rfl rfl rfl (λρ h=>Yl.eql (h _ _ rfl) (h _ _ rfl)) ?_;refine Ac (v:=.bool (decide (ag.1=1))) rfl rfl rfl (λρ h=>Yl.assign (h _ _ rfl)) ?_;refine JL.done ?_;refine AU (p:=ag.1=1) rfl (λay=>?_) (λay=>?_);have aL:=aw;rw[d5 ay] at aL;refine JL.seq ?_;refine DJ 18 mixed rfl (by decide+kernel) λO=>?_;refine JG.val (v:=.pointer (some ⟨dep,0,none⟩)) 0 rfl O (by decide+kernel) rfl rfl rfl (λρ h s' K=>Yl.move (h _ _ rfl)) ?_;refine JG.val (v:=.pointer (some ⟨V,0,none⟩)) 1 rfl O (by decide+kernel) rfl rfl rfl (λρ h s' K=>Aq (a:=⟨V,0,none⟩) 0 0 Tryz.underlying26 Aw rfl rfl rfl (h _ _ rfl)) ?_;refine JG.val (v:=iV p1.1) 2 rfl O (by decide+kernel) rfl rfl rfl (λρ h s' K=>Yl.load AD (h _ _ rfl) (At.BS (j:=0) (ae.Ag (Y.trans Z)) K rfl)) ?_;let⟨aM,bj,bl⟩:=bind_some aL;refine JG.val (v:=iV aM) 3 rfl O (by decide+kernel) rfl rfl rfl (λρ h s' K=>BP (h _ _ rfl) (h _ _ rfl) bj) ?_;refine JG.val (v:=.pointer (some ⟨dep,0,none⟩)) 5 rfl O (by decide+kernel) rfl rfl rfl (λρ h s' K=>Yl.move (h _ _ rfl)) ?_;refine JG.val (v:=.slice al (p2).length am) 6 rfl O (by decide+kernel) rfl rfl rfl (λρ h s' K=>Yl.move (h _ _ rfl)) ?_;refine JG.val (v:=iV U.1) 7 rfl O (by decide+kernel) rfl rfl rfl (λρ h s' K=>Yl.move (h _ _ rfl)) ?_;let⟨an,bm,bn⟩:=bind_some bl;refine G2 8 (ao.Ag ((ac.trans Y).trans Z)) bm rfl O (by decide+kernel) rfl rfl rfl rfl rfl Tryz.underlying22 Aw ?_;rintro bo bp _ rfl az;replace az:At aq bo bp [iV an]:=az;refine JG.val (v:=iV an) 9 rfl O (by decide+kernel) rfl rfl rfl (λρ h s' K=>Yl.load AD (h _ _ rfl) (At.BS (j:=0) az K rfl)) ?_;refine JG.val (v:=.pointer (some ⟨dep,0,none⟩)) 10 rfl O (by decide+kernel) rfl rfl rfl (λρ h s' K=>Yl.move (h _ _ rfl)) ?_;refine JG.val (v:=.pointer (some ⟨V,0,none⟩)) 11 rfl O (by decide+kernel) rfl rfl rfl (λρ h s' K=>Aq (a:=⟨V,0,none⟩) 0 0 Tryz.underlying26 Aw rfl rfl rfl (h _ _ rfl)) ?_;refine JG.val (v:=iV p1.1) 12 rfl O (by decide+kernel) rfl rfl rfl (λρ h s' K=>Yl.load AD (h _ _ rfl) (At.BS (j:=0) (ae.Ag (Y.trans Z)) K rfl)) ?_;let⟨aN,bq,br⟩:=bind_some bn;refine JG.val (v:=iV aN) 13 rfl O (by decide+kernel) rfl rfl rfl (λρ h s' K=>BP (h _ _ rfl) (h _ _ rfl) bq) ?_;refine JG.val (v:=iV U.1) 17 rfl O (by decide+kernel) rfl rfl rfl (λρ h s' K=>Yl.move (h _ _ rfl)) ?_;let⟨ai,bu,bv⟩:=bind_some br;refine Kf (i:=4) (vs:=[.pointer (some ⟨dep,0,none⟩),iV aM]) 0 (λ_ h=>by cases h) (Ef ar bu) (by decide+kernel) rfl rfl rfl Ed rfl au rfl ?_;rintro _ cq _ bw ⟨cr,ct,rfl,rfl,bx⟩ bz;let⟨aA,bA,bB⟩:=bind_some bv;refine Kf (i:=14) (vs:=[.pointer (some ⟨dep,0,none⟩),iV aN]) 0 (λ_ h=>by cases h) (Ef bx bA) (by decide+kernel) rfl rfl rfl Ed rfl bz rfl ?_;rintro _ cu _ bC ⟨cw,cy,rfl,rfl,bD⟩ bE;let⟨aa,bF,bG⟩:=bind_some bB;refine JG.one (i:=15) rfl (by decide+kernel) ?_;refine Take.Ik (pp:=rI) [iV an,iV aA.1] ([an,aA.1]:List Int) bE rfl rfl rfl Tryz.underlying22 Aw Dk (by decide) rfl rfl rfl ⟨rfl,rfl,trivial⟩ λbH cz bI bJ=>?_;refine Ls 3 bI bJ rfl λcA aO bK bL=>?_;refine JG.one (i:=16) rfl (by decide+kernel) ?_;refine Take.Gb (vs:=[.pointer (some ⟨dep,0,none⟩),.slice (some ⟨bH,0,none⟩) (([an,aA.1]:List Int)).length 2]) 0 bL (Ms (bD.Ag aO) bK bF) rfl rfl rfl Lk rfl rfl ?_;rintro _ cB _ bM ⟨aP,aQ,rfl,rfl,bN⟩ bO;refine AL.leaf (tail:=[18,19]) (by decide+kernel) (λt=>Bb (by decide+kernel) (Bb (by decide+kernel) Cn) t) ?_;refine AT (S':=[[(dep,.cells #[.slice aP (aa.2.1).length aQ,iV aa.2.2.1,.int .u64 ((aa.2.2.2:Nat):Int)] 53 (0,0))],[],[(aG,.cells #[iV 0,iV 0,iV 0,iV 0] 31 (0,0))],[]]) rfl bO λbP=>?_;refine Ac (v:=.agg #[iV 2,iV ai.1,iV aa.1,iV U.1]) rfl rfl rfl (λρ h=>Cf [(0,1),(1,1),(2,1),(3,1)] h Ew Tryz.underlying31 ⟨rfl,AB Tryz.type3,rfl,AB Tryz.type3,rfl,AB Tryz.type3,rfl,AB Tryz.type3,trivial⟩ rfl rfl) ?_;refine JS.store (v:=.agg #[iV 2,iV ai.1,iV aa.1,iV U.1]) (off:=0) 2 rfl rfl rfl bP rfl rfl BV (by simp[Value.cells,A3]) rfl (d4 rfl) λaR=>?_;refine JL.done ?_;have cC:r=((2,ai.1,aa.1,U.1),aa.2):=(d0 bG).symm;subst r;refine JL.ret (v:=.agg #[iV 2,iV ai.1,iV aa.1,iV U.1]) rfl rfl (Ay.list Tryz.func16 rfl (vs:=[.agg #[iV 2,iV ai.1,iV aa.1,iV U.1]]) ⟨⟨_,rfl,Ld.many (vs:=[iV 2,iV ai.1,iV aa.1,iV U.1]) EW BV (DV (off:=0) 2 aR rfl rfl)⟩,trivial⟩) ?_;refine F9 2 aR rfl λbQ=>?_;exact ap _ _ _ _ ((((((ac.trans Y).trans Z).trans bw).trans bC).trans aO).trans bM) rfl ⟨aP,aQ,rfl,rfl,bN⟩ bQ;have aS:=aw;rw[d7 ay] at aS;refine JL.skip ?_;refine Bv ?_;refine JL.seq ?_;refine DJ 18 mixed rfl (by decide+kernel) λO=>?_;refine JG.val (v:=.slice al (p2).length am) 0 rfl O (by decide+kernel) rfl rfl rfl (λρ h s' K=>Yl.move (h _ _ rfl)) ?_;refine JG.val (v:=iV U.1) 1 rfl O (by decide+kernel) rfl rfl rfl (λρ h s' K=>Yl.move (h _ _ rfl)) ?_;let⟨ab,bR,bS⟩:=bind_some aS;refine G2 2 (ao.Ag ((ac.trans Y).trans Z)) bR rfl O (by decide+kernel) rfl rfl rfl rfl rfl Tryz.underlying22 Aw ?_;rintro bT bU _ rfl aB;replace aB:At aq bT bU [iV ab]:=aB;refine JG.val (v:=iV ab) 3 rfl O (by decide+kernel) rfl rfl rfl (λρ h s' K=>Yl.load AD (h _ _ rfl) (At.BS (j:=0) aB K rfl)) ?_;refine JG.val (v:=.slice al (p2).length am) 4 rfl O (by decide+kernel) rfl rfl rfl (λρ h s' K=>Yl.move (h _ _ rfl)) ?_;refine JG.val (v:=iV U.1) 5 rfl O (by decide+kernel) rfl rfl rfl (λρ h s' K=>Yl.move (h _ _ rfl)) ?_;obtain⟨aT,bV,bW⟩:=bind_some bS;refine G2 6 (ao.Ag ((ac.trans Y).trans Z)) bV rfl O (by decide+kernel) rfl rfl rfl rfl rfl Tryz.underlying22 Aw ?_;rintro bX bY _ rfl aC;replace aC:At aq bX bY [iV aT]:=aC;refine JG.val (v:=iV aT) 7 rfl O (by decide+kernel) rfl rfl rfl (λρ h s' K=>Yl.load AD (h _ _ rfl) (At.BS (j:=0) aC K rfl)) ?_;refine JG.val (v:=.pointer (some ⟨dep,0,none⟩)) 8 rfl O (by decide+kernel) rfl rfl rfl (λρ h s' K=>Yl.move (h _ _ rfl)) ?_;refine JG.val (v:=.pointer (some ⟨V,0,none⟩)) 9 rfl O (by decide+kernel) rfl rfl rfl (λρ h s' K=>Aq (a:=⟨V,0,none⟩) 0 0 Tryz.underlying26 Aw rfl rfl rfl (h _ _ rfl)) ?_;refine JG.val (v:=iV p1.1) 10 rfl O (by decide+kernel) rfl rfl rfl (λρ h s' K=>Yl.load AD (h _ _ rfl) (At.BS (j:=0) (ae.Ag (Y.trans Z)) K rfl)) ?_;let⟨aU,bZ,b2⟩:=bind_some bW;refine JG.val (v:=iV aU) 11 rfl O (by decide+kernel) rfl rfl rfl (λρ h s' K=>BP (h _ _ rfl) (h _ _ rfl) bZ) ?_;refine JG.val (v:=.pointer (some ⟨V,0,none⟩)) 14 rfl O (by decide+kernel) rfl rfl rfl (λρ h s' K=>Aq (a:=⟨V,0,none⟩) 0 0 Tryz.underlying26 Aw rfl rfl rfl (h _ _ rfl)) ?_;refine JG.val (v:=iV p1.1) 15 rfl O (by decide+kernel) rfl rfl rfl (λρ h s' K=>Yl.load AD (h _ _ rfl) (At.BS (j:=0) (ae.Ag (Y.trans Z)) K rfl)) ?_;refine JG.val (v:=iV U.1) 17 rfl O (by decide+kernel) rfl rfl rfl (λρ h s' K=>Yl.move (h _ _ rfl)) ?_;let⟨b3,b4,b5⟩:=bind_some b2;refine Kf (i:=12) (vs:=[.pointer (some ⟨dep,0,none⟩),iV 1,iV aU]) 0 (λ_ h=>by cases h) (Mx ar b4) (by decide+kernel) rfl rfl rfl Lj rfl au rfl ?_;rintro _ cD _ b6 ⟨b7,b8,rfl,rfl,b9⟩ ca;let⟨cb,cc,cd⟩:=bind_some b5;refine JG.val (v:=iV cb) 13 rfl O (by decide+kernel) rfl rfl rfl (λρ h s' K=>BH (h _ _ rfl) (h _ _ rfl) cc) ?_;let⟨ah,ce,cg⟩:=bind_some cd;refine JG.val (v:=iV ah) 16 rfl O (by decide+kernel) rfl rfl rfl (λρ h s' K=>P6 (h _ _ rfl) (h _ _ rfl) ce) ?_;refine AL.leaf (tail:=[18,19]) (by decide+kernel) (λt=>Bb (by decide+kernel) (Bb (by decide+kernel) Cn) t) ?_;refine Ac (v:=.agg #[iV 0,iV ab,iV ah,iV U.1]) rfl rfl rfl (λρ h=>Cf [(0,1),(1,1),(2,1),(3,1)] h Ew Tryz.underlying31 ⟨rfl,AB Tryz.type3,rfl,AB Tryz.type3,rfl,AB Tryz.type3,rfl,AB Tryz.type3,trivial⟩ rfl rfl) ?_;refine JS.store (v:=.agg #[iV 0,iV ab,iV ah,iV U.1]) (off:=0) 2 rfl rfl rfl ca rfl rfl BV (by simp[Value.cells,A3]) rfl (d4 rfl) λaV=>?_;refine JL.done ?_;have cE:r=((0,ab,ah,U.1),b3.2):=(d0 cg).symm;subst r;refine JL.ret (v:=.agg #[iV 0,iV ab,iV ah,iV U.1]) rfl rfl (Ay.list Tryz.func16 rfl (vs:=[.agg #[iV 0,iV ab,iV ah,iV U.1]]) ⟨⟨_,rfl,Ld.many (vs:=[iV 0,iV ab,iV ah,iV U.1]) EW BV (DV (off:=0) 2 aV rfl rfl)⟩,trivial⟩) ?_;refine F9 2 aV rfl λci=>?_;exact ap _ _ _ _ (((ac.trans Y).trans Z).trans b6) rfl ⟨b7,b8,rfl,rfl,b9⟩ ci
def Jj(fuel:Nat)(p0:(List Int)×Int×Nat)(p1:Int×(List Int))(p2:List Int):Option ((Int×Int×Int×Int)×((List Int)×Int×Nat)):=
 (AR (((p1.2).length:Int) - 1)).bind λab=>
 (f36 fuel p0 ab).bind λK=>
 (f36 fuel K.2 5).bind λO=>
 if O.1=0 then(
  some ((1,0,0,K.1),O.2)
 ) else(
  if O.1=1 then(
   (AR (p1.1 - 1)).bind λac=>
   (ix p2 (K.1)).bind λae=>
   (AR (p1.1 - 1)).bind λag=>
   (f36 fuel O.2 ac).bind λU=>
   (f36 fuel U.2 ag).bind λV=>
   (f81 fuel V.2 ([ae,V.1]:List Int)).bind λY=>
   some ((2,U.1,Y.1,K.1),Y.2)
  ) else(
   (ix p2 (K.1)).bind λZ=>
   (AR (p1.1 - 1)).bind λah=>
   (f37 fuel O.2 1 ah).bind λaa=>
   (AR (Z+aa.1)).bind λai=>
   (JJ (ai) (p1.1)).bind λaj=>
   some ((0,Z,aj,K.1),aa.2)
  )
 )
theorem TR{J:Judge Tryz.prog}{E:LH}{ap:Option Addr}{aq Y ar nw:Nat}{aa:Av_}{p1:Int×(List Int)}{p2:List Int}(bm:AK rI E a1 c2 (p0.1))(cY:AK rI E ap aq (p1.2))(hW:WL 3 rI E Y ar nw aa p2){fuel:Nat}{r:(Int×Int×Int×Int)×((List Int)×Int×Nat)}(aR:Jj fuel p0 p1 p2=some r):Ax J 16 [.pointer (some ⟨dep,0,none⟩),.agg #[iV p1.1,.slice ap (p1.2).length aq],.slice (some ⟨Y,0,none⟩) nw ar] E ([(dep,.cells #[.slice a1 (p0.1).length c2,iV p0.2.1,.int .u64 ((p0.2.2:Nat):Int)] 53 (0,0))]++ [(Y,.cells aa 3 (0,0))]) (λw E' B'=>∃(aS:Option Addr) (aT:Nat),w=.agg #[iV r.1.1,iV r.1.2.1,iV r.1.2.2.1,iV r.1.2.2.2]/\B'=[(dep,.cells #[.slice aS (r.2.1).length aT,iV r.2.2.1,.int .u64 ((r.2.2.2:Nat):Int)] 53 (0,0))]++ [(Y,.cells aa 3 (0,0))]/\AK rI E' aS aT (r.2.1)):=by
 refine Ax.enter Tryz.func16 rfl (d4 rfl) λQ cZ cs H aB au=>?_;unfold Jj at aR;refine EJ (S':=[[(dep,.cells #[.slice a1 (p0.1).length c2,iV p0.2.1,.int .u64 ((p0.2.2:Nat):Int)] 53 (0,0))],[(Y,.cells aa 3 (0,0))]]) (by simp) aB λaB=>JL.seq (JL.region ?_);refine JS.box (v:=.agg #[iV p1.1,.slice ap (p1.2).length aq]) rfl rfl rfl aB rfl λag bn=>A8 2 bn rfl λbo ah ao bp=>?_;replace ao:At bo ag 0 [iV p1.1,.slice ap (p1.2).length aq]:=ao;refine JS.alloc rfl rfl rfl bp Ew λal bq=>JL.done (JL.seq ?_);refine JL.region (Ac (v:=.pointer (some ⟨dep,0,none⟩)) rfl rfl rfl (λρ h=>Yl.move (h _ _ rfl)) ?_);refine Ac (v:=.pointer (some ⟨ag,1,none⟩)) rfl rfl rfl (λρ h=>Aq (a:=⟨ag,0,none⟩) 0 1 Tryz.underlying26 Ch rfl rfl rfl (h _ _ rfl)) (Ac (v:=.slice ap (p1.2).length aq) rfl rfl rfl (λρ h=>Yl.load CV (h _ _ rfl) (At.AN (j:=1) ao rfl)) ?_);refine Ac (v:=iV ((p1.2).length:Int)) rfl rfl rfl (λρ h=>Yl.len rfl Tryz.underlying22 (h _ _ rfl)) ?_;let⟨aU,br,bu⟩:=bind_some aR;refine Ac (v:=iV aU) rfl rfl rfl (λρ h=>BP (h _ _ rfl) (h _ _ rfl) br) ?_;let⟨K,bv,bw⟩:=bind_some bu;refine DI (vs:=[.pointer (some ⟨dep,0,none⟩),iV aU]) 0 (Ef (bm.Ag ah) bv) rfl rfl rfl Ed rfl bq rfl ?_;rintro _ c0 _ ab ⟨bx,bz,rfl,rfl,bA⟩ bB;refine AT (S':=[[(dep,.cells #[.slice bx (K.2.1).length bz,iV K.2.2.1,.int .u64 ((K.2.2.2:Nat):Int)] 53 (0,0))],[(Y,.cells aa 3 (0,0))],[],[(al,.cells #[iV 0,iV 0,iV 0,iV 0] 31 (0,0))]]) rfl bB λbC=>Ac (v:=iV K.1) rfl rfl rfl (λρ h=>Yl.assign (h _ _ rfl)) (JL.done ?_);refine JL.seq (JL.seq ?_);refine JL.region (Ac (v:=.pointer (some ⟨dep,0,none⟩)) rfl rfl rfl (λρ h=>Yl.move (h _ _ rfl)) ?_);obtain⟨ai,bD,aV⟩:=bind_some bw;refine DI (vs:=[.pointer (some ⟨dep,0,none⟩),iV 5]) 0 (Ef bA bD) rfl rfl rfl Ed rfl bC rfl ?_;rintro _ c3 _ ac ⟨aW,aX,rfl,rfl,aw⟩ aj;refine JL.done (JL.block ?_);refine JL.seq (JL.region ?_);refine Ac (v:=.bool (decide (ai.1=0))) rfl rfl rfl (λρ h=>Yl.eql (h _ _ rfl) (h _ _ rfl)) (Ac (v:=.bool (decide (ai.1=0))) rfl rfl rfl (λρ h=>Yl.assign (h _ _ rfl)) ?_);refine JL.done (AU (p:=ai.1=0) rfl (λaC=>?_) (λaC=>?_));have aY:=aV;rw[d5 aC] at aY;refine JL.seq ?_;refine JL.region ?_;refine Ac (v:=iV K.1) rfl rfl rfl (λρ h=>Yl.move (h _ _ rfl)) ?_;refine Ac (v:=.agg #[iV 1,iV 0,iV 0,iV K.1]) rfl rfl rfl (λρ h=>Cf [(0,1),(1,1),(2,1),(3,1)] h Ew Tryz.underlying31 ⟨rfl,AB Tryz.type3,rfl,AB Tryz.type3,rfl,AB Tryz.type3,rfl,AB Tryz.type3,trivial⟩ rfl rfl) ?_;refine JS.store (v:=.agg #[iV 1,iV 0,iV 0,iV K.1]) (off:=0) 3 rfl rfl rfl aj rfl rfl BV (by simp[Value.cells,A3]) rfl (d4 rfl) λbE=>?_;refine JL.done ?_;refine AT (S':=[[(dep,.cells #[.slice aW (ai.2.1).length aX,iV ai.2.2.1,.int .u64 ((ai.2.2.2:Nat):Int)] 53 (0,0))],[(Y,.cells aa 3 (0,0))],[],[(al,.cells #[iV 1,iV 0,iV 0,iV K.1] 31 (0,0))]]) rfl bE λaZ=>?_;have c4:r=((1,0,0,K.1),ai.2):=(d0 aY).symm;subst r;refine JL.ret (v:=.agg #[iV 1,iV 0,iV 0,iV K.1]) rfl rfl (Ay.list Tryz.func16 rfl (vs:=[.agg #[iV 1,iV 0,iV 0,iV K.1]]) ⟨⟨_,rfl,Ld.many (vs:=[iV 1,iV 0,iV 0,iV K.1]) EW BV (DV (off:=0) 3 aZ rfl rfl)⟩,trivial⟩) ?_;refine F9 3 aZ rfl λbF=>?_;exact au _ _ _ _ ((ah.trans ab).trans ac) rfl ⟨aW,aX,rfl,(by first | rfl | simp | (simp[Value.cells])),aw⟩ bF;have aD:=aV;rw[d7 aC] at aD;refine JL.seq ?_;refine JL.region ?_;refine Ac (v:=.bool (decide (ai.1=1))) rfl rfl rfl (λρ h=>Yl.eql (h _ _ rfl) (h _ _ rfl)) ?_;refine Ac (v:=.bool (decide (ai.1=1))) rfl rfl rfl (λρ h=>Yl.assign (h _ _ rfl)) ?_;refine JL.done ?_;refine AU (p:=ai.1=1) rfl (λaE=>?_) (λaE=>?_);have a2:=aD;rw[d5 aE] at a2;refine JL.seq ?_;refine DJ 18 mixed rfl (by decide+kernel) λV=>?_;refine JG.val (v:=.pointer (some ⟨dep,0,none⟩)) 0 rfl V (by decide+kernel) rfl rfl rfl (λρ h s' U=>Yl.move (h _ _ rfl)) ?_;refine JG.val (v:=.pointer (some ⟨ag,0,none⟩)) 1 rfl V (by decide+kernel) rfl rfl rfl (λρ h s' U=>Aq (a:=⟨ag,0,none⟩) 0 0 Tryz.underlying26 Aw rfl rfl rfl (h _ _ rfl)) ?_;refine JG.val (v:=iV p1.1) 2 rfl V (by decide+kernel) rfl rfl rfl (λρ h s' U=>Yl.load AD (h _ _ rfl) (At.BS (j:=0) (ao.Ag (ab.trans ac)) U rfl)) ?_;let⟨aF,bG,bH⟩:=bind_some a2;refine JG.val (v:=iV aF) 3 rfl V (by decide+kernel) rfl rfl rfl (λρ h s' U=>BP (h _ _ rfl) (h _ _ rfl) bG) ?_;refine JG.val (v:=.pointer (some ⟨dep,0,none⟩)) 5 rfl V (by decide+kernel) rfl rfl rfl (λρ h s' U=>Yl.move (h _ _ rfl)) ?_;refine JG.val (v:=.slice (some ⟨Y,0,none⟩) nw ar) 6 rfl V (by decide+kernel) rfl rfl rfl (λρ h s' U=>Yl.move (h _ _ rfl)) ?_;refine JG.val (v:=iV K.1) 7 rfl V (by decide+kernel) rfl rfl rfl (λρ h s' U=>Yl.move (h _ _ rfl)) ?_;let⟨ae,a3,bI⟩:=bind_some bH;obtain⟨_,rfl,av⟩:=WL.at (hW.Ag ((ah.trans ab).trans ac)) a3;replace av:∀(j:Nat) w,[iV ae][j]?=some w->aa[Int.toNat (K.1)*1+j]?=some w:=av;refine JG.val (v:=.pointer (some ⟨Y,Int.toNat (K.1)*1,none⟩)) 8 rfl V (by decide+kernel) rfl rfl rfl (λρ h s' U=>GA ((hW.Ag ((ah.trans ab).trans ac))).2 a3 Tryz.underlying22 Aw (h _ _ rfl) (h _ _ rfl)) ?_;refine JG.val (v:=.pointer (some ⟨dep,0,none⟩)) 10 rfl V (by decide+kernel) rfl rfl rfl (λρ h s' U=>Yl.move (h _ _ rfl)) ?_;refine JG.val (v:=.pointer (some ⟨ag,0,none⟩)) 11 rfl V (by decide+kernel) rfl rfl rfl (λρ h s' U=>Aq (a:=⟨ag,0,none⟩) 0 0 Tryz.underlying26 Aw rfl rfl rfl (h _ _ rfl)) ?_;refine JG.val (v:=iV p1.1) 12 rfl V (by decide+kernel) rfl rfl rfl (λρ h s' U=>Yl.load AD (h _ _ rfl) (At.BS (j:=0) (ao.Ag (ab.trans ac)) U rfl)) ?_;let⟨ay,bJ,bK⟩:=bind_some bI;refine JG.val (v:=iV ay) 13 rfl V (by decide+kernel) rfl rfl rfl (λρ h s' U=>BP (h _ _ rfl) (h _ _ rfl) bJ) ?_;refine JG.val (v:=iV K.1) 17 rfl V (by decide+kernel) rfl rfl rfl (λρ h s' U=>Yl.move (h _ _ rfl)) ?_;let⟨Z,a4,bL⟩:=bind_some bK;let⟨am,aG,bM⟩:=bind_some bL;let⟨O,aH,aI⟩:=bind_some bM;refine KA (i:=4) (j:=9) rfl (by decide+kernel) ?_ ?_;refine Take.Gb (vs:=[.pointer (some ⟨dep,0,none⟩),iV aF]) 0 aj (Ef aw a4) rfl rfl rfl Ed rfl rfl ?_;rintro _ c5 _ a5 ⟨c6,c7,rfl,rfl,a6⟩ aJ;refine KA (i:=9) (j:=14) rfl (by decide+kernel) ?_ ?_;refine Take.y0 (v:=iV ae) rfl rfl rfl (λρ h=>Yl.load AD (h _ _ rfl) (CB (j:=1) aJ rfl (av 0 _ rfl))) (JG.one (i:=14) rfl (by decide+kernel) ?_);refine Take.Gb (vs:=[.pointer (some ⟨dep,0,none⟩),iV ay]) 0 aJ (Ef a6 aG) rfl rfl rfl Ed rfl rfl ?_;rintro _ c8 _ bN ⟨c9,da,rfl,rfl,bO⟩ bP;refine JG.one (i:=15) rfl (by decide+kernel) (Take.Ik (pp:=rI) [iV ae,iV am.1] ([ae,am.1]:List Int) bP rfl rfl rfl Tryz.underlying22 Aw Dk (by decide) rfl rfl rfl ⟨rfl,rfl,trivial⟩ λbQ db bR bS=>?_);refine Ls 4 bR bS rfl λdc a7 bT bU=>JG.one (i:=16) rfl (by decide+kernel) (Take.Gb (vs:=[.pointer (some ⟨dep,0,none⟩),.slice (some ⟨bQ,0,none⟩) (([ae,am.1]:List Int)).length 2]) 0 bU (Ms (bO.Ag a7) bT aH) rfl rfl rfl Lk rfl rfl ?_);rintro _ dd _ bV ⟨aK,aL,rfl,rfl,bW⟩ bX;refine AL.leaf (tail:=[18,19]) (by decide+kernel) (λt=>Bb (by decide+kernel) (Bb (by decide+kernel) Cn) t) (AT (S':=[[(dep,.cells #[.slice aK (O.2.1).length aL,iV O.2.2.1,.int .u64 ((O.2.2.2:Nat):Int)] 53 (0,0))],[(Y,.cells aa 3 (0,0))],[],[(al,.cells #[iV 0,iV 0,iV 0,iV 0] 31 (0,0))],[]]) rfl bX λbY=>?_);refine Ac (v:=.agg #[iV 2,iV Z.1,iV O.1,iV K.1]) rfl rfl rfl (λρ h=>Cf [(0,1),(1,1),(2,1),(3,1)] h Ew Tryz.underlying31 ⟨rfl,AB Tryz.type3,rfl,AB Tryz.type3,rfl,AB Tryz.type3,rfl,AB Tryz.type3,trivial⟩ rfl rfl) (JS.store (v:=.agg #[iV 2,iV Z.1,iV O.1,iV K.1]) (off:=0) 3 rfl rfl rfl bY rfl rfl BV (by simp[Value.cells,A3]) rfl (d4 rfl) λbZ=>?_);refine JL.done (AT (S':=[[(dep,.cells #[.slice aK (O.2.1).length aL,iV O.2.2.1,.int .u64 ((O.2.2.2:Nat):Int)] 53 (0,0))],[(Y,.cells aa 3 (0,0))],[],[(al,.cells #[iV 2,iV Z.1,iV O.1,iV K.1] 31 (0,0))],[]]) rfl bZ λa8=>?_);have de:r=((2,Z.1,O.1,K.1),O.2):=(d0 aI).symm;subst r;refine JL.ret (v:=.agg #[iV 2,iV Z.1,iV O.1,iV K.1]) rfl rfl (Ay.list Tryz.func16 rfl (vs:=[.agg #[iV 2,iV Z.1,iV O.1,iV K.1]]) ⟨⟨_,rfl,Ld.many (vs:=[iV 2,iV Z.1,iV O.1,iV K.1]) EW BV (DV (off:=0) 3 a8 rfl rfl)⟩,trivial⟩) (F9 3 a8 rfl λb2=>?_);exact au _ _ _ _ ((((((ah.trans ab).trans ac).trans a5).trans bN).trans a7).trans bV) rfl ⟨aK,aL,rfl,(by first | rfl | simp | (simp[Value.cells])),bW⟩ b2;refine Take.Gb (vs:=[.pointer (some ⟨dep,0,none⟩),iV ay]) 0 aJ (Ef a6 aG) rfl rfl rfl Ed rfl rfl ?_;rintro _ df _ b3 ⟨dg,dh,rfl,rfl,b4⟩ a9;refine JG.one (i:=9) rfl (by decide+kernel) (Take.y0 (v:=iV ae) rfl rfl rfl (λρ h=>Yl.load AD (h _ _ rfl) (CB (j:=1) a9 rfl (av 0 _ rfl))) ?_);refine JG.one (i:=15) rfl (by decide+kernel) (Take.Ik (pp:=rI) [iV ae,iV am.1] ([ae,am.1]:List Int) a9 rfl rfl rfl Tryz.underlying22 Aw Dk (by decide) rfl rfl rfl ⟨rfl,rfl,trivial⟩ λb5 di b6 b7=>?_);refine Ls 4 b6 b7 rfl λdj ba b8 b9=>JG.one (i:=16) rfl (by decide+kernel) (Take.Gb (vs:=[.pointer (some ⟨dep,0,none⟩),.slice (some ⟨b5,0,none⟩) (([ae,am.1]:List Int)).length 2]) 0 b9 (Ms (b4.Ag ba) b8 aH) rfl rfl rfl Lk rfl rfl ?_);rintro _ dk _ ca ⟨aM,aN,rfl,rfl,cb⟩ cc;refine AL.leaf (tail:=[18,19]) (by decide+kernel) (λt=>Bb (by decide+kernel) (Bb (by decide+kernel) Cn) t) (AT (S':=[[(dep,.cells #[.slice aM (O.2.1).length aN,iV O.2.2.1,.int .u64 ((O.2.2.2:Nat):Int)] 53 (0,0))],[(Y,.cells aa 3 (0,0))],[],[(al,.cells #[iV 0,iV 0,iV 0,iV 0] 31 (0,0))],[]]) rfl cc λcd=>?_);refine Ac (v:=.agg #[iV 2,iV Z.1,iV O.1,iV K.1]) rfl rfl rfl (λρ h=>Cf [(0,1),(1,1),(2,1),(3,1)] h Ew Tryz.underlying31 ⟨rfl,AB Tryz.type3,rfl,AB Tryz.type3,rfl,AB Tryz.type3,rfl,AB Tryz.type3,trivial⟩ rfl rfl) (JS.store (v:=.agg #[iV 2,iV Z.1,iV O.1,iV K.1]) (off:=0) 3 rfl rfl rfl cd rfl rfl BV (by simp[Value.cells,A3]) rfl (d4 rfl) λce=>?_);refine JL.done (AT (S':=[[(dep,.cells #[.slice aM (O.2.1).length aN,iV O.2.2.1,.int .u64 ((O.2.2.2:Nat):Int)] 53 (0,0))],[(Y,.cells aa 3 (0,0))],[],[(al,.cells #[iV 2,iV Z.1,iV O.1,iV K.1] 31 (0,0))],[]]) rfl ce λbb=>?_);have dm:r=((2,Z.1,O.1,K.1),O.2):=(d0 aI).symm;subst r;refine JL.ret (v:=.agg #[iV 2,iV Z.1,iV O.1,iV K.1]) rfl rfl (Ay.list Tryz.func16 rfl (vs:=[.agg #[iV 2,iV Z.1,iV O.1,iV K.1]]) ⟨⟨_,rfl,Ld.many (vs:=[iV 2,iV Z.1,iV O.1,iV K.1]) EW BV (DV (off:=0) 3 bb rfl rfl)⟩,trivial⟩) (F9 3 bb rfl λcg=>?_);exact au _ _ _ _ ((((((ah.trans ab).trans ac).trans a5).trans b3).trans ba).trans ca) rfl ⟨aM,aN,rfl,(by first | rfl | simp | (simp[Value.cells])),cb⟩ cg;refine Take.y0 (v:=iV ae) rfl rfl rfl (λρ h=>Yl.load AD (h _ _ rfl) (CB (j:=1) aj rfl (av 0 _ rfl))) (JG.one (i:=4) rfl (by decide+kernel) ?_);refine Take.Gb (vs:=[.pointer (some ⟨dep,0,none⟩),iV aF]) 0 aj (Ef aw a4) rfl rfl rfl Ed rfl rfl ?_;rintro _ dn _ ci ⟨dp,dq,rfl,rfl,ck⟩ cm;refine JG.one (i:=14) rfl (by decide+kernel) (Take.Gb (vs:=[.pointer (some ⟨dep,0,none⟩),iV ay]) 0 cm (Ef ck aG) rfl rfl rfl Ed rfl rfl ?_);rintro _ dr _ co ⟨dt,du,rfl,rfl,cp⟩ cq;refine JG.one (i:=15) rfl (by decide+kernel) (Take.Ik (pp:=rI) [iV ae,iV am.1] ([ae,am.1]:List Int) cq rfl rfl rfl Tryz.underlying22 Aw Dk (by decide) rfl rfl rfl ⟨rfl,rfl,trivial⟩ λcr dv ct cu=>?_);refine Ls 4 ct cu rfl λdw be cw cy=>JG.one (i:=16) rfl (by decide+kernel) (Take.Gb (vs:=[.pointer (some ⟨dep,0,none⟩),.slice (some ⟨cr,0,none⟩) (([ae,am.1]:List Int)).length 2]) 0 cy (Ms (cp.Ag be) cw aH) rfl rfl rfl Lk rfl rfl ?_);rintro _ dx _ cz ⟨aO,aP,rfl,rfl,cA⟩ cB;refine AL.leaf (tail:=[18,19]) (by decide+kernel) (λt=>Bb (by decide+kernel) (Bb (by decide+kernel) Cn) t) (AT (S':=[[(dep,.cells #[.slice aO (O.2.1).length aP,iV O.2.2.1,.int .u64 ((O.2.2.2:Nat):Int)] 53 (0,0))],[(Y,.cells aa 3 (0,0))],[],[(al,.cells #[iV 0,iV 0,iV 0,iV 0] 31 (0,0))],[]]) rfl cB λcC=>?_);refine Ac (v:=.agg #[iV 2,iV Z.1,iV O.1,iV K.1]) rfl rfl rfl (λρ h=>Cf [(0,1),(1,1),(2,1),(3,1)] h Ew Tryz.underlying31 ⟨rfl,AB Tryz.type3,rfl,AB Tryz.type3,rfl,AB Tryz.type3,rfl,AB Tryz.type3,trivial⟩ rfl rfl) (JS.store (v:=.agg #[iV 2,iV Z.1,iV O.1,iV K.1]) (off:=0) 3 rfl rfl rfl cC rfl rfl BV (by simp[Value.cells,A3]) rfl (d4 rfl) λcD=>?_);refine JL.done (AT (S':=[[(dep,.cells #[.slice aO (O.2.1).length aP,iV O.2.2.1,.int .u64 ((O.2.2.2:Nat):Int)] 53 (0,0))],[(Y,.cells aa 3 (0,0))],[],[(al,.cells #[iV 2,iV Z.1,iV O.1,iV K.1] 31 (0,0))],[]]) rfl cD λbf=>?_);have dy:r=((2,Z.1,O.1,K.1),O.2):=(d0 aI).symm;subst r;refine JL.ret (v:=.agg #[iV 2,iV Z.1,iV O.1,iV K.1]) rfl rfl (Ay.list Tryz.func16 rfl (vs:=[.agg #[iV 2,iV Z.1,iV O.1,iV K.1]]) ⟨⟨_,rfl,Ld.many (vs:=[iV 2,iV Z.1,iV O.1,iV K.1]) EW BV (DV (off:=0) 3 bf rfl rfl)⟩,trivial⟩) (F9 3 bf rfl λcE=>?_);exact au _ _ _ _ ((((((ah.trans ab).trans ac).trans ci).trans co).trans be).trans cz) rfl ⟨aO,aP,rfl,(by first | rfl | simp | (simp[Value.cells])),cA⟩ cE;have bg:=aD;rw[d7 aE] at bg;refine JL.skip ?_;refine Bv ?_;refine JL.seq ?_;refine HX 18 [Y] ⟨⟨1,_,rfl⟩,trivial⟩ aj mixed rfl (by decide+kernel) λV=>?_;refine JG.val (v:=.slice (some ⟨Y,0,none⟩) nw ar) 0 rfl V (by decide+kernel) rfl rfl rfl (λρ h s' U=>Yl.move (h _ _ rfl)) ?_;refine JG.val (v:=iV K.1) 1 rfl V (by decide+kernel) rfl rfl rfl (λρ h s' U=>Yl.move (h _ _ rfl)) ?_;let⟨ak,aQ,cF⟩:=bind_some bg;obtain⟨_,rfl,az⟩:=WL.at (hW.Ag ((ah.trans ab).trans ac)) aQ;replace az:∀(j:Nat) w,[iV ak][j]?=some w->aa[Int.toNat (K.1)*1+j]?=some w:=az;refine JG.val (v:=.pointer (some ⟨Y,Int.toNat (K.1)*1,none⟩)) 2 rfl V (by decide+kernel) rfl rfl rfl (λρ h s' U=>GA ((hW.Ag ((ah.trans ab).trans ac))).2 aQ Tryz.underlying22 Aw (h _ _ rfl) (h _ _ rfl)) ?_;refine JG.val (v:=iV ak) 3 rfl V (by decide+kernel) rfl rfl rfl (λρ h s' U=>Yl.load AD (h _ _ rfl) (Dc 1 aj rfl (by simp[AW]) U (az 0 _ rfl))) ?_;refine JG.val (v:=.slice (some ⟨Y,0,none⟩) nw ar) 4 rfl V (by decide+kernel) rfl rfl rfl (λρ h s' U=>Yl.move (h _ _ rfl)) ?_;refine JG.val (v:=iV K.1) 5 rfl V (by decide+kernel) rfl rfl rfl (λρ h s' U=>Yl.move (h _ _ rfl)) ?_;refine JG.val (v:=.pointer (some ⟨Y,Int.toNat (K.1)*1,none⟩)) 6 rfl V (by decide+kernel) rfl rfl rfl (λρ h s' U=>GA ((hW.Ag ((ah.trans ab).trans ac))).2 aQ Tryz.underlying22 Aw (h _ _ rfl) (h _ _ rfl)) ?_;refine JG.val (v:=iV ak) 7 rfl V (by decide+kernel) rfl rfl rfl (λρ h s' U=>Yl.load AD (h _ _ rfl) (Dc 1 aj rfl (by simp[AW]) U (az 0 _ rfl))) ?_;refine JG.val (v:=.pointer (some ⟨dep,0,none⟩)) 8 rfl V (by decide+kernel) rfl rfl rfl (λρ h s' U=>Yl.move (h _ _ rfl)) ?_;refine JG.val (v:=.pointer (some ⟨ag,0,none⟩)) 9 rfl V (by decide+kernel) rfl rfl rfl (λρ h s' U=>Aq (a:=⟨ag,0,none⟩) 0 0 Tryz.underlying26 Aw rfl rfl rfl (h _ _ rfl)) ?_;refine JG.val (v:=iV p1.1) 10 rfl V (by decide+kernel) rfl rfl rfl (λρ h s' U=>Yl.load AD (h _ _ rfl) (At.BS (j:=0) (ao.Ag (ab.trans ac)) (Mt aj U ⟨⟨1,_,rfl⟩,trivial⟩) rfl)) ?_;let⟨bh,cG,cH⟩:=bind_some cF;refine JG.val (v:=iV bh) 11 rfl V (by decide+kernel) rfl rfl rfl (λρ h s' U=>BP (h _ _ rfl) (h _ _ rfl) cG) ?_;refine JG.val (v:=.pointer (some ⟨ag,0,none⟩)) 14 rfl V (by decide+kernel) rfl rfl rfl (λρ h s' U=>Aq (a:=⟨ag,0,none⟩) 0 0 Tryz.underlying26 Aw rfl rfl rfl (h _ _ rfl)) ?_;refine JG.val (v:=iV p1.1) 15 rfl V (by decide+kernel) rfl rfl rfl (λρ h s' U=>Yl.load AD (h _ _ rfl) (At.BS (j:=0) (ao.Ag (ab.trans ac)) (Mt aj U ⟨⟨1,_,rfl⟩,trivial⟩) rfl)) ?_;refine JG.val (v:=iV K.1) 17 rfl V (by decide+kernel) rfl rfl rfl (λρ h s' U=>Yl.move (h _ _ rfl)) ?_;let⟨aA,cI,cJ⟩:=bind_some cH;refine Kf (i:=12) (vs:=[.pointer (some ⟨dep,0,none⟩),iV 1,iV bh]) 0 (by exact λx cK=>Hw.mem (bks:=[Y]) (by exact⟨⟨1,_,rfl⟩,trivial⟩) x (by simpa [AW] using cK)) (Mx aw cI) (by decide+kernel) rfl rfl rfl Lj rfl aj rfl ?_;rintro _ dz _ cM ⟨bi,bj,rfl,rfl,cN⟩ cO;let⟨cP,cQ,cR⟩:=bind_some cJ;refine JG.val (v:=iV cP) 13 rfl V (by decide+kernel) rfl rfl rfl (λρ h s' U=>BH (h _ _ rfl) (h _ _ rfl) cQ) ?_;obtain⟨an,cT,cV⟩:=bind_some cR;refine JG.val (v:=iV an) 16 rfl V (by decide+kernel) rfl rfl rfl (λρ h s' U=>P6 (h _ _ rfl) (h _ _ rfl) cT) ?_;refine AL.leaf (tail:=[18,19]) (by decide+kernel) (λt=>Bb (by decide+kernel) (Bb (by decide+kernel) Cn) t) ?_;refine Ac (v:=.agg #[iV 0,iV ak,iV an,iV K.1]) rfl rfl rfl (λρ h=>Cf [(0,1),(1,1),(2,1),(3,1)] h Ew Tryz.underlying31 ⟨rfl,AB Tryz.type3,rfl,AB Tryz.type3,rfl,AB Tryz.type3,rfl,AB Tryz.type3,trivial⟩ rfl rfl) ?_;refine JS.store (v:=.agg #[iV 0,iV ak,iV an,iV K.1]) (off:=0) 3 rfl rfl rfl cO rfl rfl BV (by simp[Value.cells,A3]) rfl (d4 rfl) λcW=>?_;refine JL.done ?_;refine AT (S':=[[(dep,.cells #[.slice bi (aA.2.1).length bj,iV aA.2.2.1,.int .u64 ((aA.2.2.2:Nat):Int)] 53 (0,0))],[(Y,.cells aa 3 (0,0))],[],[(al,.cells #[iV 0,iV ak,iV an,iV K.1] 31 (0,0))]]) rfl cW λbl=>?_;have dA:r=((0,ak,an,K.1),aA.2):=(d0 cV).symm;subst r;refine JL.ret (v:=.agg #[iV 0,iV ak,iV an,iV K.1]) rfl rfl (Ay.list Tryz.func16 rfl (vs:=[.agg #[iV 0,iV ak,iV an,iV K.1]]) ⟨⟨_,rfl,Ld.many (vs:=[iV 0,iV ak,iV an,iV K.1]) EW BV (DV (off:=0) 3 bl rfl rfl)⟩,trivial⟩) ?_;refine F9 3 bl rfl λcX=>?_;exact au _ _ _ _ (((ah.trans ab).trans ac).trans cM) rfl ⟨bi,bj,rfl,(by first | rfl | simp | (simp[Value.cells])),cN⟩ cX
def Ny(fuel:Nat)(p1:Int×(List Int))(K:(List Int)×Int×Nat×(List (Int×Int×Int×Int))×Int×(List Int)):Option (BX ((List Int)×Int×Nat×(List (Int×Int×Int×Int))×Int×(List Int)) ((List (Int×Int×Int×Int))×(List Int)×Int×Nat×(List Int))):=
 if 0<K.2.2.2.2.1 then(
  (Jj fuel (K.1,K.2.1,K.2.2.1) p1 K.2.2.2.2.2).bind λV=>
  (f32 fuel V.2 6).bind λY=>
  Option.bind (
   if Y.1=true then(
    (Ia fuel Y.2 p1 p1.2).bind λU=>
    some (U.2.1,U.2.2.1,U.2.2.2,U.1.1,U.1.2.1,U.1.2.2.1,U.1.2.2.2)
   ) else(
    some (Y.2.1,Y.2.2.1,Y.2.2.2,V.1.1,V.1.2.1,V.1.2.2.1,V.1.2.2.2)
   )
  ) λO=>
  Option.bind (
   if O.2.2.2.1=0 then(
    (ix K.2.2.2.2.2 (O.2.2.2.2.2.2)).bind λZ=>
    some (decide (Z=O.2.2.2.2.1))
   ) else(
    some false
   )
  ) λaa=>
  Option.bind (
   if aa=true then(
    (ix K.2.2.2.2.2 (O.2.2.2.2.2.2)).bind λag=>
    some (K.2.2.2.2.2.set (Int.toNat O.2.2.2.2.2.2) O.2.2.2.2.2.1)
   ) else(
    some K.2.2.2.2.2
   )
  ) λab=>
  (room K.2.2.2.1 O.2.2.2).bind λac=>
  (AR (K.2.2.2.2.1 - 1)).bind λae=>
  some (.more (O.1,O.2.1,O.2.2.1,ac,ae,ab))
 ) else(
  some (.done (K.2.2.2.1,K.1,K.2.1,K.2.2.1,K.2.2.2.2.2))
 )
def KQ(fuel:Nat)(p0:(List Int)×Int×Nat)(p1:Int×(List Int))(p2:Int):Option ((List (Int×Int×Int×Int))×((List Int)×Int×Nat)):=
 (MB fuel p1.2).bind λU=>
 (ix U (0)).bind λV=>
 (f36 fuel p0 p2).bind λK=>
 Option.bind (iter (Ny fuel p1) fuel (K.2.1,K.2.2.1,K.2.2.2,[],K.1,U)) λO=>
 some (O.1,(O.2.1,O.2.2.1,O.2.2.2.1))
theorem Vt{J:Judge Tryz.prog}{E:LH}{ae:Option Addr}{ag:Nat}{p1:Int×(List Int)}(bQ:AK rI E a1 c2 (p0.1))(aQ:AK rI E ae ag (p1.2)){fuel:Nat}{r:(List (Int×Int×Int×Int))×((List Int)×Int×Nat)}(a8:KQ fuel p0 p1 m'=some r):Ax J 6 [.pointer (some ⟨dep,0,none⟩),.agg #[iV p1.1,.slice ae (p1.2).length ag],iV m'] E [(dep,.cells #[.slice a1 (p0.1).length c2,iV p0.2.1,.int .u64 ((p0.2.2:Nat):Int)] 53 (0,0))] (λw E' B'=>∃(a9:Option Addr) (ba:Nat) (bb:Option Addr) (be:Nat),w=.slice a9 (r.1).length ba/\B'=[(dep,.cells #[.slice bb (r.2.1).length be,iV r.2.2.1,.int .u64 ((r.2.2.2:Nat):Int)] 53 (0,0))]/\AK (rP rI (rP rI (rP rI rI))) E' a9 ba (r.1)/\AK rI E' bb be (r.2.1)):=by
 refine Ax.enter Tryz.func6 rfl (d4 rfl) λQ df cs H bR bS=>?_;unfold KQ at a8;refine JL.seq (JL.region ?_);refine JS.box (v:=.agg #[iV p1.1,.slice ae (p1.2).length ag]) rfl rfl rfl bR rfl λam bT=>A8 1 bT rfl λbU aG aH bV=>?_;replace aH:At bU am 0 [iV p1.1,.slice ae (p1.2).length ag]:=aH;refine Ac (v:=.slice none 0 0) rfl rfl rfl (λρ h=>Yl.assign (h _ _ rfl)) (JL.done ?_);refine JL.seq (JL.region ?_);refine Ac (v:=.pointer (some ⟨am,1,none⟩)) rfl rfl rfl (λρ h=>Aq (a:=⟨am,0,none⟩) 0 1 Tryz.underlying26 Ch rfl rfl rfl (h _ _ rfl)) (Ac (v:=.slice ae (p1.2).length ag) rfl rfl rfl (λρ h=>Yl.load CV (h _ _ rfl) (At.AN (j:=1) aH rfl)) ?_);let⟨ah,bW,bX⟩:=bind_some a8;refine JS.call (vs:=[.slice ae (p1.2).length ag]) (Vb (aQ.Ag aG) bW) rfl rfl rfl (A4 Tryz.func15 rfl) rfl bV ?_;rintro _ dg dh au ⟨bY,ai,_,rfl,rfl,bZ⟩ b2;refine Ac (v:=.slice bY (ah).length ai) rfl rfl rfl (λρ h=>Yl.assign (h _ _ rfl)) (JL.done ?_);refine JL.seq (JL.region ?_);refine Ac (v:=.slice none 0 0) rfl rfl rfl (λρ h=>Yl.assign (h _ _ rfl)) (JL.done ?_);refine JL.seq (JL.seq ?_);let⟨di,b3,b4⟩:=bind_some bX;let⟨U,f26,b5,b6⟩:=WL.of bZ b3;obtain⟨rfl,rfl⟩:=b5;refine JL.region (Ac (v:=.pointer (some ⟨dep,0,none⟩)) rfl rfl rfl (λρ h=>Yl.move (h _ _ rfl)) ?_);refine Ac (v:=iV m') rfl rfl rfl (λρ h=>Yl.move (h _ _ rfl)) ?_;let⟨aK,b7,b8⟩:=bind_some b4;refine DI (vs:=[.pointer (some ⟨dep,0,none⟩),iV m']) 0 (Ef (bQ.Ag (aG.trans au)) b7) rfl rfl rfl Ed rfl b2 rfl ?_;rintro _ aV _ av ⟨bf,bg,rfl,rfl,b9⟩ ca;refine AT (S':=[[(dep,.cells #[.slice bf (aK.2.1).length bg,iV aK.2.2.1,.int .u64 ((aK.2.2.2:Nat):Int)] 53 (0,0))],[],[(U,.cells f26 3 (0,0))]]) rfl ca λcb=>Ac (v:=iV aK.1) rfl rfl rfl (λρ h=>Yl.assign (h _ _ rfl)) (JL.done ?_);let⟨Z,cc,cd⟩:=bind_some b8;refine Bj (λL s=>∃(aE:LH) (aw:Option Addr) (ay:Nat) (aR:Seg) (aL:Option Addr) (aM:Nat) (f68:Av_),L=[(8,.slice aw (Z.1).length ay)]/\s=Ae aE H [[(dep,.cells #[.slice aL (Z.2.1).length aM,iV Z.2.2.1,.int .u64 ((Z.2.2.2.1:Nat):Int)] 53 (0,0))],[(U,.cells f68 3 (0,0))],aR]/\Le aV aE/\Ak aE H [[(dep,.cells #[.slice aL (Z.2.1).length aM,iV Z.2.2.1,.int .u64 ((Z.2.2.2.1:Nat):Int)] 53 (0,0))],[(U,.cells f68 3 (0,0))],aR]/\OL 31 (rP rI (rP rI (rP rI rI))) aE aw ay aR (Z.1)/\AK rI aE aL aM (Z.2.1)/\WL 3 rI aE U ai (ah).length f68 (Z.2.2.2.2)) ?_ ?_;rintro _ _ ⟨aE,aw,ay,aR,aL,aM,f68,rfl,rfl,ce,cg,ci,ck,dj⟩;refine JL.seq (JL.region ?_);refine Ac (v:=.slice aw (Z.1).length ay) rfl rfl rfl (λρ h=>Yl.move (h _ _ rfl)) (Ac (v:=.slice aw (Z.1).length ay) rfl rfl rfl (λρ h=>Yl.assign (h _ _ rfl)) ?_);refine JL.done (CP 2 ci cg rfl λdk bh cm co=>?_);refine JS.drop 1 co rfl λcp=>?_;have dm:r=(Z.1,(Z.2.1,Z.2.2.1,Z.2.2.2.1)):=(d0 cd).symm;subst r;exact JL.ret (v:=.slice aw (Z.1).length ay) rfl rfl (Ay.list Tryz.func6 rfl (vs:=[.slice aw (Z.1).length ay]) ⟨rfl,trivial⟩) (bS _ _ _ _ ((((aG.trans au).trans av).trans ce).trans bh) rfl ⟨aw,ay,aL,aM,rfl,rfl,cm,(ck.Ag bh)⟩ cp);intro cq;refine JL.block (Ap (L':=[(0,.pointer (some ⟨dep,0,none⟩)),(4,.pointer (some ⟨am,0,none⟩)),(7,.slice (some ⟨U,0,none⟩) (ah).length ai),(8,.slice none 0 0),(9,iV aK.1)]) ⟨rfl,rfl,rfl,rfl,rfl,trivial⟩ ?_);refine CG cc (λL s O=>∃(az:LH) (aN:Option Addr) (aO:Nat) (an:Option Addr) (ao:Nat) (aj:Seg) (f89:Av_),L=[(0,.pointer (some ⟨dep,0,none⟩)),(4,.pointer (some ⟨am,0,none⟩)),(7,.slice (some ⟨U,0,none⟩) (ah).length ai),(8,.slice an (O.2.2.2.1).length ao),(9,iV O.2.2.2.2.1)]/\s=Ae az H [[(dep,.cells #[.slice aN (O.1).length aO,iV O.2.1,.int .u64 ((O.2.2.1:Nat):Int)] 53 (0,0))],[(U,.cells f89 3 (0,0))],aj]/\Le aV az/\Ak az H [[(dep,.cells #[.slice aN (O.1).length aO,iV O.2.1,.int .u64 ((O.2.2.1:Nat):Int)] 53 (0,0))],[(U,.cells f89 3 (0,0))],aj]/\AK rI az aN aO (O.1)/\OL 31 (rP rI (rP rI (rP rI rI))) az an ao aj (O.2.2.2.1)/\WL 3 rI az U ai (ah).length f89 (O.2.2.2.2.2)) ⟨aV,bf,bg,none,0,[],f26,rfl,rfl,(Le.refl _),cb,b9,OL.nil,(b6.Ag av)⟩ ?_;rintro _ _ O ⟨az,aN,aO,an,ao,aj,f89,rfl,rfl,aA,bi,bj,bl,ap⟩ cr ⟨aS,aW⟩ ct;have aX:=aW;unfold Ny at aX;refine JL.seq (JL.seq ?_);refine JL.region (Ac (v:=iV O.2.2.2.2.1) rfl rfl rfl (λρ h=>Yl.move (h _ _ rfl)) ?_);refine Ac (v:=.bool (decide (0<O.2.2.2.2.1))) rfl rfl rfl (λρ h=>Yl.gtr (h _ _ rfl) (h _ _ rfl)) (JL.done ?_);refine AU (p:=0<O.2.2.2.2.1) rfl (λaY=>?_) (λaY=>?_);have bm:=aX;rw[d5 aY] at bm;refine JL.skip ?_;refine JL.seq ?_;refine JL.block ?_;refine JL.seq ?_;refine JL.region ?_;refine Ac (v:=.pointer (some ⟨dep,0,none⟩)) rfl rfl rfl (λρ h=>Yl.move (h _ _ rfl)) ?_;refine Ac (v:=.agg #[iV p1.1,.slice ae (p1.2).length ag]) rfl rfl rfl (λρ h=>Bm (vs:=[iV p1.1,.slice ae (p1.2).length ag]) FC Ex (h _ _ rfl) (At.Cl (aH.Ag ((au.trans av).trans aA)))) ?_;refine Ac (v:=.slice (some ⟨U,0,none⟩) (ah).length ai) rfl rfl rfl (λρ h=>Yl.move (h _ _ rfl)) ?_;let⟨aa,cu,cw⟩:=bind_some bm;refine Tg 0 1 rfl rfl bi λcy=>?_;refine DI (vs:=[.pointer (some ⟨dep,0,none⟩),.agg #[iV p1.1,.slice ae (p1.2).length ag],.slice (some ⟨U,0,none⟩) (ah).length ai]) 0 (TR bj (aQ.Ag (((aG.trans au).trans av).trans aA)) ap cu) rfl rfl rfl (A4 Tryz.func16 rfl) rfl cy rfl ?_;rintro _ dn _ ak ⟨bn,bo,rfl,rfl,cz⟩ cA;refine Qh 0 rfl cA λcB=>?_;refine AT (S':=[[(dep,.cells #[.slice bn (aa.2.1).length bo,iV aa.2.2.1,.int .u64 ((aa.2.2.2:Nat):Int)] 53 (0,0))],[],aj,[(U,.cells f89 3 (0,0))]]) rfl cB λcC=>?_;refine JS.alloc rfl rfl rfl cC Ew λY cD=>?_;refine JS.store (v:=.agg #[iV aa.1.1,iV aa.1.2.1,iV aa.1.2.2.1,iV aa.1.2.2.2]) (off:=0) 4 rfl rfl rfl cD rfl rfl BV (by simp[Value.cells,A3]) rfl (d4 rfl) λcE=>?_;refine AT (S':=[[(dep,.cells #[.slice bn (aa.2.1).length bo,iV aa.2.2.1,.int .u64 ((aa.2.2.2:Nat):Int)] 53 (0,0))],[],aj,[(U,.cells f89 3 (0,0))],[(Y,.cells #[iV aa.1.1,iV aa.1.2.1,iV aa.1.2.2.1,iV aa.1.2.2.2] 31 (0,0))]]) rfl cE λcF=>?_;refine JL.done ?_;refine JL.seq ?_;refine JL.seq ?_;refine JL.region ?_;refine Ac (v:=.pointer (some ⟨dep,0,none⟩)) rfl rfl rfl (λρ h=>Yl.move (h _ _ rfl)) ?_;let⟨aT,cG,cH⟩:=bind_some cw;refine DI (vs:=[.pointer (some ⟨dep,0,none⟩),iV 6]) 0 (WW cz cG) rfl rfl rfl (A4 Tryz.func17 rfl) rfl cF rfl ?_;rintro _ bp _ al ⟨cI,cJ,rfl,rfl,bq⟩ br;refine JL.done ?_;let⟨K,bu,cK⟩:=bind_some cH;refine Bj (λL s=>∃(aq:LH) (aB:Option Addr) (aC:Nat),L=[(0,.pointer (some ⟨dep,0,none⟩)),(4,.pointer (some ⟨am,0,none⟩)),(7,.slice (some ⟨U,0,none⟩) (ah).length ai),(8,.slice an (O.2.2.2.1).length ao),(9,iV O.2.2.2.2.1),(10,.pointer (some ⟨Y,0,none⟩))]/\s=Ae aq H [[(dep,.cells #[.slice aB (K.1).length aC,iV K.2.1,.int .u64 ((K.2.2.1:Nat):Int)] 53 (0,0))],aj,[(U,.cells f89 3 (0,0))],[(Y,.cells #[iV K.2.2.2.1,iV K.2.2.2.2.1,iV K.2.2.2.2.2.1,iV K.2.2.2.2.2.2] 31 (0,0))]]/\Le bp aq/\Ak aq H [[(dep,.cells #[.slice aB (K.1).length aC,iV K.2.1,.int .u64 ((K.2.2.1:Nat):Int)] 53 (0,0))],aj,[(U,.cells f89 3 (0,0))],[(Y,.cells #[iV K.2.2.2.1,iV K.2.2.2.2.1,iV K.2.2.2.2.2.1,iV K.2.2.2.2.2.2] 31 (0,0))]]/\AK rI aq aB aC (K.1)) ?_ ?_;rintro _ _ ⟨aq,aB,aC,rfl,rfl,aD,ar,cM⟩;refine JL.seq (JL.seq ?_);refine HX 13 [Y,U] ⟨⟨3,_,rfl⟩,⟨2,_,rfl⟩,trivial⟩ ar mixed rfl (by decide+kernel) λV=>JG.val (v:=.pointer (some ⟨Y,0,none⟩)) 0 rfl V (by decide+kernel) rfl rfl rfl (λρ h s' ac=>Aq (a:=⟨Y,0,none⟩) 0 0 Tryz.underlying31 Aw rfl rfl rfl (h _ _ rfl)) (JG.val (v:=iV K.2.2.2.1) 1 rfl V (by decide+kernel) rfl rfl rfl (λρ h s' ac=>Yl.load AD (h _ _ rfl) (Dc (o:=0) 3 ar rfl (by simp[AW]) ac rfl)) ?_);refine JG.val (v:=.bool (decide (K.2.2.2.1=0))) 2 rfl V (by decide+kernel) rfl rfl rfl (λρ h s' ac=>Yl.eql (h _ _ rfl) (h _ _ rfl)) (JG.val (v:=.bool (decide (K.2.2.2.1=0))) 3 rfl V (by decide+kernel) rfl rfl rfl (λρ h s' ac=>Yl.move (h _ _ rfl)) ?_);let⟨aI,bv,cN⟩:=bind_some cK;refine PW 0 (tR_ 13 0) (λL s=>L=[(0,.pointer (some ⟨dep,0,none⟩)),(4,.pointer (some ⟨am,0,none⟩)),(7,.slice (some ⟨U,0,none⟩) (ah).length ai),(8,.slice an (O.2.2.2.1).length ao),(9,iV O.2.2.2.2.1),(10,.pointer (some ⟨Y,0,none⟩)),(44,.bool aI)]/\s=Ae aq H [[(dep,.cells #[.slice aB (K.1).length aC,iV K.2.1,.int .u64 ((K.2.2.1:Nat):Int)] 53 (0,0))],aj,[(U,.cells f89 3 (0,0))],[(Y,.cells #[iV K.2.2.2.1,iV K.2.2.2.2.1,iV K.2.2.2.2.2.1,iV K.2.2.2.2.2.2] 31 (0,0))]]) ?_ ?_;rintro _ _ ⟨rfl,rfl⟩;refine AL.fin (by decide+kernel) ?_;let⟨aF,bw,cO⟩:=bind_some cN;refine Bj (λL s=>∃(aJ:LH) (f144:Av_),L=[(0,.pointer (some ⟨dep,0,none⟩)),(4,.pointer (some ⟨am,0,none⟩)),(7,.slice (some ⟨U,0,none⟩) (ah).length ai),(8,.slice an (O.2.2.2.1).length ao),(9,iV O.2.2.2.2.1),(10,.pointer (some ⟨Y,0,none⟩))]/\s=Ae aJ H [[(dep,.cells #[.slice aB (K.1).length aC,iV K.2.1,.int .u64 ((K.2.2.1:Nat):Int)] 53 (0,0))],aj,[(U,.cells f144 3 (0,0))],[(Y,.cells #[iV K.2.2.2.1,iV K.2.2.2.2.1,iV K.2.2.2.2.2.1,iV K.2.2.2.2.2.2] 31 (0,0))]]/\Le aq aJ/\Ak aJ H [[(dep,.cells #[.slice aB (K.1).length aC,iV K.2.1,.int .u64 ((K.2.2.1:Nat):Int)] 53 (0,0))],aj,[(U,.cells f144 3 (0,0))],[(Y,.cells #[iV K.2.2.2.1,iV K.2.2.2.2.1,iV K.2.2.2.2.2.1,iV K.2.2.2.2.2.2] 31 (0,0))]]/\WL 3 rI aJ U ai (ah).length f144 (aF)) ?_ ?_;rintro _ _ ⟨aJ,f144,rfl,rfl,aZ,bx,cP⟩;refine JL.region (Ac (v:=.slice an (O.2.2.2.1).length ao) rfl rfl rfl (λρ h=>Yl.move (h _ _ rfl)) ?_);refine Ac (v:=.agg #[iV K.2.2.2.1,iV K.2.2.2.2.1,iV K.2.2.2.2.2.1,iV K.2.2.2.2.2.2]) rfl rfl rfl (λρ h=>Bm (vs:=[iV K.2.2.2.1,iV K.2.2.2.2.1,iV K.2.2.2.2.2.1,iV K.2.2.2.2.2.2]) EW BV (h _ _ rfl) (DV (off:=0) 3 bx rfl rfl)) ?_;let⟨a2,cQ,cR⟩:=bind_some cO;refine JS.app (pp:=(rP rI (rP rI (rP rI rI)))) (v:=.agg #[iV K.2.2.2.1,iV K.2.2.2.2.1,iV K.2.2.2.2.2.1,iV K.2.2.2.2.2.2]) (a:=an) (c:=ao) 1 cQ rfl rfl rfl rfl (λ_=>rfl) rfl (λ_=>rfl) rfl rfl rfl Tryz.underlying28 Tryz.underlying28 Tryz.underlying28 BV (EK Tryz.type31) Ew rfl (by decide) (by decide) (by decide) (by decide) (bl.Ag (((ak.trans al).trans aD).trans aZ)) ⟨_,_,rfl,rfl,⟨_,_,rfl,rfl,⟨_,_,rfl,rfl,rfl⟩⟩⟩ bx rfl λdp bz bA cT cV cW=>Ac (v:=.slice bz (a2).length bA) rfl rfl rfl (λρ h=>Yl.assign (h _ _ rfl)) (JL.done ?_);refine Bv (JL.region ?_);refine Ac (v:=iV O.2.2.2.2.1) rfl rfl rfl (λρ h=>Yl.move (h _ _ rfl)) ?_;let⟨aU,cX,cY⟩:=bind_some cR;refine Ac (v:=iV aU) rfl rfl rfl (λρ h=>BP (h _ _ rfl) (h _ _ rfl) cX) (Ac (v:=iV aU) rfl rfl rfl (λρ h=>Yl.assign (h _ _ rfl)) ?_);refine JL.done (JS.drop 3 cW rfl λcZ=>?_);refine JS.swap 1 2 rfl rfl rfl cZ λc0=>?_;have dq:aS=.more (K.1,K.2.1,K.2.2.1,a2,aU,aF):=(d0 cY).symm;subst aS;refine Ap ?_ (ct _ _ (K.1,K.2.1,K.2.2.1,a2,aU,aF) ⟨aJ,aB,aC,bz,bA,cT,f144,rfl,rfl,((((aA.trans ak).trans al).trans aD).trans aZ),c0,(cM.Ag aZ),cV,cP⟩ aW);exact⟨rfl,rfl,rfl,rfl,rfl,trivial⟩;intro bB;refine CK (t:=aI) rfl (λa3=>?_) (λa3=>?_);have bC:=bw;rw[d5 a3] at bC;refine JL.region ?_;refine Ac (v:=.slice (some ⟨U,0,none⟩) (ah).length ai) rfl rfl rfl (λρ h=>Yl.move (h _ _ rfl)) ?_;refine Ac (v:=.pointer (some ⟨Y,3,none⟩)) rfl rfl rfl (λρ h=>Aq (a:=⟨Y,0,none⟩) 0 3 Tryz.underlying31 Aw rfl rfl rfl (h _ _ rfl)) ?_;refine Ac (v:=iV K.2.2.2.2.2.2) rfl rfl rfl (λρ h=>Yl.load AD (h _ _ rfl) (CB (j:=3) (off:=3) ar rfl rfl)) ?_;refine Ac (v:=.pointer (some ⟨Y,2,none⟩)) rfl rfl rfl (λρ h=>Aq (a:=⟨Y,0,none⟩) 0 2 Tryz.underlying31 Aw rfl rfl rfl (h _ _ rfl)) ?_;refine Ac (v:=iV K.2.2.2.2.2.1) rfl rfl rfl (λρ h=>Yl.load AD (h _ _ rfl) (CB (j:=3) (off:=2) ar rfl rfl)) ?_;let⟨c3,a4,c4⟩:=bind_some bC;obtain⟨_,rfl,bD⟩:=WL.at (ap.Ag ((ak.trans al).trans aD)) a4;replace bD:∀(j:Nat) w,[iV c3][j]?=some w->f89[Int.toNat (K.2.2.2.2.2.2)*1+j]?=some w:=bD;refine Ac (v:=.pointer (some ⟨U,Int.toNat (K.2.2.2.2.2.2)*1,none⟩)) rfl rfl rfl (λρ h=>GA ((ap.Ag ((ak.trans al).trans aD))).2 a4 Tryz.underlying22 Aw (h _ _ rfl) (h _ _ rfl)) ?_;have bE:=WL.put (x':=K.2.2.2.2.2.1) (ws':=[iV K.2.2.2.2.2.1]) (ap.Ag ((ak.trans al).trans aD)) ap.2 a4 rfl;refine JS.store (v:=iV K.2.2.2.2.2.1) (off:=Int.toNat (K.2.2.2.2.2.2)*1) 2 rfl rfl rfl ar rfl rfl Aw (by simp[Value.cells,A3]) rfl bE.2 λc5=>?_;refine JL.done ?_;have dr:aF=(O.2.2.2.2.2.set (Int.toNat K.2.2.2.2.2.2) K.2.2.2.2.2.1):=(d0 c4).symm;subst aF;refine Ap ?_ (bB _ _ ⟨aq,(Bf f89 (Int.toNat (K.2.2.2.2.2.2)*1) [iV K.2.2.2.2.2.1]),rfl,rfl,(Le.refl _),c5,bE.1⟩);exact⟨rfl,rfl,rfl,rfl,rfl,rfl,trivial⟩;have bF:=bw;rw[d7 (by rw[a3];exact f8)] at bF;refine JL.skip ?_;have dt:aF=O.2.2.2.2.2:=(d0 bF).symm;subst aF;refine Ap ?_ (bB _ _ ⟨aq,f89,rfl,rfl,(Le.refl _),ar,(ap.Ag ((ak.trans al).trans aD))⟩);exact⟨rfl,rfl,rfl,rfl,rfl,rfl,trivial⟩;intro bG;refine O4 (q:=K.2.2.2.1=0) (i:=35) rfl (λa5=>?_) (λa5=>?_);have bH:=bv;rw[d5 a5] at bH;refine JG.val (v:=.slice (some ⟨U,0,none⟩) (ah).length ai) 4 rfl V (by decide+kernel) rfl rfl rfl (λρ h s' ac=>Yl.move (h _ _ rfl)) ?_;refine JG.val (v:=.pointer (some ⟨Y,3,none⟩)) 5 rfl V (by decide+kernel) rfl rfl rfl (λρ h s' ac=>Aq (a:=⟨Y,0,none⟩) 0 3 Tryz.underlying31 Aw rfl rfl rfl (h _ _ rfl)) ?_;refine JG.val (v:=iV K.2.2.2.2.2.2) 6 rfl V (by decide+kernel) rfl rfl rfl (λρ h s' ac=>Yl.load AD (h _ _ rfl) (Dc (o:=3) 3 ar rfl (by simp[AW]) ac rfl)) ?_;let⟨aP,bI,c6⟩:=bind_some bH;obtain⟨_,rfl,a6⟩:=WL.at (ap.Ag ((ak.trans al).trans aD)) bI;replace a6:∀(j:Nat) w,[iV aP][j]?=some w->f89[Int.toNat (K.2.2.2.2.2.2)*1+j]?=some w:=a6;refine JG.val (v:=.pointer (some ⟨U,Int.toNat (K.2.2.2.2.2.2)*1,none⟩)) 7 rfl V (by decide+kernel) rfl rfl rfl (λρ h s' ac=>GA ((ap.Ag ((ak.trans al).trans aD))).2 bI Tryz.underlying22 Aw (h _ _ rfl) (h _ _ rfl)) ?_;refine JG.val (v:=iV aP) 8 rfl V (by decide+kernel) rfl rfl rfl (λρ h s' ac=>Yl.load AD (h _ _ rfl) (Dc 2 ar rfl (by simp[AW]) ac (a6 0 _ rfl))) ?_;refine JG.val (v:=.pointer (some ⟨Y,1,none⟩)) 9 rfl V (by decide+kernel) rfl rfl rfl (λρ h s' ac=>Aq (a:=⟨Y,0,none⟩) 0 1 Tryz.underlying31 Aw rfl rfl rfl (h _ _ rfl)) ?_;refine JG.val (v:=iV K.2.2.2.2.1) 10 rfl V (by decide+kernel) rfl rfl rfl (λρ h s' ac=>Yl.load AD (h _ _ rfl) (Dc (o:=1) 3 ar rfl (by simp[AW]) ac rfl)) ?_;refine JG.val (v:=.bool (decide (aP=K.2.2.2.2.1))) 11 rfl V (by decide+kernel) rfl rfl rfl (λρ h s' ac=>Yl.eql (h _ _ rfl) (h _ _ rfl)) ?_;refine JG.val (v:=.bool (decide (aP=K.2.2.2.2.1))) 12 rfl V (by decide+kernel) rfl rfl rfl (λρ h s' ac=>Ci (h _ _ rfl) (h _ _ rfl)) ?_;have du:aI=(decide (aP=K.2.2.2.2.1)):=(d0 c6).symm;subst aI;refine LR ?_ (bG _ _ ⟨rfl,rfl⟩);exact⟨rfl,rfl,rfl,rfl,rfl,rfl,rfl,trivial⟩;have bJ:=bv;rw[d7 a5] at bJ;refine DN 4 rfl V (by decide+kernel) rfl rfl rfl ?_;refine DN 5 rfl V (by decide+kernel) rfl rfl rfl ?_;refine DN 6 rfl V (by decide+kernel) rfl rfl rfl ?_;refine DN 7 rfl V (by decide+kernel) rfl rfl rfl ?_;refine DN 8 rfl V (by decide+kernel) rfl rfl rfl ?_;refine DN 9 rfl V (by decide+kernel) rfl rfl rfl ?_;refine DN 10 rfl V (by decide+kernel) rfl rfl rfl ?_;refine DN 11 rfl V (by decide+kernel) rfl rfl rfl ?_;refine JG.val (v:=.bool false) 12 rfl V (by decide+kernel) rfl rfl rfl (λρ h s' ac=>CF (h _ _ rfl) (h _ _ rfl)) ?_;have dv:aI=false:=(d0 bJ).symm;subst aI;refine LR ?_ (bG _ _ ⟨rfl,rfl⟩);exact⟨rfl,rfl,rfl,rfl,rfl,rfl,rfl,trivial⟩;intro bK;refine CK (t:=aT.1) rfl (λa7=>?_) (λa7=>?_);have bL:=bu;rw[d5 a7] at bL;refine JL.region ?_;refine Ac (v:=.pointer (some ⟨dep,0,none⟩)) rfl rfl rfl (λρ h=>Yl.move (h _ _ rfl)) ?_;refine Ac (v:=.agg #[iV p1.1,.slice ae (p1.2).length ag]) rfl rfl rfl (λρ h=>Bm (vs:=[iV p1.1,.slice ae (p1.2).length ag]) FC Ex (h _ _ rfl) (At.Cl (aH.Ag ((((au.trans av).trans aA).trans ak).trans al)))) ?_;refine Ac (v:=.pointer (some ⟨am,1,none⟩)) rfl rfl rfl (λρ h=>Aq (a:=⟨am,0,none⟩) 0 1 Tryz.underlying26 Ch rfl rfl rfl (h _ _ rfl)) ?_;refine Ac (v:=.slice ae (p1.2).length ag) rfl rfl rfl (λρ h=>Yl.load CV (h _ _ rfl) (At.AN (j:=1) (aH.Ag ((((au.trans av).trans aA).trans ak).trans al)) rfl)) ?_;let⟨ab,c7,c8⟩:=bind_some bL;refine DI (vs:=[.pointer (some ⟨dep,0,none⟩),.agg #[iV p1.1,.slice ae (p1.2).length ag],.slice ae (p1.2).length ag]) 0 (T6 bq (aQ.Ag (((((aG.trans au).trans av).trans aA).trans ak).trans al)) (aQ.Ag (((((aG.trans au).trans av).trans aA).trans ak).trans al)) c7) rfl rfl rfl (A4 Tryz.func16 rfl) rfl br rfl ?_;rintro _ c9 _ da ⟨bM,bN,rfl,rfl,db⟩ dc;refine JS.store (v:=.agg #[iV ab.1.1,iV ab.1.2.1,iV ab.1.2.2.1,iV ab.1.2.2.2]) (off:=0) 4 rfl rfl rfl dc rfl rfl BV (by simp[Value.cells,A3]) rfl (d4 rfl) λdd=>?_;refine AT (S':=[[(dep,.cells #[.slice bM (ab.2.1).length bN,iV ab.2.2.1,.int .u64 ((ab.2.2.2:Nat):Int)] 53 (0,0))],[],aj,[(U,.cells f89 3 (0,0))],[(Y,.cells #[iV ab.1.1,iV ab.1.2.1,iV ab.1.2.2.1,iV ab.1.2.2.2] 31 (0,0))]]) rfl dd λde=>?_;refine JL.done ?_;have dw:K=(ab.2.1,ab.2.2.1,ab.2.2.2,ab.1.1,ab.1.2.1,ab.1.2.2.1,ab.1.2.2.2):=(d0 c8).symm;subst K;refine Ap ?_ (bK _ _ ⟨c9,bM,bN,rfl,rfl,da,de,db⟩);exact⟨rfl,rfl,rfl,rfl,rfl,rfl,trivial⟩;have bO:=bu;rw[d7 (by rw[a7];exact f8)] at bO;refine JL.skip ?_;have dx:K=(aT.2.1,aT.2.2.1,aT.2.2.2,aa.1.1,aa.1.2.1,aa.1.2.2.1,aa.1.2.2.2):=(d0 bO).symm;subst K;refine Ap ?_ (bK _ _ ⟨bp,cI,cJ,rfl,rfl,(Le.refl _),br,bq⟩);exact⟨rfl,rfl,rfl,rfl,rfl,rfl,trivial⟩;have bP:=aX;rw[d7 aY] at bP;refine JL.exit rfl ?_;have dy:aS=.done (O.2.2.2.1,O.1,O.2.1,O.2.2.1,O.2.2.2.2.2):=(d0 bP).symm;subst aS;have dz:Z=(O.2.2.2.1,O.1,O.2.1,O.2.2.1,O.2.2.2.2.2):=(cr _ aW).symm;subst Z;refine Ap ?_ (cq _ _ ⟨az,an,ao,aj,aN,aO,f89,rfl,rfl,aA,bi,bl,bj,ap⟩);exact⟨rfl,trivial⟩
end Pal
namespace Pal
open Go Go.Conc
def Fh{P:Program}(J:Judge P)(v:Value)(name:String)(args:Lv_)(E:LH)(B:Seg)(R:Value->LH->Seg->Prop):Prop:=
 ∃t rv rv' f,v=.iface t rv/\Dd P f=true/\(∀{s:St}{X:Halt->St->Prop}{Q:FuncId×Value->St->Prop},Q (f,rv') s->lp P (Go.method (P.types.size+Made.depth) t rv name) s Q X)/\Ax J f (rv'::args) E B R
variable{rv:Value}
theorem Fh.mk{P:Program}{J:Judge P}{name:String}{args:Lv_}{E:LH}{B:Seg}{R:Value->LH->Seg->Prop}{t:TypeId}{rv':Value}{f:FuncId}(h1:Dd P f=true)(K:∀{s:St}{X:Halt->St->Prop}{Q:FuncId×Value->St->Prop},Q (f,rv') s->lp P (Go.method (P.types.size+Made.depth) t rv name) s Q X)(O:Ax J f (rv'::args) E B R):Fh J (.iface t rv) name args E B R:=⟨t,rv,rv',f,V,h1,K,O⟩
variable {P:Program}{Q:Gs_}{b:Frame}{n:Nat}{L:Env}{ds:Ld_}{k:Li_}{cs:Lf_}{E H:LH}{S:List Seg}{i:Nat}{rest:List Nat}{d:Option Tmp}{ty t:TypeId}{p:String}{af:Ae_}{g:On_}{ops:Ao_}
section
variable {J:Judge P}{e:TypeId}
end
variable {s:St}{ρ:Operand->Value}{xt:TypeId}
section
variable {x:Operand}
end
def NZ(k:Nat)(x:Int×Int×Int):Lv_:=[iV x.1,iV x.2.1,iV x.2.2].take k
def BQ(ts:List (TypeId×Nat))(x:Nat×Int×Int×Int):Value:=match ts[x.1]? with
 | some (t,k)=>.iface t (.agg (NZ k x.2).toArray)
 | none=>.nilIface
def Xm(ts:List (TypeId×Nat)):Rp (Nat×Int×Int×Int):=⟨1,λ_ ws x=>ws=[BQ ts x]/\x.1<=ts.length,λ_ h=>h,λ⟨h,_⟩=>by rw[h];rfl,λ⟨h,_⟩=>by subst h;intro w hw;cases d6.1 hw;unfold BQ;split<;>rfl⟩
def vF(x:Nat×Int×Int×Int)(c k:Nat):Int:=if x.1=c then(match k with | 0=>x.2.1 | 1=>x.2.2.1 | _=>x.2.2.2) else 0
variable{ts:List (TypeId×Nat)}{q:Nat×Int×Int×Int}{ms:Array (String×TypeId)}{X:Halt->St->Prop}
section
variable {x:Operand}
theorem Ey{c k:Nat}{K:TypeId}{f1:Array Field}(Y:ts[c]?=some (K,k))(h1:P.underlying K=some (.struct f1))(U:zeroOf P K=some (.agg (NZ k (0,0,0)).toArray))
  (Z:∀r,r<ts.length->r≠c->(ts.getD r (0,0)).1≠K) (aa:ρ x=BQ ts q):
  Yl P ⟨d,.typeAssert x xt K true,ty,p,af,g⟩ ρ s (.tuple #[.agg (NZ k (vF q c 0,vF q c 1,vF q c 2)).toArray,.bool (decide (q.1=c))]):=by
 refine FG (sm:=Instr.typeAssert (ρ x) xt K true) rfl ?_;rw[aa];unfold Instr.typeAssert BQ;refine AG _ _ (CE h1 ?_);by_cases h:q.1=c
 .rw [h,Y];have O:(vF q c 0,vF q c 1,vF q c 2)=q.2:=by simp[vF,h]
  simp only[d5];rw[O];exact⟨by simp,rfl⟩
 .have O:(vF q c 0,vF q c 1,vF q c 2)=(0,0,0):=by simp[vF,h]
  rw[O,show decide (q.1=c)=false by simp[h]];cases V:ts[q.1]? with
  | none=>exact AG (x:=zeroValue K) _ (HT U ⟨rfl,rfl⟩)
  | some z=>
   obtain⟨t,k'⟩:=z;have ab:q.1<ts.length:=(d8.1 V).1;have ac:ts.getD q.1 (0,0)=(t,k'):=by simp[List.getD,V]
   have:=Z q.1 ab h;rw[ac] at this;simp only[d7 this];exact AG (x:=zeroValue K) _ (HT U ⟨rfl,rfl⟩)
theorem R9{t:TypeId}{v:Value}{n:Nat}(O:P.underlying t=some (.interface ms)){b:Bool}(he:(v=.nilIface/\b=true)∨∃K w,v=.iface K w/\b=false){Q:Bool->St->Prop}(k:Q b s):lp P (Op.equalIn (n+1) t v .nilIface) s Q X:=by
 unfold Op.equalIn;refine AG _ _ (CE O ?_);rcases he with⟨rfl,rfl⟩ | ⟨K,w,rfl,rfl⟩;exact k;exact k
theorem Sy{t u:TypeId}(V:P.underlying t=some (.interface ms))(Y:ρ x=BQ ts q)(Z:ρ (.const .nilIface)=.nilIface):Yl P ⟨d,.binOp .neq t x (.const .nilIface) u,ty,p,af,g⟩ ρ s (.bool (decide (q.1<ts.length))):=by
 refine FG (sm:=do eqGuard .neq t x (.const .nilIface) (ρ x) (ρ (.const .nilIface));binOp .neq t (ρ x) (ρ (.const .nilIface))) rfl ?_
 rw[Y,Z];have O:(BQ ts q=.nilIface/\¬q.1<ts.length)∨((∃K w,BQ ts q=.iface K w)/\q.1<ts.length):=by
  unfold BQ;cases U:ts[q.1]? with
  | none=>exact .inl ⟨rfl,by have:=List.getElem?_eq_none_iff.1 U;omega⟩
  | some z=>exact .inr ⟨⟨_,_,rfl⟩,(d8.1 U).1⟩
 have aa:lp P (eqGuard .neq t x (.const .nilIface) (BQ ts q) .nilIface) s (λ_ s'=>s'=s) (λ_ _=>False):=by
  rcases O with⟨e,_⟩ | ⟨⟨K,w,e⟩,_⟩<;>rw[e]<;>simp[eqGuard,lp,pure]
 refine AG _ _ (CL _ aa ?_ (λ_ _ h=>h));rintro _ _ rfl;have hb:binOp .neq t (BQ ts q) .nilIface=(do pure (.bool (!(← Op.equal t (BQ ts q) .nilIface)))):=by
  rcases O with⟨e,_⟩ | ⟨⟨K,w,e⟩,_⟩<;>rw[e]<;>rfl
 rw[hb];refine AG (x:=Op.equal t (BQ ts q) .nilIface) _ ?_;unfold Op.equal Op.maxDepth;refine R9 (b:=decide (¬q.1<ts.length)) V ?_ ?_;rcases O with⟨e,h⟩ | ⟨⟨K,w,e⟩,h⟩;exact .inl ⟨e,by simp[h]⟩;exact .inr ⟨K,w,e,by simp[h]⟩;refine⟨?_,rfl⟩;by_cases h:q.1<ts.length<;>simp[h]<;>omega
end
open Go.Proofs
def Jt(fuel:Nat)(p0:Int×Int×Int×Int):Option ((Nat×Int×Int×Int)):=
 if p0.1=0 then(
  some (0,p0.2.1,p0.2.2.1,p0.2.2.2)
 ) else(
  if p0.1=2 then(
   some (2,p0.2.1,p0.2.2.1,p0.2.2.2)
  ) else(
   some (1,p0.2.2.2,0,0)
  )
 )
variable{fuel:Nat}
theorem Qr{J:Judge Tryz.prog}{E:LH}{p0:Int×Int×Int×Int}{r:(Nat×Int×Int×Int)}(O:Jt fuel p0=some r):Ax J 21 [.agg #[iV p0.1,iV p0.2.1,iV p0.2.2.1,iV p0.2.2.2]] E [] (λw E' B'=>w=BQ [(102,3),(106,1),(76,3)] (r)/\B'=[]/\(r).1<=3):=by
 refine Ax.enter Tryz.func21 rfl (d4 rfl) λQ ak cs H ah U=>?_;unfold Jt at O;refine JL.seq (JL.region ?_);refine JS.box (v:=.agg #[iV p0.1,iV p0.2.1,iV p0.2.2.1,iV p0.2.2.2]) rfl rfl rfl ah rfl λr2 ai=>A8 1 ai rfl λaj V K Y=>?_;replace K:At aj r2 0 [iV p0.1,iV p0.2.1,iV p0.2.2.1,iV p0.2.2.2]:=K;refine Ac (v:=.nilIface) rfl rfl rfl (λρ h=>Yl.assign (h _ _ rfl)) (JL.done ?_);refine JL.seq (JL.seq ?_);refine JL.region (Ac (v:=.pointer (some ⟨r2,0,none⟩)) rfl rfl rfl (λρ h=>Aq (a:=⟨r2,0,none⟩) 0 0 Tryz.underlying31 Aw rfl rfl rfl (h _ _ rfl)) ?_);refine Ac (v:=iV p0.1) rfl rfl rfl (λρ h=>Yl.load AD (h _ _ rfl) (At.AN (j:=0) K rfl)) (JL.done ?_);refine JL.block (JL.seq ?_);refine JL.region (Ac (v:=.bool (decide (p0.1=0))) rfl rfl rfl (λρ h=>Yl.eql (h _ _ rfl) (h _ _ rfl)) ?_);refine Ac (v:=.bool (decide (p0.1=0))) rfl rfl rfl (λρ h=>Yl.assign (h _ _ rfl)) (JL.done ?_);refine AU (p:=p0.1=0) rfl (λZ=>?_) (λZ=>?_);have ac:=O;rw[d5 Z] at ac;refine JL.seq ?_;refine JL.region ?_;refine Ac (v:=.pointer (some ⟨r2,1,none⟩)) rfl rfl rfl (λρ h=>Aq (a:=⟨r2,0,none⟩) 0 1 Tryz.underlying31 Aw rfl rfl rfl (h _ _ rfl)) ?_;refine Ac (v:=iV p0.2.1) rfl rfl rfl (λρ h=>Yl.load AD (h _ _ rfl) (At.AN (j:=1) K rfl)) ?_;refine Ac (v:=.pointer (some ⟨r2,2,none⟩)) rfl rfl rfl (λρ h=>Aq (a:=⟨r2,0,none⟩) 0 2 Tryz.underlying31 Aw rfl rfl rfl (h _ _ rfl)) ?_;refine Ac (v:=iV p0.2.2.1) rfl rfl rfl (λρ h=>Yl.load AD (h _ _ rfl) (At.AN (j:=2) K rfl)) ?_;refine Ac (v:=.pointer (some ⟨r2,3,none⟩)) rfl rfl rfl (λρ h=>Aq (a:=⟨r2,0,none⟩) 0 3 Tryz.underlying31 Aw rfl rfl rfl (h _ _ rfl)) ?_;refine Ac (v:=iV p0.2.2.2) rfl rfl rfl (λρ h=>Yl.load AD (h _ _ rfl) (At.AN (j:=3) K rfl)) ?_;refine Ac (v:=.agg #[iV p0.2.1,iV p0.2.2.1,iV p0.2.2.2]) rfl rfl rfl (λρ h=>Cf [(0,1),(1,1),(2,1)] h M5 Tryz.underlying102 ⟨rfl,AB Tryz.type3,rfl,AB Tryz.type3,rfl,AB Tryz.type3,trivial⟩ rfl rfl) ?_;refine Ac (v:=.iface 102 (.agg #[iV p0.2.1,iV p0.2.2.1,iV p0.2.2.2])) rfl rfl rfl (λρ h=>Gu Tryz.underlying102 (λ_ h=>by cases h) (h _ _ rfl)) ?_;refine Ac (v:=.iface 102 (.agg #[iV p0.2.1,iV p0.2.2.1,iV p0.2.2.2])) rfl rfl rfl (λρ h=>Yl.assign (h _ _ rfl)) ?_;refine JL.done ?_;have al:r=(0,p0.2.1,p0.2.2.1,p0.2.2.2):=(d0 ac).symm;subst r;refine JL.ret (v:=.iface 102 (.agg #[iV p0.2.1,iV p0.2.2.1,iV p0.2.2.2])) rfl rfl (Ay.list Tryz.func21 rfl (vs:=[.iface 102 (.agg #[iV p0.2.1,iV p0.2.2.1,iV p0.2.2.2])]) ⟨rfl,trivial⟩) ?_;exact U _ _ _ _ V rfl ⟨rfl,rfl,(d4 rfl)⟩ Y;have aa:=O;rw[d7 Z] at aa;refine JL.seq ?_;refine JL.region ?_;refine Ac (v:=.bool (decide (p0.1=2))) rfl rfl rfl (λρ h=>Yl.eql (h _ _ rfl) (h _ _ rfl)) ?_;refine Ac (v:=.bool (decide (p0.1=2))) rfl rfl rfl (λρ h=>Yl.assign (h _ _ rfl)) ?_;refine JL.done ?_;refine AU (p:=p0.1=2) rfl (λab=>?_) (λab=>?_);have ae:=aa;rw[d5 ab] at ae;refine JL.seq ?_;refine JL.region ?_;refine Ac (v:=.pointer (some ⟨r2,1,none⟩)) rfl rfl rfl (λρ h=>Aq (a:=⟨r2,0,none⟩) 0 1 Tryz.underlying31 Aw rfl rfl rfl (h _ _ rfl)) ?_;refine Ac (v:=iV p0.2.1) rfl rfl rfl (λρ h=>Yl.load AD (h _ _ rfl) (At.AN (j:=1) K rfl)) ?_;refine Ac (v:=.pointer (some ⟨r2,2,none⟩)) rfl rfl rfl (λρ h=>Aq (a:=⟨r2,0,none⟩) 0 2 Tryz.underlying31 Aw rfl rfl rfl (h _ _ rfl)) ?_;refine Ac (v:=iV p0.2.2.1) rfl rfl rfl (λρ h=>Yl.load AD (h _ _ rfl) (At.AN (j:=2) K rfl)) ?_;refine Ac (v:=.pointer (some ⟨r2,3,none⟩)) rfl rfl rfl (λρ h=>Aq (a:=⟨r2,0,none⟩) 0 3 Tryz.underlying31 Aw rfl rfl rfl (h _ _ rfl)) ?_;refine Ac (v:=iV p0.2.2.2) rfl rfl rfl (λρ h=>Yl.load AD (h _ _ rfl) (At.AN (j:=3) K rfl)) ?_;refine Ac (v:=.agg #[iV p0.2.1,iV p0.2.2.1,iV p0.2.2.2]) rfl rfl rfl (λρ h=>Cf [(0,1),(1,1),(2,1)] h J7 Tryz.underlying76 ⟨rfl,AB Tryz.type3,rfl,AB Tryz.type3,rfl,AB Tryz.type3,trivial⟩ rfl rfl) ?_;refine Ac (v:=.iface 76 (.agg #[iV p0.2.1,iV p0.2.2.1,iV p0.2.2.2])) rfl rfl rfl (λρ h=>Gu Tryz.underlying76 (λ_ h=>by cases h) (h _ _ rfl)) ?_;refine Ac (v:=.iface 76 (.agg #[iV p0.2.1,iV p0.2.2.1,iV p0.2.2.2])) rfl rfl rfl (λρ h=>Yl.assign (h _ _ rfl)) ?_;refine JL.done ?_;have am:r=(2,p0.2.1,p0.2.2.1,p0.2.2.2):=(d0 ae).symm;subst r;refine JL.ret (v:=.iface 76 (.agg #[iV p0.2.1,iV p0.2.2.1,iV p0.2.2.2])) rfl rfl (Ay.list Tryz.func21 rfl (vs:=[.iface 76 (.agg #[iV p0.2.1,iV p0.2.2.1,iV p0.2.2.2])]) ⟨rfl,trivial⟩) ?_;exact U _ _ _ _ V rfl ⟨rfl,rfl,(d4 rfl)⟩ Y;have ag:=aa;rw[d7 ab] at ag;refine JL.skip ?_;refine Bv ?_;refine JL.seq ?_;refine JL.region ?_;refine Ac (v:=.pointer (some ⟨r2,3,none⟩)) rfl rfl rfl (λρ h=>Aq (a:=⟨r2,0,none⟩) 0 3 Tryz.underlying31 Aw rfl rfl rfl (h _ _ rfl)) ?_;refine Ac (v:=iV p0.2.2.2) rfl rfl rfl (λρ h=>Yl.load AD (h _ _ rfl) (At.AN (j:=3) K rfl)) ?_;refine Ac (v:=.agg #[iV p0.2.2.2]) rfl rfl rfl (λρ h=>Cf [(0,1)] h (Cm Tryz.type106) Tryz.underlying106 ⟨rfl,AB Tryz.type3,trivial⟩ rfl rfl) ?_;refine Ac (v:=.iface 106 (.agg #[iV p0.2.2.2])) rfl rfl rfl (λρ h=>Gu Tryz.underlying106 (λ_ h=>by cases h) (h _ _ rfl)) ?_;refine Ac (v:=.iface 106 (.agg #[iV p0.2.2.2])) rfl rfl rfl (λρ h=>Yl.assign (h _ _ rfl)) ?_;refine JL.done ?_;have an:r=(1,p0.2.2.2,0,0):=(d0 ag).symm;subst r;refine JL.ret (v:=.iface 106 (.agg #[iV p0.2.2.2])) rfl rfl (Ay.list Tryz.func21 rfl (vs:=[.iface 106 (.agg #[iV p0.2.2.2])]) ⟨rfl,trivial⟩) ?_;exact U _ _ _ _ V rfl ⟨rfl,rfl,(d4 rfl)⟩ Y
def MD(fuel:Nat)(p0:Int×Int×Int):Option (Int):=
 some p0.2.2
variable{r:Int}
theorem U3{J:Judge Tryz.prog}{E:LH}{p0:Int×Int×Int}(O:MD fuel p0=some r):Ax J 138 [.agg #[iV p0.1,iV p0.2.1,iV p0.2.2]] E [] (λw E' B'=>w=iV r/\B'=[]):=by
 refine Ax.enter Tryz.func138 rfl (d4 rfl) λQ ac cs H U V=>?_;unfold MD at O;refine JL.seq (JL.region ?_);refine JS.box (v:=.agg #[iV p0.1,iV p0.2.1,iV p0.2.2]) rfl rfl rfl U rfl λr2 Y=>A8 1 Y rfl λZ aa K ab=>?_;replace K:At Z r2 0 [iV p0.1,iV p0.2.1,iV p0.2.2]:=K;refine Ac (v:=iV 0) rfl rfl rfl (λρ h=>Yl.assign (h _ _ rfl)) (JL.done ?_);refine JL.seq (JL.region ?_);refine Ac (v:=.pointer (some ⟨r2,2,none⟩)) rfl rfl rfl (λρ h=>Aq (a:=⟨r2,0,none⟩) 0 2 Tryz.underlying102 Aw rfl rfl rfl (h _ _ rfl)) (Ac (v:=iV p0.2.2) rfl rfl rfl (λρ h=>Yl.load AD (h _ _ rfl) (At.AN (j:=2) K rfl)) ?_);refine Ac (v:=iV p0.2.2) rfl rfl rfl (λρ h=>Yl.assign (h _ _ rfl)) (JL.done ?_);have ae:r=p0.2.2:=(d0 O).symm;subst r;exact JL.ret (v:=iV p0.2.2) rfl rfl (Ay.list Tryz.func138 rfl (vs:=[iV p0.2.2]) ⟨rfl,trivial⟩) (V _ _ _ _ aa rfl ⟨rfl,rfl⟩ ab)
def Mo(fuel:Nat)(p0:Int):Option (Int):=
 some p0
variable{p0:Int}
theorem U5{J:Judge Tryz.prog}{E:LH}(O:Mo fuel p0=some r):Ax J 140 [.agg #[iV p0]] E [] (λw E' B'=>w=iV r/\B'=[]):=by
 refine Ax.enter Tryz.func140 rfl (d4 rfl) λQ ac cs H U V=>?_;unfold Mo at O;refine JL.seq (JL.region ?_);refine JS.box (v:=.agg #[iV p0]) rfl rfl rfl U rfl λr2 Y=>A8 1 Y rfl λZ aa K ab=>?_;replace K:At Z r2 0 [iV p0]:=K;refine Ac (v:=iV 0) rfl rfl rfl (λρ h=>Yl.assign (h _ _ rfl)) (JL.done ?_);refine JL.seq (JL.region ?_);refine Ac (v:=.pointer (some ⟨r2,0,none⟩)) rfl rfl rfl (λρ h=>Aq (a:=⟨r2,0,none⟩) 0 0 Tryz.underlying106 Aw rfl rfl rfl (h _ _ rfl)) (Ac (v:=iV p0) rfl rfl rfl (λρ h=>Yl.load AD (h _ _ rfl) (At.AN (j:=0) K rfl)) ?_);refine Ac (v:=iV p0) rfl rfl rfl (λρ h=>Yl.assign (h _ _ rfl)) (JL.done ?_);have ae:r=p0:=(d0 O).symm;subst r;exact JL.ret (v:=iV p0) rfl rfl (Ay.list Tryz.func140 rfl (vs:=[iV p0]) ⟨rfl,trivial⟩) (V _ _ _ _ aa rfl ⟨rfl,rfl⟩ ab)
def MJ(fuel:Nat)(p0:Int×Int×Int):Option (Int):=
 some p0.2.2
theorem U7{J:Judge Tryz.prog}{E:LH}{p0:Int×Int×Int}(O:MJ fuel p0=some r):Ax J 136 [.agg #[iV p0.1,iV p0.2.1,iV p0.2.2]] E [] (λw E' B'=>w=iV r/\B'=[]):=by
 refine Ax.enter Tryz.func136 rfl (d4 rfl) λQ ac cs H U V=>?_;unfold MJ at O;refine JL.seq (JL.region ?_);refine JS.box (v:=.agg #[iV p0.1,iV p0.2.1,iV p0.2.2]) rfl rfl rfl U rfl λr2 Y=>A8 1 Y rfl λZ aa K ab=>?_;replace K:At Z r2 0 [iV p0.1,iV p0.2.1,iV p0.2.2]:=K;refine Ac (v:=iV 0) rfl rfl rfl (λρ h=>Yl.assign (h _ _ rfl)) (JL.done ?_);refine JL.seq (JL.region ?_);refine Ac (v:=.pointer (some ⟨r2,2,none⟩)) rfl rfl rfl (λρ h=>Aq (a:=⟨r2,0,none⟩) 0 2 Tryz.underlying76 Aw rfl rfl rfl (h _ _ rfl)) (Ac (v:=iV p0.2.2) rfl rfl rfl (λρ h=>Yl.load AD (h _ _ rfl) (At.AN (j:=2) K rfl)) ?_);refine Ac (v:=iV p0.2.2) rfl rfl rfl (λρ h=>Yl.assign (h _ _ rfl)) (JL.done ?_);have ae:r=p0.2.2:=(d0 O).symm;subst r;exact JL.ret (v:=iV p0.2.2) rfl rfl (Ay.list Tryz.func136 rfl (vs:=[iV p0.2.2]) ⟨rfl,trivial⟩) (V _ _ _ _ aa rfl ⟨rfl,rfl⟩ ab)
def KL(fuel:Nat)(p0:Int):Option (Int):=
 some 0
theorem Vo{J:Judge Tryz.prog}{E:LH}(K:KL fuel p0=some r):Ax J 141 [.agg #[iV p0]] E [] (λw E' B'=>w=iV r/\B'=[]):=by
 refine Ax.enter Tryz.func141 rfl (d4 rfl) λQ ac cs H U V=>?_;unfold KL at K;refine JL.seq (JL.region ?_);refine JS.box (v:=.agg #[iV p0]) rfl rfl rfl U rfl λr2 Y=>A8 1 Y rfl λZ aa O ab=>?_;replace O:At Z r2 0 [iV p0]:=O;refine Ac (v:=iV 0) rfl rfl rfl (λρ h=>Yl.assign (h _ _ rfl)) (JL.done ?_);refine JL.seq (JL.region ?_);refine Ac (v:=iV 0) rfl rfl rfl (λρ h=>Yl.assign (h _ _ rfl)) (JL.done ?_);have ae:r=0:=(d0 K).symm;subst r;exact JL.ret (v:=iV 0) rfl rfl (Ay.list Tryz.func141 rfl (vs:=[iV 0]) ⟨rfl,trivial⟩) (V _ _ _ _ aa rfl ⟨rfl,rfl⟩ ab)
def KJ(fuel:Nat)(p0:Int):Option (Int):=
 some 1
theorem Vd{J:Judge Tryz.prog}{E:LH}(K:KJ fuel p0=some r):Ax J 142 [.agg #[iV p0]] E [] (λw E' B'=>w=iV r/\B'=[]):=by
 refine Ax.enter Tryz.func142 rfl (d4 rfl) λQ ac cs H U V=>?_;unfold KJ at K;refine JL.seq (JL.region ?_);refine JS.box (v:=.agg #[iV p0]) rfl rfl rfl U rfl λr2 Y=>A8 1 Y rfl λZ aa O ab=>?_;replace O:At Z r2 0 [iV p0]:=O;refine Ac (v:=iV 0) rfl rfl rfl (λρ h=>Yl.assign (h _ _ rfl)) (JL.done ?_);refine JL.seq (JL.region ?_);refine Ac (v:=iV 1) rfl rfl rfl (λρ h=>Yl.assign (h _ _ rfl)) (JL.done ?_);have ae:r=1:=(d0 K).symm;subst r;exact JL.ret (v:=iV 1) rfl rfl (Ay.list Tryz.func142 rfl (vs:=[iV 1]) ⟨rfl,trivial⟩) (V _ _ _ _ aa rfl ⟨rfl,rfl⟩ ab)
def MH(fuel:Nat)(p0:Int):Option (Int):=
 some 2
theorem Vp{J:Judge Tryz.prog}{E:LH}(K:MH fuel p0=some r):Ax J 143 [.agg #[iV p0]] E [] (λw E' B'=>w=iV r/\B'=[]):=by
 refine Ax.enter Tryz.func143 rfl (d4 rfl) λQ ac cs H U V=>?_;unfold MH at K;refine JL.seq (JL.region ?_);refine JS.box (v:=.agg #[iV p0]) rfl rfl rfl U rfl λr2 Y=>A8 1 Y rfl λZ aa O ab=>?_;replace O:At Z r2 0 [iV p0]:=O;refine Ac (v:=iV 0) rfl rfl rfl (λρ h=>Yl.assign (h _ _ rfl)) (JL.done ?_);refine JL.seq (JL.region ?_);refine Ac (v:=iV 2) rfl rfl rfl (λρ h=>Yl.assign (h _ _ rfl)) (JL.done ?_);have ae:r=2:=(d0 K).symm;subst r;exact JL.ret (v:=iV 2) rfl rfl (Ay.list Tryz.func143 rfl (vs:=[iV 2]) ⟨rfl,trivial⟩) (V _ _ _ _ aa rfl ⟨rfl,rfl⟩ ab)
def My(fuel:Nat)(p0:Int):Option (Int):=
 some 3
theorem Uj{J:Judge Tryz.prog}{E:LH}(K:My fuel p0=some r):Ax J 144 [.agg #[iV p0]] E [] (λw E' B'=>w=iV r/\B'=[]):=by
 refine Ax.enter Tryz.func144 rfl (d4 rfl) λQ ac cs H U V=>?_;unfold My at K;refine JL.seq (JL.region ?_);refine JS.box (v:=.agg #[iV p0]) rfl rfl rfl U rfl λr2 Y=>A8 1 Y rfl λZ aa O ab=>?_;replace O:At Z r2 0 [iV p0]:=O;refine Ac (v:=iV 0) rfl rfl rfl (λρ h=>Yl.assign (h _ _ rfl)) (JL.done ?_);refine JL.seq (JL.region ?_);refine Ac (v:=iV 3) rfl rfl rfl (λρ h=>Yl.assign (h _ _ rfl)) (JL.done ?_);have ae:r=3:=(d0 K).symm;subst r;exact JL.ret (v:=iV 3) rfl rfl (Ay.list Tryz.func144 rfl (vs:=[iV 3]) ⟨rfl,trivial⟩) (V _ _ _ _ aa rfl ⟨rfl,rfl⟩ ab)
def MM(fuel:Nat)(p0:Int×Int):Option (Int):=
 some 4
theorem UM{J:Judge Tryz.prog}{E:LH}{p0:Int×Int}(K:MM fuel p0=some r):Ax J 145 [.agg #[iV p0.1,iV p0.2]] E [] (λw E' B'=>w=iV r/\B'=[]):=by
 refine Ax.enter Tryz.func145 rfl (d4 rfl) λQ ac cs H U V=>?_;unfold MM at K;refine JL.seq (JL.region ?_);refine JS.box (v:=.agg #[iV p0.1,iV p0.2]) rfl rfl rfl U rfl λr2 Y=>A8 1 Y rfl λZ aa O ab=>?_;replace O:At Z r2 0 [iV p0.1,iV p0.2]:=O;refine Ac (v:=iV 0) rfl rfl rfl (λρ h=>Yl.assign (h _ _ rfl)) (JL.done ?_);refine JL.seq (JL.region ?_);refine Ac (v:=iV 4) rfl rfl rfl (λρ h=>Yl.assign (h _ _ rfl)) (JL.done ?_);have ae:r=4:=(d0 K).symm;subst r;exact JL.ret (v:=iV 4) rfl rfl (Ay.list Tryz.func145 rfl (vs:=[iV 4]) ⟨rfl,trivial⟩) (V _ _ _ _ aa rfl ⟨rfl,rfl⟩ ab)
def Mz(fuel:Nat)(p0:Int×Int):Option (Int):=
 some 5
theorem Vu{J:Judge Tryz.prog}{E:LH}{p0:Int×Int}(K:Mz fuel p0=some r):Ax J 146 [.agg #[iV p0.1,iV p0.2]] E [] (λw E' B'=>w=iV r/\B'=[]):=by
 refine Ax.enter Tryz.func146 rfl (d4 rfl) λQ ac cs H U V=>?_;unfold Mz at K;refine JL.seq (JL.region ?_);refine JS.box (v:=.agg #[iV p0.1,iV p0.2]) rfl rfl rfl U rfl λr2 Y=>A8 1 Y rfl λZ aa O ab=>?_;replace O:At Z r2 0 [iV p0.1,iV p0.2]:=O;refine Ac (v:=iV 0) rfl rfl rfl (λρ h=>Yl.assign (h _ _ rfl)) (JL.done ?_);refine JL.seq (JL.region ?_);refine Ac (v:=iV 5) rfl rfl rfl (λρ h=>Yl.assign (h _ _ rfl)) (JL.done ?_);have ae:r=5:=(d0 K).symm;subst r;exact JL.ret (v:=iV 5) rfl rfl (Ay.list Tryz.func146 rfl (vs:=[iV 5]) ⟨rfl,trivial⟩) (V _ _ _ _ aa rfl ⟨rfl,rfl⟩ ab)
def MN(fuel:Nat)(p0:Int):Option (Int):=
 some 6
theorem Ux{J:Judge Tryz.prog}{E:LH}(K:MN fuel p0=some r):Ax J 147 [.agg #[iV p0]] E [] (λw E' B'=>w=iV r/\B'=[]):=by
 refine Ax.enter Tryz.func147 rfl (d4 rfl) λQ ac cs H U V=>?_;unfold MN at K;refine JL.seq (JL.region ?_);refine JS.box (v:=.agg #[iV p0]) rfl rfl rfl U rfl λr2 Y=>A8 1 Y rfl λZ aa O ab=>?_;replace O:At Z r2 0 [iV p0]:=O;refine Ac (v:=iV 0) rfl rfl rfl (λρ h=>Yl.assign (h _ _ rfl)) (JL.done ?_);refine JL.seq (JL.region ?_);refine Ac (v:=iV 6) rfl rfl rfl (λρ h=>Yl.assign (h _ _ rfl)) (JL.done ?_);have ae:r=6:=(d0 K).symm;subst r;exact JL.ret (v:=iV 6) rfl rfl (Ay.list Tryz.func147 rfl (vs:=[iV 6]) ⟨rfl,trivial⟩) (V _ _ _ _ aa rfl ⟨rfl,rfl⟩ ab)
def Q5(fuel:Nat)(q:Nat×Int×Int×Int):Option Int:=match q.1 with | 0=>MD fuel (q.2.1,q.2.2.1,q.2.2.2) | 1=>Mo fuel (q.2.1) | 2=>MJ fuel (q.2.1,q.2.2.1,q.2.2.2) | _=>none
theorem V0{s:St}{Q:FuncId×Value->St->Prop}:lp Tryz.prog (Go.method (Tryz.prog.types.size+Made.depth) 102 rv "palfrey/toll.of") s Q X=Q (138,rv) s:=by kernel_rfl
theorem Wu{rv:Value}{s:St}{X:Halt->St->Prop}{Q:FuncId×Value->St->Prop}(h:Q (138,rv) s):lp Tryz.prog (Go.method (Tryz.prog.types.size+Made.depth) 102 rv "palfrey/toll.of") s Q X:=by rw[V0];exact h
theorem VT{s:St}{Q:FuncId×Value->St->Prop}:lp Tryz.prog (Go.method (Tryz.prog.types.size+Made.depth) 106 rv "palfrey/toll.of") s Q X=Q (140,rv) s:=by kernel_rfl
theorem WB{rv:Value}{s:St}{X:Halt->St->Prop}{Q:FuncId×Value->St->Prop}(h:Q (140,rv) s):lp Tryz.prog (Go.method (Tryz.prog.types.size+Made.depth) 106 rv "palfrey/toll.of") s Q X:=by rw[VT];exact h
theorem Wy{s:St}{Q:FuncId×Value->St->Prop}:lp Tryz.prog (Go.method (Tryz.prog.types.size+Made.depth) 76 rv "palfrey/toll.of") s Q X=Q (136,rv) s:=by kernel_rfl
theorem V5{rv:Value}{s:St}{X:Halt->St->Prop}{Q:FuncId×Value->St->Prop}(h:Q (136,rv) s):lp Tryz.prog (Go.method (Tryz.prog.types.size+Made.depth) 76 rv "palfrey/toll.of") s Q X:=by rw[Wy];exact h
theorem WU{J:Judge Tryz.prog}{E:LH}(O:q.1<=3)(K:Q5 fuel q=some r):Fh J (BQ [(102,3),(106,1),(76,3)] q) "palfrey/toll.of" [] E [] (λw E' B'=>w=iV r/\B'=[]):=by
 obtain⟨i,a,b,c⟩:=q
 match i,O,K with
 | 0,_,K=>exact Fh.mk (t:=102) (rv:=.agg #[iV a,iV b,iV c]) (rv':=.agg #[iV a,iV b,iV c]) (f:=138) (A4 Tryz.func138 rfl) (@Wu (.agg #[iV a,iV b,iV c])) (U3 (p0:=(a,b,c)) (fuel:=fuel) (K:MD fuel (a,b,c)=some r))
 | 1,_,K=>exact Fh.mk (t:=106) (rv:=.agg #[iV a]) (rv':=.agg #[iV a]) (f:=140) (A4 Tryz.func140 rfl) (@WB (.agg #[iV a])) (U5 (p0:=(a)) (fuel:=fuel) (K:Mo fuel (a)=some r))
 | 2,_,K=>exact Fh.mk (t:=76) (rv:=.agg #[iV a,iV b,iV c]) (rv':=.agg #[iV a,iV b,iV c]) (f:=136) (A4 Tryz.func136 rfl) (@V5 (.agg #[iV a,iV b,iV c])) (U7 (p0:=(a,b,c)) (fuel:=fuel) (K:MJ fuel (a,b,c)=some r))
def MC(fuel:Nat)(q:Nat×Int×Int×Int):Option Int:=match q.1 with | 0=>KL fuel (q.2.1) | 1=>KJ fuel (q.2.1) | 2=>MH fuel (q.2.1) | 3=>My fuel (q.2.1) | 4=>MM fuel (q.2.1,q.2.2.1) | 5=>Mz fuel (q.2.1,q.2.2.1) | 6=>MN fuel (q.2.1) | _=>none
theorem Wn{s:St}{Q:FuncId×Value->St->Prop}:lp Tryz.prog (Go.method (Tryz.prog.types.size+Made.depth) 140 rv "palfrey/vouch.kind") s Q X=Q (141,rv) s:=by kernel_rfl
theorem VY{rv:Value}{s:St}{X:Halt->St->Prop}{Q:FuncId×Value->St->Prop}(h:Q (141,rv) s):lp Tryz.prog (Go.method (Tryz.prog.types.size+Made.depth) 140 rv "palfrey/vouch.kind") s Q X:=by rw[Wn];exact h
theorem VJ{s:St}{Q:FuncId×Value->St->Prop}:lp Tryz.prog (Go.method (Tryz.prog.types.size+Made.depth) 141 rv "palfrey/vouch.kind") s Q X=Q (142,rv) s:=by kernel_rfl
theorem V8{rv:Value}{s:St}{X:Halt->St->Prop}{Q:FuncId×Value->St->Prop}(h:Q (142,rv) s):lp Tryz.prog (Go.method (Tryz.prog.types.size+Made.depth) 141 rv "palfrey/vouch.kind") s Q X:=by rw[VJ];exact h
theorem VH{s:St}{Q:FuncId×Value->St->Prop}:lp Tryz.prog (Go.method (Tryz.prog.types.size+Made.depth) 143 rv "palfrey/vouch.kind") s Q X=Q (143,rv) s:=by kernel_rfl
theorem Wl{rv:Value}{s:St}{X:Halt->St->Prop}{Q:FuncId×Value->St->Prop}(h:Q (143,rv) s):lp Tryz.prog (Go.method (Tryz.prog.types.size+Made.depth) 143 rv "palfrey/vouch.kind") s Q X:=by rw[VH];exact h
theorem We{s:St}{Q:FuncId×Value->St->Prop}:lp Tryz.prog (Go.method (Tryz.prog.types.size+Made.depth) 144 rv "palfrey/vouch.kind") s Q X=Q (144,rv) s:=by kernel_rfl
theorem V2{rv:Value}{s:St}{X:Halt->St->Prop}{Q:FuncId×Value->St->Prop}(h:Q (144,rv) s):lp Tryz.prog (Go.method (Tryz.prog.types.size+Made.depth) 144 rv "palfrey/vouch.kind") s Q X:=by rw[We];exact h
theorem WH{s:St}{Q:FuncId×Value->St->Prop}:lp Tryz.prog (Go.method (Tryz.prog.types.size+Made.depth) 146 rv "palfrey/vouch.kind") s Q X=Q (145,rv) s:=by kernel_rfl
theorem WA{rv:Value}{s:St}{X:Halt->St->Prop}{Q:FuncId×Value->St->Prop}(h:Q (145,rv) s):lp Tryz.prog (Go.method (Tryz.prog.types.size+Made.depth) 146 rv "palfrey/vouch.kind") s Q X:=by rw[WH];exact h
theorem Wd{s:St}{Q:FuncId×Value->St->Prop}:lp Tryz.prog (Go.method (Tryz.prog.types.size+Made.depth) 148 rv "palfrey/vouch.kind") s Q X=Q (146,rv) s:=by kernel_rfl
theorem Wb{rv:Value}{s:St}{X:Halt->St->Prop}{Q:FuncId×Value->St->Prop}(h:Q (146,rv) s):lp Tryz.prog (Go.method (Tryz.prog.types.size+Made.depth) 148 rv "palfrey/vouch.kind") s Q X:=by rw[Wd];exact h
theorem Wh{s:St}{Q:FuncId×Value->St->Prop}:lp Tryz.prog (Go.method (Tryz.prog.types.size+Made.depth) 150 rv "palfrey/vouch.kind") s Q X=Q (147,rv) s:=by kernel_rfl
theorem VW{rv:Value}{s:St}{X:Halt->St->Prop}{Q:FuncId×Value->St->Prop}(h:Q (147,rv) s):lp Tryz.prog (Go.method (Tryz.prog.types.size+Made.depth) 150 rv "palfrey/vouch.kind") s Q X:=by rw[Wh];exact h
theorem Un{J:Judge Tryz.prog}{E:LH}(O:q.1<=7)(K:MC fuel q=some r):Fh J (BQ [(140,1),(141,1),(143,1),(144,1),(146,2),(148,2),(150,1)] q) "palfrey/vouch.kind" [] E [] (λw E' B'=>w=iV r/\B'=[]):=by
 obtain⟨i,a,b,c⟩:=q
 match i,O,K with
 | 0,_,K=>exact Fh.mk (t:=140) (rv:=.agg #[iV a]) (rv':=.agg #[iV a]) (f:=141) (A4 Tryz.func141 rfl) (@VY (.agg #[iV a])) (Vo (p0:=(a)) (fuel:=fuel) (K:KL fuel (a)=some r))
 | 1,_,K=>exact Fh.mk (t:=141) (rv:=.agg #[iV a]) (rv':=.agg #[iV a]) (f:=142) (A4 Tryz.func142 rfl) (@V8 (.agg #[iV a])) (Vd (p0:=(a)) (fuel:=fuel) (K:KJ fuel (a)=some r))
 | 2,_,K=>exact Fh.mk (t:=143) (rv:=.agg #[iV a]) (rv':=.agg #[iV a]) (f:=143) (A4 Tryz.func143 rfl) (@Wl (.agg #[iV a])) (Vp (p0:=(a)) (fuel:=fuel) (K:MH fuel (a)=some r))
 | 3,_,K=>exact Fh.mk (t:=144) (rv:=.agg #[iV a]) (rv':=.agg #[iV a]) (f:=144) (A4 Tryz.func144 rfl) (@V2 (.agg #[iV a])) (Uj (p0:=(a)) (fuel:=fuel) (K:My fuel (a)=some r))
 | 4,_,K=>exact Fh.mk (t:=146) (rv:=.agg #[iV a,iV b]) (rv':=.agg #[iV a,iV b]) (f:=145) (A4 Tryz.func145 rfl) (@WA (.agg #[iV a,iV b])) (UM (p0:=(a,b)) (fuel:=fuel) (K:MM fuel (a,b)=some r))
 | 5,_,K=>exact Fh.mk (t:=148) (rv:=.agg #[iV a,iV b]) (rv':=.agg #[iV a,iV b]) (f:=146) (A4 Tryz.func146 rfl) (@Wb (.agg #[iV a,iV b])) (Vu (p0:=(a,b)) (fuel:=fuel) (K:Mz fuel (a,b)=some r))
 | 6,_,K=>exact Fh.mk (t:=150) (rv:=.agg #[iV a]) (rv':=.agg #[iV a]) (f:=147) (A4 Tryz.func147 rfl) (@VW (.agg #[iV a])) (Ux (p0:=(a)) (fuel:=fuel) (K:MN fuel (a)=some r))
def Fb(fuel:Nat)(p0:Int)(p1:Int)(p2:Int):Option (Bool):=
 Option.bind (
  if p1<=p0 then(
   some (decide (p0<=p2))
  ) else(
   some false
  )
 ) λK=>
 some K
variable{p1:Int}
theorem Gz{J:Judge Tryz.prog}{E:LH}{m':Int}{r:Bool}(V:Fb fuel p0 p1 m'=some r):Ax J 38 [iV p0,iV p1,iV m'] E [] (λw E' B'=>w=.bool r/\B'=[]):=by
 refine Ax.enter Tryz.func38 rfl (d4 rfl) λQ aj cs H Y ae=>?_;unfold Fb at V;refine JL.seq (JL.region ?_);refine Ac (v:=.bool false) rfl rfl rfl (λρ h=>Yl.assign (h _ _ rfl)) (JL.done ?_);refine JL.seq (JL.region ?_);refine Ac (v:=iV p0) rfl rfl rfl (λρ h=>Yl.move (h _ _ rfl)) (Ac (v:=iV p1) rfl rfl rfl (λρ h=>Yl.move (h _ _ rfl)) ?_);refine Ac (v:=.bool (decide (p1<=p0))) rfl rfl rfl (λρ h=>Yl.geq (h _ _ rfl) (h _ _ rfl)) (Ac (v:=.bool (decide (p1<=p0))) rfl rfl rfl (λρ h=>Yl.move (h _ _ rfl)) ?_);let⟨K,Z,ag⟩:=bind_some V;refine Dl [8] (λL s=>∃(O:LH),L=[(14,.bool K)]/\s=Ae O H []/\Le E O/\Ak O H []) ?_ ?_;rintro _ _ ⟨O,rfl,rfl,ah,ai⟩;refine Ac (v:=.bool K) rfl rfl rfl (λρ h=>Yl.assign (h _ _ rfl)) (JL.done ?_);have ak:r=K:=(d0 ag).symm;subst r;exact JL.ret (v:=.bool K) rfl rfl (Ay.list Tryz.func38 rfl (vs:=[.bool K]) ⟨rfl,trivial⟩) (ae _ _ _ _ ah rfl ⟨rfl,rfl⟩ ai);intro aa;refine DW (q:=p1<=p0) (i:=10) rfl (λU=>?_) (λU=>?_);have ab:=Z;rw[d5 U] at ab;refine Ac (v:=iV p0) rfl rfl rfl (λρ h=>Yl.move (h _ _ rfl)) ?_;refine Ac (v:=iV m') rfl rfl rfl (λρ h=>Yl.move (h _ _ rfl)) ?_;refine Ac (v:=.bool (decide (p0<=m'))) rfl rfl rfl (λρ h=>Yl.leq (h _ _ rfl) (h _ _ rfl)) ?_;refine Ac (v:=.bool (decide (p0<=m'))) rfl rfl rfl (λρ h=>Ci (h _ _ rfl) (h _ _ rfl)) ?_;have al:K=(decide (p0<=m')):=(d0 ab).symm;subst K;refine Ap ?_ (aa _ _ ⟨E,rfl,rfl,(Le.refl _),Y⟩);exact⟨rfl,trivial⟩;have ac:=Z;rw[d7 U] at ac;refine AP rfl rfl rfl ?_;refine AP rfl rfl rfl ?_;refine AP rfl rfl rfl ?_;refine Ac (v:=.bool false) rfl rfl rfl (λρ h=>CF (h _ _ rfl) (h _ _ rfl)) ?_;have am:K=false:=(d0 ac).symm;subst K;refine Ap ?_ (aa _ _ ⟨E,rfl,rfl,(Le.refl _),Y⟩);exact⟨rfl,trivial⟩
def KU(fuel:Nat)(p0:Int):Option (Int):=
 Option.bind (
  Option.bind (
   Option.bind (
    if p0=4 then(
     some (decide (p0=4))
    ) else(
     some (decide (p0=5))
    )
   ) λK=>
   if K=true then(
    (AR (0+1)).bind λO=>
    some O
   ) else(
    some 0
   )
  ) λU=>
  (AR (U+1)).bind λV=>
  some V
 ) λY=>
 some Y
theorem Vy{J:Judge Tryz.prog}{E:LH}(ag:KU fuel p0=some r):Ax J 56 [iV p0] E [] (λw E' B'=>w=iV r/\B'=[]):=by
 refine Ax.enter Tryz.func56 rfl (d4 rfl) λQ aJ cs H ah au=>?_;unfold KU at ag;refine JL.seq (JL.region ?_);refine Ac (v:=iV 0) rfl rfl rfl (λρ h=>Yl.assign (h _ _ rfl)) (JL.done ?_);refine JL.seq (JL.region ?_);refine Ac (v:=iV 0) rfl rfl rfl (λρ h=>Yl.assign (h _ _ rfl)) (JL.done ?_);refine JL.seq (JL.seq ?_);refine JL.region (Ac (v:=iV p0) rfl rfl rfl (λρ h=>Yl.move (h _ _ rfl)) ?_);refine JL.done ?_;let⟨K,av,aw⟩:=bind_some ag;refine Bj (λL s=>∃(Z:LH),L=[(3,iV K)]/\s=Ae Z H []/\Le E Z/\Ak Z H []) ?_ ?_;rintro _ _ ⟨Z,rfl,rfl,ay,az⟩;refine JL.seq (JL.region ?_);refine Ac (v:=iV K) rfl rfl rfl (λρ h=>Yl.move (h _ _ rfl)) (Ac (v:=iV K) rfl rfl rfl (λρ h=>Yl.assign (h _ _ rfl)) ?_);refine JL.done ?_;have aK:r=K:=(d0 aw).symm;subst r;exact JL.ret (v:=iV K) rfl rfl (Ay.list Tryz.func56 rfl (vs:=[iV K]) ⟨rfl,trivial⟩) (au _ _ _ _ ay rfl ⟨rfl,rfl⟩ az);intro aA;refine JL.block (JL.seq ?_);let⟨O,aB,aC⟩:=bind_some av;refine Bj (λL s=>∃(Y:LH),L=[(2,iV 0),(3,iV O)]/\s=Ae Y H []/\Le E Y/\Ak Y H []) ?_ ?_;rintro _ _ ⟨Y,rfl,rfl,aD,aE⟩;refine JL.seq (JL.region ?_);refine Ac (v:=iV O) rfl rfl rfl (λρ h=>Yl.move (h _ _ rfl)) ?_;let⟨aa,aF,aG⟩:=bind_some aC;refine Ac (v:=iV aa) rfl rfl rfl (λρ h=>BH (h _ _ rfl) (h _ _ rfl) aF) (Ac (v:=iV aa) rfl rfl rfl (λρ h=>Yl.assign (h _ _ rfl)) ?_);refine JL.done (JL.exit rfl ?_);have aL:K=aa:=(d0 aG).symm;subst K;refine Ap ?_ (aA _ _ ⟨Y,rfl,rfl,aD,aE⟩);exact⟨rfl,trivial⟩;intro ai;refine JL.block (JL.seq ?_);refine JL.block (JL.seq ?_);refine JL.seq (JL.seq ?_);refine JL.region (Ac (v:=.bool (decide (p0=4))) rfl rfl rfl (λρ h=>Yl.eql (h _ _ rfl) (h _ _ rfl)) ?_);refine Ac (v:=.bool (decide (p0=4))) rfl rfl rfl (λρ h=>Yl.assign (h _ _ rfl)) (JL.done ?_);let⟨U,aj,ak⟩:=bind_some aB;refine Bj (λL s=>∃(V:LH),L=[(2,iV 0),(3,iV 0),(5,.bool U)]/\s=Ae V H []/\Le E V/\Ak V H []) ?_ ?_;rintro _ _ ⟨V,rfl,rfl,al,am⟩;refine CK (t:=U) rfl (λab=>?_) (λab=>?_);have an:=ak;rw[d5 ab] at an;refine JL.exit rfl ?_;refine JL.region ?_;refine Ac (v:=iV 0) rfl rfl rfl (λρ h=>Yl.move (h _ _ rfl)) ?_;let⟨ac,aH,aI⟩:=bind_some an;refine Ac (v:=iV ac) rfl rfl rfl (λρ h=>BH (h _ _ rfl) (h _ _ rfl) aH) ?_;refine Ac (v:=iV ac) rfl rfl rfl (λρ h=>Yl.assign (h _ _ rfl)) ?_;refine JL.done ?_;refine Bv ?_;have aM:O=ac:=(d0 aI).symm;subst O;refine Ap ?_ (ai _ _ ⟨V,rfl,rfl,al,am⟩);exact⟨rfl,rfl,trivial⟩;have ao:=ak;rw[d7 (by rw[ab];exact f8)] at ao;refine JL.skip ?_;refine JL.exit rfl ?_;have aN:O=0:=(d0 ao).symm;subst O;refine Ap ?_ (ai _ _ ⟨V,rfl,rfl,al,am⟩);exact⟨rfl,rfl,trivial⟩;intro ap;refine AU (p:=p0=4) rfl (λae=>?_) (λae=>?_);have aq:=aj;rw[d5 ae] at aq;refine JL.skip ?_;have aO:U=(decide (p0=4)):=(d0 aq).symm;subst U;refine Ap ?_ (ap _ _ ⟨E,rfl,rfl,(Le.refl _),ah⟩);exact⟨rfl,rfl,rfl,trivial⟩;have ar:=aj;rw[d7 ae] at ar;refine JL.region ?_;refine Ac (v:=.bool (decide (p0=5))) rfl rfl rfl (λρ h=>Yl.eql (h _ _ rfl) (h _ _ rfl)) ?_;refine Ac (v:=.bool (decide (p0=5))) rfl rfl rfl (λρ h=>Yl.assign (h _ _ rfl)) ?_;refine JL.done ?_;have aP:U=(decide (p0=5)):=(d0 ar).symm;subst U;refine Ap ?_ (ap _ _ ⟨E,rfl,rfl,(Le.refl _),ah⟩);exact⟨rfl,rfl,rfl,trivial⟩
def Fc(fuel:Nat)(p0:Nat)(p1:Int):Option (Bool):=
 (KP p0 p1).bind λK=>
 (KS K 1).bind λO=>
 some (decide ((((O):Nat):Int)=(((1):Nat):Int)))
theorem G0{J:Judge Tryz.prog}{E:LH}{p0:Nat}{r:Bool}(O:Fc fuel p0 p1=some r):Ax J 29 [.int .u8 ((p0:Nat):Int),iV p1] E [] (λw E' B'=>w=.bool r/\B'=[]):=by
 refine Ax.enter Tryz.func29 rfl (d4 rfl) λQ ae cs H U V=>?_;unfold Fc at O;refine JL.seq (JL.region ?_);refine Ac (v:=.bool false) rfl rfl rfl (λρ h=>Yl.assign (h _ _ rfl)) (JL.done ?_);refine JL.seq (JL.region ?_);refine Ac (v:=.int .u8 ((p0:Nat):Int)) rfl rfl rfl (λρ h=>Yl.move (h _ _ rfl)) (Ac (v:=iV p1) rfl rfl rfl (λρ h=>Yl.move (h _ _ rfl)) ?_);let⟨Y,Z,aa⟩:=bind_some O;refine Ac (v:=.int .u8 ((Y:Nat):Int)) rfl rfl rfl (λρ h=>S7 (h _ _ rfl) (h _ _ rfl) Z) ?_;let⟨K,ab,ac⟩:=bind_some aa;refine Ac (v:=.int .u8 ((K:Nat):Int)) rfl rfl rfl (λρ h=>Te (h _ _ rfl) (h _ _ rfl) ab) (Ac (v:=.bool (decide ((((K):Nat):Int)=(((1):Nat):Int)))) rfl rfl rfl (λρ h=>Yl.eql (h _ _ rfl) (h _ _ rfl)) ?_);refine Ac (v:=.bool (decide ((((K):Nat):Int)=(((1):Nat):Int)))) rfl rfl rfl (λρ h=>Yl.assign (h _ _ rfl)) (JL.done ?_);have ag:r=(decide ((((K):Nat):Int)=(((1):Nat):Int))):=(d0 ac).symm;subst r;exact JL.ret (v:=.bool (decide ((((K):Nat):Int)=(((1):Nat):Int)))) rfl rfl (Ay.list Tryz.func29 rfl (vs:=[.bool (decide ((((K):Nat):Int)=(((1):Nat):Int)))]) ⟨rfl,trivial⟩) (V _ _ _ _ (Le.refl _) rfl ⟨rfl,rfl⟩ U)
def NJ(fuel:Nat)(p0:Nat)(K:(List Int)×Int):Option (BX ((List Int)×Int) ((List Int))):=
 if K.2<8 then(
  (Fc fuel p0 K.2).bind λO=>
  Option.bind (
   if O=true then(
    (room K.1 K.2).bind λU=>
    some U
   ) else(
    some K.1
   )
  ) λV=>
  (AR (K.2+1)).bind λY=>
  some (.more (V,Y))
 ) else(
  some (.done K.1)
 )
def G5(fuel:Nat)(p0:Nat):Option ((List Int)):=
 Option.bind (iter (NJ fuel p0) fuel ([],0)) λK=>
 some K
theorem Jc{J:Judge Tryz.prog}{E:LH}{p0:Nat}{r:(List Int)}(aw:G5 fuel p0=some r):Ax J 40 [.int .u8 ((p0:Nat):Int)] E [] (λw E' B'=>∃(ay:Option Addr) (az:Nat),w=.slice ay (r).length az/\B'=[]/\AK rI E' ay az (r)):=by
 refine Ax.enter Tryz.func40 rfl (d4 rfl) λQ bh cs H aM aN=>?_;unfold G5 at aw;refine JL.seq (JL.region ?_);refine Ac (v:=.slice none 0 0) rfl rfl rfl (λρ h=>Yl.assign (h _ _ rfl)) (JL.done ?_);refine JL.seq (JL.region ?_);refine Ac (v:=.slice none 0 0) rfl rfl rfl (λρ h=>Yl.assign (h _ _ rfl)) (JL.done ?_);refine JL.seq (JL.seq ?_);refine JL.region (Ac (v:=iV 0) rfl rfl rfl (λρ h=>Yl.move (h _ _ rfl)) ?_);refine JL.done ?_;let⟨O,aO,aP⟩:=bind_some aw;refine Bj (λL s=>∃(ag:LH) (U:Option Addr) (V:Nat) (ai:Seg),L=[(3,.slice U (O).length V)]/\s=Ae ag H [ai]/\Le E ag/\Ak ag H [ai]/\OL 3 rI ag U V ai (O)) ?_ ?_;rintro _ _ ⟨ag,U,V,ai,rfl,rfl,aQ,aR,aS⟩;refine JL.seq (JL.region ?_);refine Ac (v:=.slice U (O).length V) rfl rfl rfl (λρ h=>Yl.move (h _ _ rfl)) (Ac (v:=.slice U (O).length V) rfl rfl rfl (λρ h=>Yl.assign (h _ _ rfl)) ?_);refine JL.done (CP 0 aS aR rfl λbi aT aU aV=>?_);have bj:r=O:=(d0 aP).symm;subst r;exact JL.ret (v:=.slice U (O).length V) rfl rfl (Ay.list Tryz.func40 rfl (vs:=[.slice U (O).length V]) ⟨rfl,trivial⟩) (aN _ _ _ _ (aQ.trans aT) rfl ⟨U,V,rfl,rfl,aU⟩ aV);intro aW;refine JL.block (Ap (L':=[(0,.int .u8 ((p0:Nat):Int)),(3,.slice none 0 0),(5,iV 0)]) ⟨rfl,rfl,rfl,trivial⟩ ?_);refine CG aO (λL s K=>∃(ab:LH) (Z:Option Addr) (aa:Nat) (ac:Seg),L=[(0,.int .u8 ((p0:Nat):Int)),(3,.slice Z (K.1).length aa),(5,iV K.2)]/\s=Ae ab H [ac]/\Le E ab/\Ak ab H [ac]/\OL 3 rI ab Z aa ac (K.1)) ⟨E,none,0,[],rfl,rfl,(Le.refl _),aM,OL.nil⟩ ?_;rintro _ _ K ⟨ab,Z,aa,ac,rfl,rfl,aA,aB,an⟩ aX ⟨aj,ao⟩ aY;have ap:=ao;unfold NJ at ap;refine JL.seq (JL.region ?_);refine Ac (v:=.bool (decide (K.2<8))) rfl rfl rfl (λρ h=>Yl.lss (h _ _ rfl) (h _ _ rfl)) (JL.done ?_);refine JL.seq (AU (p:=K.2<8) rfl (λaq=>?_) (λaq=>?_));have aC:=ap;rw[d5 aq] at aC;refine JL.skip ?_;refine JL.seq ?_;refine JL.block ?_;refine JL.seq ?_;refine JL.region ?_;refine Ac (v:=iV K.2) rfl rfl rfl (λρ h=>Yl.move (h _ _ rfl)) ?_;refine Ac (v:=iV K.2) rfl rfl rfl (λρ h=>Yl.assign (h _ _ rfl)) ?_;refine JL.done ?_;refine JL.seq ?_;refine JL.region ?_;refine Ac (v:=.int .u8 ((p0:Nat):Int)) rfl rfl rfl (λρ h=>Yl.move (h _ _ rfl)) ?_;refine Ac (v:=iV K.2) rfl rfl rfl (λρ h=>Yl.move (h _ _ rfl)) ?_;let⟨aZ,a2,a3⟩:=bind_some aC;refine JS.call (vs:=[.int .u8 ((p0:Nat):Int),iV K.2]) (G0 a2) rfl rfl rfl GV rfl aB ?_;rintro _ ar _ au ⟨rfl,rfl⟩ aD;refine JL.done ?_;let⟨Y,aE,a4⟩:=bind_some a3;refine Bj (λL s=>∃(ae:LH) (ak:Option Addr) (al:Nat) (ah:Seg),L=[(0,.int .u8 ((p0:Nat):Int)),(3,.slice ak (Y).length al),(5,iV K.2)]/\s=Ae ae H [ah]/\Le ar ae/\Ak ae H [ah]/\OL 3 rI ae ak al ah (Y)) ?_ ?_;rintro _ _ ⟨ae,ak,al,ah,rfl,rfl,a5,a6,a7⟩;refine Bv (JL.region ?_);let⟨am,a8,a9⟩:=bind_some a4;refine Ac (v:=iV am) rfl rfl rfl (λρ h=>BH (h _ _ rfl) (h _ _ rfl) a8) (Ac (v:=iV am) rfl rfl rfl (λρ h=>Yl.move (h _ _ rfl)) ?_);refine JL.done ?_;have bl:aj=.more (Y,am):=(d0 a9).symm;subst aj;refine Ap ?_ (aY _ _ (Y,am) ⟨ae,ak,al,ah,rfl,rfl,((aA.trans au).trans a5),a6,a7⟩ ao);exact⟨rfl,rfl,rfl,trivial⟩;intro aF;refine CK (t:=aZ) rfl (λav=>?_) (λav=>?_);have aG:=aE;rw[d5 av] at aG;refine JL.region ?_;refine Ac (v:=.slice Z (K.1).length aa) rfl rfl rfl (λρ h=>Yl.move (h _ _ rfl)) ?_;refine Ac (v:=iV K.2) rfl rfl rfl (λρ h=>Yl.move (h _ _ rfl)) ?_;let⟨aH,ba,bb⟩:=bind_some aG;refine JS.app (pp:=rI) (v:=iV K.2) (a:=Z) (c:=aa) 0 ba rfl rfl rfl rfl (λ_=>rfl) rfl (λ_=>rfl) rfl rfl rfl Tryz.underlying22 Tryz.underlying22 Tryz.underlying22 Aw (EK Tryz.type3) Dk rfl (by decide) (by decide) (by decide) (by decide) (an.Ag au) rfl aD rfl λbm aI aJ be bf bg=>?_;refine Ac (v:=.slice aI (aH).length aJ) rfl rfl rfl (λρ h=>Yl.assign (h _ _ rfl)) ?_;refine JL.done ?_;have bn:Y=aH:=(d0 bb).symm;subst Y;refine Ap ?_ (aF _ _ ⟨ar,aI,aJ,be,rfl,rfl,(Le.refl _),bg,bf⟩);exact⟨rfl,rfl,rfl,trivial⟩;have aK:=aE;rw[d7 (by rw[av];exact f8)] at aK;refine JL.skip ?_;have bo:Y=K.1:=(d0 aK).symm;subst Y;refine Ap ?_ (aF _ _ ⟨ar,Z,aa,ac,rfl,rfl,(Le.refl _),aD,(an.Ag au)⟩);exact⟨rfl,rfl,rfl,trivial⟩;have aL:=ap;rw[d7 aq] at aL;refine JL.exit rfl ?_;have bp:aj=.done K.1:=(d0 aL).symm;subst aj;have bq:O=K.1:=(aX _ ao).symm;subst O;refine Ap ?_ (aW _ _ ⟨ab,Z,aa,ac,rfl,rfl,aA,aB,an⟩);exact⟨rfl,trivial⟩
def Jz(fuel:Nat)(p0:Nat×Nat):Option (((List Int)×(List Int))):=
 (G5 fuel p0.1).bind λK=>
 (G5 fuel p0.2).bind λO=>
 some (K,O)
theorem Ue{J:Judge Tryz.prog}{E:LH}{p0:Nat×Nat}{r:((List Int)×(List Int))}(ae:Jz fuel p0=some r):Ax J 31 [.agg #[.int .u8 ((p0.1:Nat):Int),.int .u8 ((p0.2:Nat):Int)]] E [] (λw E' B'=>∃(ag:Option Addr) (ah:Nat) (ai:Option Addr) (aj:Nat),w=.agg #[.slice ag (r.1).length ah,.slice ai (r.2).length aj]/\B'=[]/\AK rI E' ag ah (r.1)/\AK rI E' ai aj (r.2)):=by
 refine Ax.enter Tryz.func31 rfl (d4 rfl) λQ aI cs H am an=>?_;unfold Jz at ae;refine JL.seq (JL.region ?_);refine JS.box (v:=.agg #[.int .u8 ((p0.1:Nat):Int),.int .u8 ((p0.2:Nat):Int)]) rfl rfl rfl am rfl λr2 ao=>A8 1 ao rfl λap aq ab ar=>?_;replace ab:At ap r2 0 [.int .u8 ((p0.1:Nat):Int),.int .u8 ((p0.2:Nat):Int)]:=ab;refine JS.alloc rfl rfl rfl ar Iu λau av=>JL.done (JL.seq ?_);refine DJ 5 mixed rfl (by decide+kernel) λac=>JG.val (v:=.pointer (some ⟨r2,0,none⟩)) 0 rfl ac (by decide+kernel) rfl rfl rfl (λρ h s' aa=>Aq (a:=⟨r2,0,none⟩) 0 0 Tryz.underlying89 DU rfl rfl rfl (h _ _ rfl)) (JG.val (v:=.int .u8 ((p0.1:Nat):Int)) 1 rfl ac (by decide+kernel) rfl rfl rfl (λρ h s' aa=>Yl.load Eu (h _ _ rfl) (At.BS (j:=0) ab aa rfl)) ?_);refine JG.val (v:=.pointer (some ⟨r2,1,none⟩)) 3 rfl ac (by decide+kernel) rfl rfl rfl (λρ h s' aa=>Aq (a:=⟨r2,0,none⟩) 0 1 Tryz.underlying89 DU rfl rfl rfl (h _ _ rfl)) (JG.val (v:=.int .u8 ((p0.2:Nat):Int)) 4 rfl ac (by decide+kernel) rfl rfl rfl (λρ h s' aa=>Yl.load Eu (h _ _ rfl) (At.BS (j:=1) ab aa rfl)) ?_);let⟨K,aw,ay⟩:=bind_some ae;refine JG.call (i:=2) (vs:=[.int .u8 ((p0.1:Nat):Int)]) (Jc aw) (by decide+kernel) rfl rfl rfl IX rfl av ?_;rintro _ aJ _ az ⟨O,U,rfl,rfl,aA⟩ aB;refine AL.leaf (tail:=[5,6,7]) (by decide+kernel) (λt=>Bb (by decide+kernel) (Bb (by decide+kernel) (Bb (by decide+kernel) Cn)) t) ?_;obtain⟨V,aC,aD⟩:=bind_some ay;refine JS.call (vs:=[.int .u8 ((p0.2:Nat):Int)]) (Jc aC) rfl rfl rfl IX rfl aB ?_;rintro _ aK _ ak ⟨Y,Z,rfl,rfl,aE⟩ aF;refine AT (S':=[[],[],[(au,.cells #[.slice none 0 0,.slice none 0 0] 42 (0,0))],[],[]]) rfl aF λaG=>Ac (v:=.agg #[.slice O (K).length U,.slice Y (V).length Z]) rfl rfl rfl (λρ h=>Cf [(0,1),(1,1)] h Iu Tryz.underlying42 ⟨rfl,AB Tryz.type22,rfl,AB Tryz.type22,trivial⟩ rfl rfl) (JS.store (v:=.agg #[.slice O (K).length U,.slice Y (V).length Z]) (off:=0) 2 rfl rfl rfl aG rfl rfl Hj (by simp[Value.cells,A3]) rfl (d4 rfl) λal=>?_);refine JL.done ?_;have aL:r=(K,V):=(d0 aD).symm;subst r;refine JL.ret (v:=.agg #[.slice O (K).length U,.slice Y (V).length Z]) rfl rfl (Ay.list Tryz.func31 rfl (vs:=[.agg #[.slice O (K).length U,.slice Y (V).length Z]]) ⟨⟨_,rfl,Ld.many (vs:=[.slice O (K).length U,.slice Y (V).length Z]) J0 Hj (DV (off:=0) 2 al rfl rfl)⟩,trivial⟩) (F9 2 al rfl λaH=>?_);exact an _ _ _ _ ((aq.trans az).trans ak) rfl ⟨O,U,Y,Z,rfl,rfl,(aA.Ag ak),aE⟩ aH
def Je:List Nat:=[0,1,1,2,1,2,2,3,1,2,2,3,2,3,3,4,1,2,2,3,2,3,3,4,2,3,3,4,3,4,4,5,1,2,2,3,2,3,3,4,2,3,3,4,3,4,4,5,2,3,3,4,3,4,4,5,3,4,4,5,4,5,5,6,1,2,2,3,2,3,3,4,2,3,3,4,3,4,4,5,2,3,3,4,3,4,4,5,3,4,4,5,4,5,5,6,2,3,3,4,3,4,4,5,3,4,4,5,4,5,5,6,3,4,4,5,4,5,5,6,4,5,5,6,5,6,6,7,1,2,2,3,2,3,3,4,2,3,3,4,3,4,4,5,2,3,3,4,3,4,4,5,3,4,4,5,4,5,5,6,2,3,3,4,3,4,4,5,3,4,4,5,4,5,5,6,3,4,4,5,4,5,5,6,4,5,5,6,5,6,6,7,2,3,3,4,3,4,4,5,3,4,4,5,4,5,5,6,3,4,4,5,4,5,5,6,4,5,5,6,5,6,6,7,3,4,4,5,4,5,5,6,4,5,5,6,5,6,6,7,4,5,5,6,5,6,6,7,5,6,6,7,6,7,7,8]
def MI(fuel:Nat)(p0:Nat):Option (Int):=
 (JD Je ((((p0):Nat):Int))).bind λK=>
 (AR (((K):Nat):Int)).bind λO=>
 some O
theorem U1{J:Judge Tryz.prog}{E:LH}{p0:Nat}(O:MI fuel p0=some r):Ax J 104 [.int .u8 ((p0:Nat):Int)] E [] (λw E' B'=>w=iV r/\B'=[]):=by
 refine Ax.enter Tryz.func104 rfl (d4 rfl) λQ ae cs H U V=>?_;unfold MI at O;refine JL.seq (JL.region ?_);refine Ac (v:=iV 0) rfl rfl rfl (λρ h=>Yl.assign (h _ _ rfl)) (JL.done ?_);refine JL.seq (JL.region ?_);refine Ac (v:=.int .u8 ((p0:Nat):Int)) rfl rfl rfl (λρ h=>Yl.move (h _ _ rfl)) ?_;let⟨Y,Z,aa⟩:=bind_some O;refine Ac (v:=.int .u8 ((Y:Nat):Int)) rfl rfl rfl (λρ h=>Pv (l:=Je) (by decide+kernel) Tryz.underlying9 (h _ _ rfl) (h _ _ rfl) Z) ?_;let⟨K,ab,ac⟩:=bind_some aa;refine Ac (v:=iV K) rfl rfl rfl (λρ h=>P4 Tryz.underlying5 Tryz.underlying3 (h _ _ rfl) ab) (Ac (v:=iV K) rfl rfl rfl (λρ h=>Yl.assign (h _ _ rfl)) ?_);refine JL.done ?_;have ag:r=K:=(d0 ac).symm;subst r;exact JL.ret (v:=iV K) rfl rfl (Ay.list Tryz.func104 rfl (vs:=[iV K]) ⟨rfl,trivial⟩) (V _ _ _ _ (Le.refl _) rfl ⟨rfl,rfl⟩ U)
def HB(fuel:Nat)(p0:Nat):Option (Int):=
 (MI fuel p0).bind λK=>
 some K
theorem Kv{J:Judge Tryz.prog}{E:LH}{p0:Nat}(O:HB fuel p0=some r):Ax J 83 [.int .u8 ((p0:Nat):Int)] E [] (λw E' B'=>w=iV r/\B'=[]):=by
 refine Ax.enter Tryz.func83 rfl (d4 rfl) λQ ac cs H U V=>?_;unfold HB at O;refine JL.seq (JL.region ?_);refine Ac (v:=iV 0) rfl rfl rfl (λρ h=>Yl.assign (h _ _ rfl)) (JL.done ?_);refine JL.seq (JL.region ?_);refine Ac (v:=.int .u8 ((p0:Nat):Int)) rfl rfl rfl (λρ h=>Yl.move (h _ _ rfl)) ?_;let⟨K,Y,Z⟩:=bind_some O;refine JS.call (vs:=[.int .u8 ((p0:Nat):Int)]) (U1 Y) rfl rfl rfl (A4 Tryz.func104 rfl) rfl U ?_;rintro _ ae _ aa ⟨rfl,rfl⟩ ab;refine Ac (v:=iV K) rfl rfl rfl (λρ h=>Yl.assign (h _ _ rfl)) (JL.done ?_);have ag:r=K:=(d0 Z).symm;subst r;exact JL.ret (v:=iV K) rfl rfl (Ay.list Tryz.func83 rfl (vs:=[iV K]) ⟨rfl,trivial⟩) (V _ _ _ _ aa rfl ⟨rfl,rfl⟩ ab)
def NL(fuel:Nat)(p0:List Int)(K:Nat×Int):Option (BX (Nat×Int) (Nat)):=
 if K.2<((p0).length:Int) then(
  (ix p0 (K.2)).bind λO=>
  (FX O).bind λU=>
  (KX K.1 U).bind λV=>
  (AR (K.2+1)).bind λY=>
  some (.more (V,Y))
 ) else(
  some (.done K.1)
 )
def KV(fuel:Nat)(p0:List Int):Option (Nat):=
 Option.bind (iter (NL fuel p0) fuel (0,0)) λK=>
 some K
variable{a1:Option Addr}{c2:Nat}
theorem UX{J:Judge Tryz.prog}{E:LH}{p0:List Int}(an:AK rI E a1 c2 (p0)){r:Nat}(aj:KV fuel p0=some r):Ax J 73 [.slice a1 (p0).length c2] E [] (λw E' B'=>w=.int .u8 ((r:Nat):Int)/\B'=[]):=by
 refine Ax.enter Tryz.func73 rfl (d4 rfl) λQ aL cs H ao ap=>?_;unfold KV at aj;refine JL.seq (JL.region ?_);refine Ac (v:=.int .u8 ((0:Nat):Int)) rfl rfl rfl (λρ h=>Yl.assign (h _ _ rfl)) (JL.done ?_);refine JL.seq (JL.region ?_);refine Ac (v:=.int .u8 ((0:Nat):Int)) rfl rfl rfl (λρ h=>Yl.assign (h _ _ rfl)) (JL.done ?_);refine JL.seq (JL.seq ?_);refine JL.region (Ac (v:=.slice a1 (p0).length c2) rfl rfl rfl (λρ h=>Yl.move (h _ _ rfl)) ?_);refine Ac (v:=iV ((p0).length:Int)) rfl rfl rfl (λρ h=>Yl.len rfl Tryz.underlying22 (h _ _ rfl)) (Ac (v:=iV 0) rfl rfl rfl (λρ h=>Yl.move (h _ _ rfl)) ?_);refine JL.done ?_;let⟨K,aq,ar⟩:=bind_some aj;refine Bj (λL s=>∃(V:LH),L=[(3,.int .u8 ((K:Nat):Int))]/\s=Ae V H []/\Le E V/\Ak V H []) ?_ ?_;rintro _ _ ⟨V,rfl,rfl,au,av⟩;refine JL.seq (JL.region ?_);refine Ac (v:=.int .u8 ((K:Nat):Int)) rfl rfl rfl (λρ h=>Yl.move (h _ _ rfl)) (Ac (v:=.int .u8 ((K:Nat):Int)) rfl rfl rfl (λρ h=>Yl.assign (h _ _ rfl)) ?_);refine JL.done ?_;have aM:r=K:=(d0 ar).symm;subst r;exact JL.ret (v:=.int .u8 ((K:Nat):Int)) rfl rfl (Ay.list Tryz.func73 rfl (vs:=[.int .u8 ((K:Nat):Int)]) ⟨rfl,trivial⟩) (ap _ _ _ _ au rfl ⟨rfl,rfl⟩ av);intro aw;refine JL.block (Ap (L':=[(3,.int .u8 ((0:Nat):Int)),(6,.slice a1 (p0).length c2),(7,iV ((p0).length:Int)),(8,iV 0)]) ⟨rfl,rfl,rfl,rfl,trivial⟩ ?_);refine CG aq (λL s O=>∃(U:LH),L=[(3,.int .u8 ((O.1:Nat):Int)),(6,.slice a1 (p0).length c2),(7,iV ((p0).length:Int)),(8,iV O.2)]/\s=Ae U H []/\Le E U/\Ak U H []) ⟨E,rfl,rfl,(Le.refl _),ao⟩ ?_;rintro _ _ O ⟨U,rfl,rfl,ac,ak⟩ ay ⟨Y,ae⟩ az;have ag:=ae;unfold NL at ag;refine JL.seq (JL.region ?_);refine Ac (v:=.bool (decide (O.2<((p0).length:Int)))) rfl rfl rfl (λρ h=>Yl.lss (h _ _ rfl) (h _ _ rfl)) (JL.done ?_);refine JL.seq (AU (p:=O.2<((p0).length:Int)) rfl (λah=>?_) (λah=>?_));have al:=ag;rw[d5 ah] at al;refine JL.skip ?_;refine JL.seq ?_;refine JL.block ?_;refine JL.seq ?_;refine JL.region ?_;let⟨Z,aA,aB⟩:=bind_some al;refine DL (an.Ag ac) aA rfl rfl rfl rfl rfl Tryz.underlying22 Aw ?_;rintro aC aD _ rfl ai;replace ai:At U aC aD [iV Z]:=ai;refine Ac (v:=iV Z) rfl rfl rfl (λρ h=>Yl.load AD (h _ _ rfl) (At.AN (j:=0) ai rfl)) ?_;refine Ac (v:=iV Z) rfl rfl rfl (λρ h=>Yl.assign (h _ _ rfl)) ?_;refine JL.done ?_;refine JL.region ?_;refine Ac (v:=.int .u8 ((O.1:Nat):Int)) rfl rfl rfl (λρ h=>Yl.move (h _ _ rfl)) ?_;refine Ac (v:=iV Z) rfl rfl rfl (λρ h=>Yl.move (h _ _ rfl)) ?_;let⟨aE,aF,aG⟩:=bind_some aB;refine Ac (v:=.int .u8 ((aE:Nat):Int)) rfl rfl rfl (λρ h=>Ko (h _ _ rfl) (h _ _ rfl) aF) ?_;let⟨aa,aH,aI⟩:=bind_some aG;refine Ac (v:=.int .u8 ((aa:Nat):Int)) rfl rfl rfl (λρ h=>US (h _ _ rfl) (h _ _ rfl) aH) ?_;refine Ac (v:=.int .u8 ((aa:Nat):Int)) rfl rfl rfl (λρ h=>Yl.assign (h _ _ rfl)) ?_;refine JL.done ?_;refine Bv ?_;refine JL.region ?_;let⟨ab,aJ,aK⟩:=bind_some aI;refine Ac (v:=iV ab) rfl rfl rfl (λρ h=>BH (h _ _ rfl) (h _ _ rfl) aJ) ?_;refine Ac (v:=iV ab) rfl rfl rfl (λρ h=>Yl.move (h _ _ rfl)) ?_;refine JL.done ?_;have aN:Y=.more (aa,ab):=(d0 aK).symm;subst Y;refine Ap ?_ (az _ _ (aa,ab) ⟨U,rfl,rfl,ac,ak⟩ ae);exact⟨rfl,rfl,rfl,rfl,trivial⟩;have am:=ag;rw[d7 ah] at am;refine JL.exit rfl ?_;have aO:Y=.done O.1:=(d0 am).symm;subst Y;have aP:K=O.1:=(ay _ ae).symm;subst K;refine Ap ?_ (aw _ _ ⟨U,rfl,rfl,ac,ak⟩);exact⟨rfl,trivial⟩
def KR(fuel:Nat)(p0:Int×Int×(List (Int×Int×Int×Int)))(p1:Nat×Int×Int×Int)(p2:Nat×Nat):Option (Bool):=
 if p1.1=6 then(
  (HB fuel p2.1).bind λK=>
  (AR (p0.1 - K)).bind λO=>
  some (decide ((vF p1 6 0)<=O))
 ) else(
  if p1.1=0 then(
   (Fc fuel p2.2 (vF p1 0 0)).bind λU=>
   some U
  ) else(
   if p1.1=1 then(
    (Fc fuel p2.2 (vF p1 1 0)).bind λV=>
    some (!V)
   ) else(
    if p1.1=2 then(
     (Fc fuel p2.1 (vF p1 2 0)).bind λY=>
     some (!Y)
    ) else(
     if p1.1=3 then(
      (Fc fuel p2.1 (vF p1 3 0)).bind λZ=>
      some Z
     ) else(
      if p1.1=4 then(
       (Fc fuel p2.2 (vF p1 4 0)).bind λaa=>
       Option.bind (
        if(!aa)=true then(
         some true
        ) else(
         (Fc fuel p2.2 (vF p1 4 1)).bind λab=>
         some ab
        )
       ) λac=>
       some ac
      ) else(
       if p1.1=5 then(
        (Fc fuel p2.1 (vF p1 5 0)).bind λae=>
        (Fc fuel p2.1 (vF p1 5 1)).bind λag=>
        some ((ae)==(ag))
       ) else(
        some false
       )
      )
     )
    )
   )
  )
 )
theorem UF{J:Judge Tryz.prog}{E:LH}{p0:Int×Int×(List (Int×Int×Int×Int))}{p1:Nat×Int×Int×Int}{p2:Nat×Nat}(cX:AK (rP rI (rP rI (rP rI rI))) E a1 c2 (p0.2.2))(cY:(p1).1<=7){r:Bool}(aw:KR fuel p0 p1 p2=some r):Ax J 72 [.agg #[iV p0.1,iV p0.2.1,.slice a1 (p0.2.2).length c2],BQ [(140,1),(141,1),(143,1),(144,1),(146,2),(148,2),(150,1)] p1,.agg #[.int .u8 ((p2.1:Nat):Int),.int .u8 ((p2.2:Nat):Int)]] E [] (λw E' B'=>w=.bool r/\B'=[]):=by
 refine Ax.enter Tryz.func72 rfl (d4 rfl) λQ cZ cs H bo ab=>?_;unfold KR at aw;refine JL.seq (JL.region ?_);refine JS.box (v:=.agg #[iV p0.1,iV p0.2.1,.slice a1 (p0.2.2).length c2]) rfl rfl rfl bo rfl λah bp=>A8 1 bp rfl λbq ac ay br=>?_;replace ay:At bq ah 0 [iV p0.1,iV p0.2.1,.slice a1 (p0.2.2).length c2]:=ay;refine JS.box (v:=.agg #[.int .u8 ((p2.1:Nat):Int),.int .u8 ((p2.2:Nat):Int)]) rfl rfl rfl br rfl λO bu=>A8 2 bu rfl λbv Z Y bw=>?_;replace Y:At bv O 0 [.int .u8 ((p2.1:Nat):Int),.int .u8 ((p2.2:Nat):Int)]:=Y;refine Ac (v:=.bool false) rfl rfl rfl (λρ h=>Yl.assign (h _ _ rfl)) (JL.done ?_);refine JL.seq (JL.seq ?_);refine JL.region (Ac (v:=BQ [(140,1),(141,1),(143,1),(144,1),(146,2),(148,2),(150,1)] p1) rfl rfl rfl (λρ h=>Yl.move (h _ _ rfl)) ?_);refine Ac (v:=.tuple #[.agg #[iV (vF p1 6 0)],.bool (decide (p1.1=6))]) rfl rfl rfl (λρ h=>Ey (ts:=[(140,1),(141,1),(143,1),(144,1),(146,2),(148,2),(150,1)]) (c:=6) (k:=1) (q:=p1) rfl Tryz.underlying150 J6 (by decide) (h _ _ rfl)) (Ac (v:=.tuple #[.agg #[iV (vF p1 6 0)],.bool (decide (p1.1=6))]) rfl rfl rfl (λρ h=>Yl.move (h _ _ rfl)) ?_);refine Ac (v:=.agg #[iV (vF p1 6 0)]) rfl rfl rfl (λρ h=>Yl.extract (h _ _ rfl) rfl) (Ac (v:=.bool (decide (p1.1=6))) rfl rfl rfl (λρ h=>Yl.extract (h _ _ rfl) rfl) ?_);refine JS.alloc rfl rfl rfl bw J6 λao bx=>AT (S':=[[],[],[],[(ao,.cells #[iV 0] 150 (0,0))]]) rfl bx λbz=>JS.store (v:=.agg #[iV (vF p1 6 0)]) (off:=0) 3 rfl rfl rfl bz rfl rfl (AB Tryz.type150) (by simp[Value.cells,A3]) rfl (d4 rfl) λbA=>A8 3 bA rfl λbB U az ae=>?_;replace az:At bB ao 0 [iV (vF p1 6 0)]:=az;refine Ac (v:=.bool (decide (p1.1=6))) rfl rfl rfl (λρ h=>Yl.assign (h _ _ rfl)) (JL.done ?_);refine JL.seq (JL.region ?_);refine Ac (v:=.bool (decide (p1.1=6))) rfl rfl rfl (λρ h=>Yl.move (h _ _ rfl)) (JL.done ?_);refine AU (p:=p1.1=6) rfl (λaA=>?_) (λaA=>?_);have a2:=aw;rw[d5 aA] at a2;refine JL.seq ?_;refine DJ 9 mixed rfl (by decide+kernel) λV=>?_;refine JG.val (v:=.pointer (some ⟨ah,0,none⟩)) 0 rfl V (by decide+kernel) rfl rfl rfl (λρ h s' K=>Aq (a:=⟨ah,0,none⟩) 2 0 Tryz.underlying81 FF rfl rfl rfl (h _ _ rfl)) ?_;refine JG.val (v:=.pointer (some ⟨ah,0,none⟩)) 1 rfl V (by decide+kernel) rfl rfl rfl (λρ h s' K=>Aq (a:=⟨ah,0,none⟩) 0 0 Tryz.underlying40 Aw rfl rfl rfl (h _ _ rfl)) ?_;refine JG.val (v:=iV p0.1) 2 rfl V (by decide+kernel) rfl rfl rfl (λρ h s' K=>Yl.load AD (h _ _ rfl) (At.BS (j:=0) (ay.Ag (Z.trans U)) K rfl)) ?_;refine JG.val (v:=.pointer (some ⟨O,0,none⟩)) 3 rfl V (by decide+kernel) rfl rfl rfl (λρ h s' K=>Aq (a:=⟨O,0,none⟩) 0 0 Tryz.underlying89 DU rfl rfl rfl (h _ _ rfl)) ?_;refine JG.val (v:=.int .u8 ((p2.1:Nat):Int)) 4 rfl V (by decide+kernel) rfl rfl rfl (λρ h s' K=>Yl.load Eu (h _ _ rfl) (At.BS (j:=0) (Y.Ag U) K rfl)) ?_;refine JG.val (v:=.pointer (some ⟨ao,0,none⟩)) 7 rfl V (by decide+kernel) rfl rfl rfl (λρ h s' K=>Aq (a:=⟨ao,0,none⟩) 0 0 Tryz.underlying150 Aw rfl rfl rfl (h _ _ rfl)) ?_;refine JG.val (v:=iV (vF p1 6 0)) 8 rfl V (by decide+kernel) rfl rfl rfl (λρ h s' K=>Yl.load AD (h _ _ rfl) (At.BS (j:=0) az K rfl)) ?_;let⟨c0,bC,bD⟩:=bind_some a2;refine JG.call (i:=5) (vs:=[.int .u8 ((p2.1:Nat):Int)]) (Kv bC) (by decide+kernel) rfl rfl rfl J4 rfl ae ?_;rintro _ c3 _ bE ⟨rfl,rfl⟩ bF;let⟨ag,bG,bH⟩:=bind_some bD;refine JG.val (v:=iV ag) 6 rfl V (by decide+kernel) rfl rfl rfl (λρ h s' K=>BP (h _ _ rfl) (h _ _ rfl) bG) ?_;refine AL.leaf (tail:=[9,10]) (by decide+kernel) (λt=>Bb (by decide+kernel) (Bb (by decide+kernel) Cn) t) ?_;refine Ac (v:=.bool (decide ((vF p1 6 0)<=ag))) rfl rfl rfl (λρ h=>Yl.geq (h _ _ rfl) (h _ _ rfl)) ?_;refine Ac (v:=.bool (decide ((vF p1 6 0)<=ag))) rfl rfl rfl (λρ h=>Yl.assign (h _ _ rfl)) ?_;refine JL.done ?_;have c4:r=(decide ((vF p1 6 0)<=ag)):=(d0 bH).symm;subst r;refine JL.ret (v:=.bool (decide ((vF p1 6 0)<=ag))) rfl rfl (Ay.list Tryz.func72 rfl (vs:=[.bool (decide ((vF p1 6 0)<=ag))]) ⟨rfl,trivial⟩) ?_;exact ab _ _ _ _ (((ac.trans Z).trans U).trans bE) rfl ⟨rfl,rfl⟩ bF;have aB:=aw;rw[d7 aA] at aB;refine JL.skip ?_;refine JL.seq ?_;refine JL.seq ?_;refine JL.region ?_;refine Ac (v:=BQ [(140,1),(141,1),(143,1),(144,1),(146,2),(148,2),(150,1)] p1) rfl rfl rfl (λρ h=>Yl.move (h _ _ rfl)) ?_;refine JL.done ?_;refine JL.block ?_;refine JL.seq ?_;refine JL.region ?_;refine Ac (v:=.tuple #[.agg #[iV (vF p1 0 0)],.bool (decide (p1.1=0))]) rfl rfl rfl (λρ h=>Ey (ts:=[(140,1),(141,1),(143,1),(144,1),(146,2),(148,2),(150,1)]) (c:=0) (k:=1) (q:=p1) rfl Tryz.underlying140 Lh (by decide) (h _ _ rfl)) ?_;refine Ac (v:=.bool (decide (p1.1=0))) rfl rfl rfl (λρ h=>Yl.extract (h _ _ rfl) rfl) ?_;refine Ac (v:=.agg #[iV (vF p1 0 0)]) rfl rfl rfl (λρ h=>Yl.extract (h _ _ rfl) rfl) ?_;refine JL.done ?_;refine AU (p:=p1.1=0) rfl (λaC=>?_) (λaC=>?_);have a3:=aB;rw[d5 aC] at a3;refine JL.seq ?_;refine JL.region ?_;refine JS.alloc rfl rfl rfl ae Lh λaD bI=>?_;refine JS.store (v:=.agg #[iV (vF p1 0 0)]) (off:=0) 4 rfl rfl rfl bI rfl rfl (AB Tryz.type140) (by simp[Value.cells,A3]) rfl (d4 rfl) λbJ=>?_;refine A8 4 bJ rfl λbK a4 aE bL=>?_;replace aE:At bK aD 0 [iV (vF p1 0 0)]:=aE;refine AT (S':=[[],[],[],[],[]]) rfl bL λbM=>?_;refine JL.done ?_;refine JL.seq ?_;refine JL.region ?_;refine Ac (v:=.pointer (some ⟨O,1,none⟩)) rfl rfl rfl (λρ h=>Aq (a:=⟨O,0,none⟩) 0 1 Tryz.underlying89 DU rfl rfl rfl (h _ _ rfl)) ?_;refine Ac (v:=.int .u8 ((p2.2:Nat):Int)) rfl rfl rfl (λρ h=>Yl.load Eu (h _ _ rfl) (At.AN (j:=1) (Y.Ag (U.trans a4)) rfl)) ?_;refine Ac (v:=.pointer (some ⟨aD,0,none⟩)) rfl rfl rfl (λρ h=>Aq (a:=⟨aD,0,none⟩) 0 0 Tryz.underlying140 Aw rfl rfl rfl (h _ _ rfl)) ?_;refine Ac (v:=iV (vF p1 0 0)) rfl rfl rfl (λρ h=>Yl.load AD (h _ _ rfl) (At.AN (j:=0) aE rfl)) ?_;let⟨ap,bN,bO⟩:=bind_some a3;refine JS.call (vs:=[.int .u8 ((p2.2:Nat):Int),iV (vF p1 0 0)]) (G0 bN) rfl rfl rfl GV rfl bM ?_;rintro _ c5 _ bP ⟨rfl,rfl⟩ bQ;refine Ac (v:=.bool ap) rfl rfl rfl (λρ h=>Yl.assign (h _ _ rfl)) ?_;refine JL.done ?_;have c6:r=ap:=(d0 bO).symm;subst r;refine JL.ret (v:=.bool ap) rfl rfl (Ay.list Tryz.func72 rfl (vs:=[.bool ap]) ⟨rfl,trivial⟩) ?_;exact ab _ _ _ _ ((((ac.trans Z).trans U).trans a4).trans bP) rfl ⟨rfl,rfl⟩ bQ;have aF:=aB;rw[d7 aC] at aF;refine JL.seq ?_;refine JL.region ?_;refine Ac (v:=.tuple #[.agg #[iV (vF p1 1 0)],.bool (decide (p1.1=1))]) rfl rfl rfl (λρ h=>Ey (ts:=[(140,1),(141,1),(143,1),(144,1),(146,2),(148,2),(150,1)]) (c:=1) (k:=1) (q:=p1) rfl Tryz.underlying141 Li (by decide) (h _ _ rfl)) ?_;refine Ac (v:=.bool (decide (p1.1=1))) rfl rfl rfl (λρ h=>Yl.extract (h _ _ rfl) rfl) ?_;refine Ac (v:=.agg #[iV (vF p1 1 0)]) rfl rfl rfl (λρ h=>Yl.extract (h _ _ rfl) rfl) ?_;refine JL.done ?_;refine AU (p:=p1.1=1) rfl (λaG=>?_) (λaG=>?_);have a5:=aF;rw[d5 aG] at a5;refine JL.seq ?_;refine JL.region ?_;refine JS.alloc rfl rfl rfl ae Li λaH bR=>?_;refine JS.store (v:=.agg #[iV (vF p1 1 0)]) (off:=0) 4 rfl rfl rfl bR rfl rfl (AB Tryz.type141) (by simp[Value.cells,A3]) rfl (d4 rfl) λbS=>?_;refine A8 4 bS rfl λbT a6 aI bU=>?_;replace aI:At bT aH 0 [iV (vF p1 1 0)]:=aI;refine AT (S':=[[],[],[],[],[]]) rfl bU λbV=>?_;refine JL.done ?_;refine JL.seq ?_;refine JL.region ?_;refine Ac (v:=.pointer (some ⟨O,1,none⟩)) rfl rfl rfl (λρ h=>Aq (a:=⟨O,0,none⟩) 0 1 Tryz.underlying89 DU rfl rfl rfl (h _ _ rfl)) ?_;refine Ac (v:=.int .u8 ((p2.2:Nat):Int)) rfl rfl rfl (λρ h=>Yl.load Eu (h _ _ rfl) (At.AN (j:=1) (Y.Ag (U.trans a6)) rfl)) ?_;refine Ac (v:=.pointer (some ⟨aH,0,none⟩)) rfl rfl rfl (λρ h=>Aq (a:=⟨aH,0,none⟩) 0 0 Tryz.underlying141 Aw rfl rfl rfl (h _ _ rfl)) ?_;refine Ac (v:=iV (vF p1 1 0)) rfl rfl rfl (λρ h=>Yl.load AD (h _ _ rfl) (At.AN (j:=0) aI rfl)) ?_;let⟨ai,bW,bX⟩:=bind_some a5;refine JS.call (vs:=[.int .u8 ((p2.2:Nat):Int),iV (vF p1 1 0)]) (G0 bW) rfl rfl rfl GV rfl bV ?_;rintro _ c7 _ bY ⟨rfl,rfl⟩ bZ;refine Ac (v:=.bool (!ai)) rfl rfl rfl (λρ h=>Yl.not (h _ _ rfl)) ?_;refine Ac (v:=.bool (!ai)) rfl rfl rfl (λρ h=>Yl.assign (h _ _ rfl)) ?_;refine JL.done ?_;have c8:r=(!ai):=(d0 bX).symm;subst r;refine JL.ret (v:=.bool (!ai)) rfl rfl (Ay.list Tryz.func72 rfl (vs:=[.bool (!ai)]) ⟨rfl,trivial⟩) ?_;exact ab _ _ _ _ ((((ac.trans Z).trans U).trans a6).trans bY) rfl ⟨rfl,rfl⟩ bZ;have aJ:=aF;rw[d7 aG] at aJ;refine JL.seq ?_;refine JL.region ?_;refine Ac (v:=.tuple #[.agg #[iV (vF p1 2 0)],.bool (decide (p1.1=2))]) rfl rfl rfl (λρ h=>Ey (ts:=[(140,1),(141,1),(143,1),(144,1),(146,2),(148,2),(150,1)]) (c:=2) (k:=1) (q:=p1) rfl Tryz.underlying143 Lf (by decide) (h _ _ rfl)) ?_;refine Ac (v:=.bool (decide (p1.1=2))) rfl rfl rfl (λρ h=>Yl.extract (h _ _ rfl) rfl) ?_;refine Ac (v:=.agg #[iV (vF p1 2 0)]) rfl rfl rfl (λρ h=>Yl.extract (h _ _ rfl) rfl) ?_;refine JL.done ?_;refine AU (p:=p1.1=2) rfl (λaK=>?_) (λaK=>?_);have a7:=aJ;rw[d5 aK] at a7;refine JL.seq ?_;refine JL.region ?_;refine JS.alloc rfl rfl rfl ae Lf λaL b2=>?_;refine JS.store (v:=.agg #[iV (vF p1 2 0)]) (off:=0) 4 rfl rfl rfl b2 rfl rfl (AB Tryz.type143) (by simp[Value.cells,A3]) rfl (d4 rfl) λb3=>?_;refine A8 4 b3 rfl λb4 a8 aM b5=>?_;replace aM:At b4 aL 0 [iV (vF p1 2 0)]:=aM;refine AT (S':=[[],[],[],[],[]]) rfl b5 λb6=>?_;refine JL.done ?_;refine JL.seq ?_;refine JL.region ?_;refine Ac (v:=.pointer (some ⟨O,0,none⟩)) rfl rfl rfl (λρ h=>Aq (a:=⟨O,0,none⟩) 0 0 Tryz.underlying89 DU rfl rfl rfl (h _ _ rfl)) ?_;refine Ac (v:=.int .u8 ((p2.1:Nat):Int)) rfl rfl rfl (λρ h=>Yl.load Eu (h _ _ rfl) (At.AN (j:=0) (Y.Ag (U.trans a8)) rfl)) ?_;refine Ac (v:=.pointer (some ⟨aL,0,none⟩)) rfl rfl rfl (λρ h=>Aq (a:=⟨aL,0,none⟩) 0 0 Tryz.underlying143 Aw rfl rfl rfl (h _ _ rfl)) ?_;refine Ac (v:=iV (vF p1 2 0)) rfl rfl rfl (λρ h=>Yl.load AD (h _ _ rfl) (At.AN (j:=0) aM rfl)) ?_;let⟨aj,b7,b8⟩:=bind_some a7;refine JS.call (vs:=[.int .u8 ((p2.1:Nat):Int),iV (vF p1 2 0)]) (G0 b7) rfl rfl rfl GV rfl b6 ?_;rintro _ c9 _ b9 ⟨rfl,rfl⟩ ca;refine Ac (v:=.bool (!aj)) rfl rfl rfl (λρ h=>Yl.not (h _ _ rfl)) ?_;refine Ac (v:=.bool (!aj)) rfl rfl rfl (λρ h=>Yl.assign (h _ _ rfl)) ?_;refine JL.done ?_;have da:r=(!aj):=(d0 b8).symm;subst r;refine JL.ret (v:=.bool (!aj)) rfl rfl (Ay.list Tryz.func72 rfl (vs:=[.bool (!aj)]) ⟨rfl,trivial⟩) ?_;exact ab _ _ _ _ ((((ac.trans Z).trans U).trans a8).trans b9) rfl ⟨rfl,rfl⟩ ca;have aN:=aJ;rw[d7 aK] at aN;refine JL.seq ?_;refine JL.region ?_;refine Ac (v:=.tuple #[.agg #[iV (vF p1 3 0)],.bool (decide (p1.1=3))]) rfl rfl rfl (λρ h=>Ey (ts:=[(140,1),(141,1),(143,1),(144,1),(146,2),(148,2),(150,1)]) (c:=3) (k:=1) (q:=p1) rfl Tryz.underlying144 Lg (by decide) (h _ _ rfl)) ?_;refine Ac (v:=.bool (decide (p1.1=3))) rfl rfl rfl (λρ h=>Yl.extract (h _ _ rfl) rfl) ?_;refine Ac (v:=.agg #[iV (vF p1 3 0)]) rfl rfl rfl (λρ h=>Yl.extract (h _ _ rfl) rfl) ?_;refine JL.done ?_;refine AU (p:=p1.1=3) rfl (λaO=>?_) (λaO=>?_);have a9:=aN;rw[d5 aO] at a9;refine JL.seq ?_;refine JL.region ?_;refine JS.alloc rfl rfl rfl ae Lg λaP cb=>?_;refine JS.store (v:=.agg #[iV (vF p1 3 0)]) (off:=0) 4 rfl rfl rfl cb rfl rfl (AB Tryz.type144) (by simp[Value.cells,A3]) rfl (d4 rfl) λcc=>?_;refine A8 4 cc rfl λcd ba aQ ce=>?_;replace aQ:At cd aP 0 [iV (vF p1 3 0)]:=aQ;refine AT (S':=[[],[],[],[],[]]) rfl ce λcg=>?_;refine JL.done ?_;refine JL.seq ?_;refine JL.region ?_;refine Ac (v:=.pointer (some ⟨O,0,none⟩)) rfl rfl rfl (λρ h=>Aq (a:=⟨O,0,none⟩) 0 0 Tryz.underlying89 DU rfl rfl rfl (h _ _ rfl)) ?_;refine Ac (v:=.int .u8 ((p2.1:Nat):Int)) rfl rfl rfl (λρ h=>Yl.load Eu (h _ _ rfl) (At.AN (j:=0) (Y.Ag (U.trans ba)) rfl)) ?_;refine Ac (v:=.pointer (some ⟨aP,0,none⟩)) rfl rfl rfl (λρ h=>Aq (a:=⟨aP,0,none⟩) 0 0 Tryz.underlying144 Aw rfl rfl rfl (h _ _ rfl)) ?_;refine Ac (v:=iV (vF p1 3 0)) rfl rfl rfl (λρ h=>Yl.load AD (h _ _ rfl) (At.AN (j:=0) aQ rfl)) ?_;let⟨aq,ci,ck⟩:=bind_some a9;refine JS.call (vs:=[.int .u8 ((p2.1:Nat):Int),iV (vF p1 3 0)]) (G0 ci) rfl rfl rfl GV rfl cg ?_;rintro _ db _ cm ⟨rfl,rfl⟩ co;refine Ac (v:=.bool aq) rfl rfl rfl (λρ h=>Yl.assign (h _ _ rfl)) ?_;refine JL.done ?_;have dc:r=aq:=(d0 ck).symm;subst r;refine JL.ret (v:=.bool aq) rfl rfl (Ay.list Tryz.func72 rfl (vs:=[.bool aq]) ⟨rfl,trivial⟩) ?_;exact ab _ _ _ _ ((((ac.trans Z).trans U).trans ba).trans cm) rfl ⟨rfl,rfl⟩ co;have aR:=aN;rw[d7 aO] at aR;refine JL.seq ?_;refine JL.region ?_;refine Ac (v:=.tuple #[.agg #[iV (vF p1 4 0),iV (vF p1 4 1)],.bool (decide (p1.1=4))]) rfl rfl rfl (λρ h=>Ey (ts:=[(140,1),(141,1),(143,1),(144,1),(146,2),(148,2),(150,1)]) (c:=4) (k:=2) (q:=p1) rfl Tryz.underlying146 J3 (by decide) (h _ _ rfl)) ?_;refine Ac (v:=.bool (decide (p1.1=4))) rfl rfl rfl (λρ h=>Yl.extract (h _ _ rfl) rfl) ?_;refine Ac (v:=.agg #[iV (vF p1 4 0),iV (vF p1 4 1)]) rfl rfl rfl (λρ h=>Yl.extract (h _ _ rfl) rfl) ?_;refine JL.done ?_;refine AU (p:=p1.1=4) rfl (λaS=>?_) (λaS=>?_);have bb:=aR;rw[d5 aS] at bb;refine JL.seq ?_;refine JL.region ?_;refine JS.alloc rfl rfl rfl ae J3 λak cp=>?_;refine JS.store (v:=.agg #[iV (vF p1 4 0),iV (vF p1 4 1)]) (off:=0) 4 rfl rfl rfl cp rfl rfl (AB Tryz.type146) (by simp[Value.cells,A3]) rfl (d4 rfl) λcq=>?_;refine A8 4 cq rfl λcr aT ar ct=>?_;replace ar:At cr ak 0 [iV (vF p1 4 0),iV (vF p1 4 1)]:=ar;refine AT (S':=[[],[],[],[],[]]) rfl ct λcu=>?_;refine JL.done ?_;refine JL.seq ?_;refine JL.region ?_;refine Ac (v:=.pointer (some ⟨O,1,none⟩)) rfl rfl rfl (λρ h=>Aq (a:=⟨O,0,none⟩) 0 1 Tryz.underlying89 DU rfl rfl rfl (h _ _ rfl)) ?_;refine Ac (v:=.int .u8 ((p2.2:Nat):Int)) rfl rfl rfl (λρ h=>Yl.load Eu (h _ _ rfl) (At.AN (j:=1) (Y.Ag (U.trans aT)) rfl)) ?_;refine Ac (v:=.pointer (some ⟨ak,0,none⟩)) rfl rfl rfl (λρ h=>Aq (a:=⟨ak,0,none⟩) 0 0 Tryz.underlying146 Aw rfl rfl rfl (h _ _ rfl)) ?_;refine Ac (v:=iV (vF p1 4 0)) rfl rfl rfl (λρ h=>Yl.load AD (h _ _ rfl) (At.AN (j:=0) ar rfl)) ?_;let⟨aU,cw,cy⟩:=bind_some bb;refine JS.call (vs:=[.int .u8 ((p2.2:Nat):Int),iV (vF p1 4 0)]) (G0 cw) rfl rfl rfl GV rfl cu ?_;rintro _ be _ aV ⟨rfl,rfl⟩ bf;refine Ac (v:=.bool (!aU)) rfl rfl rfl (λρ h=>Yl.not (h _ _ rfl)) ?_;refine Ac (v:=.bool (!aU)) rfl rfl rfl (λρ h=>Yl.move (h _ _ rfl)) ?_;let⟨aa,bg,cz⟩:=bind_some cy;refine Dl [13] (λL s=>∃(au:LH),L=[(81,.bool aa)]/\s=Ae au H []/\Le be au/\Ak au H []) ?_ ?_;rintro _ _ ⟨au,rfl,rfl,cA,cB⟩;refine Ac (v:=.bool aa) rfl rfl rfl (λρ h=>Yl.assign (h _ _ rfl)) (JL.done ?_);have dd:r=aa:=(d0 cz).symm;subst r;exact JL.ret (v:=.bool aa) rfl rfl (Ay.list Tryz.func72 rfl (vs:=[.bool aa]) ⟨rfl,trivial⟩) (ab _ _ _ _ (((((ac.trans Z).trans U).trans aT).trans aV).trans cA) rfl ⟨rfl,rfl⟩ cB);intro bh;refine EY (c:=(!aU)) (i:=75) rfl (λaW=>?_) (λaW=>?_);have bi:=bg;rw[d5 aW] at bi;refine AP rfl rfl rfl ?_;refine AP rfl rfl rfl ?_;refine AP rfl rfl rfl ?_;refine AP rfl rfl rfl ?_;refine AP rfl rfl rfl ?_;refine Ac (v:=.bool true) rfl rfl rfl (λρ h=>Ci (h _ _ rfl) (h _ _ rfl)) ?_;have de:aa=true:=(d0 bi).symm;subst aa;refine Ap ?_ (bh _ _ ⟨be,rfl,rfl,(Le.refl _),bf⟩);exact⟨rfl,trivial⟩;have bj:=bg;rw[d7 (by rw[aW];exact f8)] at bj;refine Ac (v:=.pointer (some ⟨O,1,none⟩)) rfl rfl rfl (λρ h=>Aq (a:=⟨O,0,none⟩) 0 1 Tryz.underlying89 DU rfl rfl rfl (h _ _ rfl)) ?_;refine Ac (v:=.int .u8 ((p2.2:Nat):Int)) rfl rfl rfl (λρ h=>Yl.load Eu (h _ _ rfl) (At.AN (j:=1) (Y.Ag ((U.trans aT).trans aV)) rfl)) ?_;refine Ac (v:=.pointer (some ⟨ak,1,none⟩)) rfl rfl rfl (λρ h=>Aq (a:=⟨ak,0,none⟩) 0 1 Tryz.underlying146 Aw rfl rfl rfl (h _ _ rfl)) ?_;refine Ac (v:=iV (vF p1 4 1)) rfl rfl rfl (λρ h=>Yl.load AD (h _ _ rfl) (At.AN (j:=1) (ar.Ag aV) rfl)) ?_;let⟨bl,cC,cD⟩:=bind_some bj;refine JS.call (vs:=[.int .u8 ((p2.2:Nat):Int),iV (vF p1 4 1)]) (G0 cC) rfl rfl rfl GV rfl bf ?_;rintro _ cE _ cF ⟨rfl,rfl⟩ cG;refine Ac (v:=.bool bl) rfl rfl rfl (λρ h=>CF (h _ _ rfl) (h _ _ rfl)) ?_;have df:aa=bl:=(d0 cD).symm;subst aa;refine Ap ?_ (bh _ _ ⟨cE,rfl,rfl,cF,cG⟩);exact⟨rfl,trivial⟩;have aX:=aR;rw[d7 aS] at aX;refine JL.seq ?_;refine JL.region ?_;refine Ac (v:=.tuple #[.agg #[iV (vF p1 5 0),iV (vF p1 5 1)],.bool (decide (p1.1=5))]) rfl rfl rfl (λρ h=>Ey (ts:=[(140,1),(141,1),(143,1),(144,1),(146,2),(148,2),(150,1)]) (c:=5) (k:=2) (q:=p1) rfl Tryz.underlying148 J2 (by decide) (h _ _ rfl)) ?_;refine Ac (v:=.bool (decide (p1.1=5))) rfl rfl rfl (λρ h=>Yl.extract (h _ _ rfl) rfl) ?_;refine Ac (v:=.agg #[iV (vF p1 5 0),iV (vF p1 5 1)]) rfl rfl rfl (λρ h=>Yl.extract (h _ _ rfl) rfl) ?_;refine JL.done ?_;refine AU (p:=p1.1=5) rfl (λaY=>?_) (λaY=>?_);have bm:=aX;rw[d5 aY] at bm;refine JL.seq ?_;refine JL.region ?_;refine JS.alloc rfl rfl rfl ae J2 λal cH=>?_;refine JS.store (v:=.agg #[iV (vF p1 5 0),iV (vF p1 5 1)]) (off:=0) 4 rfl rfl rfl cH rfl rfl (AB Tryz.type148) (by simp[Value.cells,A3]) rfl (d4 rfl) λcI=>?_;refine A8 4 cI rfl λcJ aZ av cK=>?_;replace av:At cJ al 0 [iV (vF p1 5 0),iV (vF p1 5 1)]:=av;refine AT (S':=[[],[],[],[],[]]) rfl cK λcM=>?_;refine JL.done ?_;refine JL.seq ?_;refine DJ 9 mixed rfl (by decide+kernel) λV=>?_;refine JG.val (v:=.pointer (some ⟨O,0,none⟩)) 0 rfl V (by decide+kernel) rfl rfl rfl (λρ h s' K=>Aq (a:=⟨O,0,none⟩) 0 0 Tryz.underlying89 DU rfl rfl rfl (h _ _ rfl)) ?_;refine JG.val (v:=.int .u8 ((p2.1:Nat):Int)) 1 rfl V (by decide+kernel) rfl rfl rfl (λρ h s' K=>Yl.load Eu (h _ _ rfl) (At.BS (j:=0) (Y.Ag (U.trans aZ)) K rfl)) ?_;refine JG.val (v:=.pointer (some ⟨al,0,none⟩)) 2 rfl V (by decide+kernel) rfl rfl rfl (λρ h s' K=>Aq (a:=⟨al,0,none⟩) 0 0 Tryz.underlying148 Aw rfl rfl rfl (h _ _ rfl)) ?_;refine JG.val (v:=iV (vF p1 5 0)) 3 rfl V (by decide+kernel) rfl rfl rfl (λρ h s' K=>Yl.load AD (h _ _ rfl) (At.BS (j:=0) av K rfl)) ?_;refine JG.val (v:=.pointer (some ⟨O,0,none⟩)) 5 rfl V (by decide+kernel) rfl rfl rfl (λρ h s' K=>Aq (a:=⟨O,0,none⟩) 0 0 Tryz.underlying89 DU rfl rfl rfl (h _ _ rfl)) ?_;refine JG.val (v:=.int .u8 ((p2.1:Nat):Int)) 6 rfl V (by decide+kernel) rfl rfl rfl (λρ h s' K=>Yl.load Eu (h _ _ rfl) (At.BS (j:=0) (Y.Ag (U.trans aZ)) K rfl)) ?_;refine JG.val (v:=.pointer (some ⟨al,1,none⟩)) 7 rfl V (by decide+kernel) rfl rfl rfl (λρ h s' K=>Aq (a:=⟨al,0,none⟩) 0 1 Tryz.underlying148 Aw rfl rfl rfl (h _ _ rfl)) ?_;refine JG.val (v:=iV (vF p1 5 1)) 8 rfl V (by decide+kernel) rfl rfl rfl (λρ h s' K=>Yl.load AD (h _ _ rfl) (At.BS (j:=1) av K rfl)) ?_;let⟨am,cN,cO⟩:=bind_some bm;refine JG.call (i:=4) (vs:=[.int .u8 ((p2.1:Nat):Int),iV (vF p1 5 0)]) (G0 cN) (by decide+kernel) rfl rfl rfl GV rfl cM ?_;rintro _ dg _ cP ⟨rfl,rfl⟩ cQ;refine AL.leaf (tail:=[9,10,11]) (by decide+kernel) (λt=>Bb (by decide+kernel) (Bb (by decide+kernel) (Bb (by decide+kernel) Cn)) t) ?_;let⟨an,cR,cT⟩:=bind_some cO;refine JS.call (vs:=[.int .u8 ((p2.1:Nat):Int),iV (vF p1 5 1)]) (G0 cR) rfl rfl rfl GV rfl cQ ?_;rintro _ dh _ cV ⟨rfl,rfl⟩ cW;refine Ac (v:=.bool (((am)==(an)))) rfl rfl rfl (λρ h=>Uh Tryz.underlying4 (h _ _ rfl) (h _ _ rfl)) ?_;refine Ac (v:=.bool (((am)==(an)))) rfl rfl rfl (λρ h=>Yl.assign (h _ _ rfl)) ?_;refine JL.done ?_;have di:r=((am)==(an)):=(d0 cT).symm;subst r;refine JL.ret (v:=.bool (((am)==(an)))) rfl rfl (Ay.list Tryz.func72 rfl (vs:=[.bool (((am)==(an)))]) ⟨rfl,trivial⟩) ?_;exact ab _ _ _ _ (((((ac.trans Z).trans U).trans aZ).trans cP).trans cV) rfl ⟨rfl,rfl⟩ cW;have bn:=aX;rw[d7 aY] at bn;refine JL.skip ?_;refine Bv ?_;refine JL.seq ?_;refine JL.region ?_;refine Ac (v:=.bool false) rfl rfl rfl (λρ h=>Yl.assign (h _ _ rfl)) ?_;refine JL.done ?_;have dj:r=false:=(d0 bn).symm;subst r;refine JL.ret (v:=.bool false) rfl rfl (Ay.list Tryz.func72 rfl (vs:=[.bool false]) ⟨rfl,trivial⟩) ?_;exact ab _ _ _ _ ((ac.trans Z).trans U) rfl ⟨rfl,rfl⟩ ae
def EM(fuel:Nat)(p0:Bool)(p1:Int):Option Unit:=if p0=true then some () else none
theorem Fa{J:Judge Tryz.prog}{E:LH}{p0:Bool}{r:Unit}(K:EM fuel p0 p1=some r):Ax J 30 [.bool p0,iV p1] E [] (λw E' B'=>w=.tuple #[]/\B'=[]):=by
 refine Ax.enter Tryz.func30 rfl (d4 rfl) λQ V cs H O U=>?_;unfold EM at K;obtain rfl:p0=true:=by cases p0 with
  | true=>rfl
  | false=>cases K
 refine JL.seq (JL.region ?_);refine Ac (v:=.bool true) rfl rfl rfl (λρ h=>Yl.move (h _ _ rfl)) (Ac (v:=.bool (!true)) rfl rfl rfl (λρ h=>Yl.not (h _ _ rfl)) ?_);refine JL.done (AU (p:=False) rfl (λh=>h.elim) (λ_=>?_));refine JL.skip (JL.fin rfl rfl (Ay.none Tryz.func30 rfl) ?_);exact U _ _ _ _ (Le.refl _) rfl ⟨rfl,rfl⟩ O
def Jv(fuel:Nat)(p0:Int×Int×(List (Int×Int×Int×Int)))(p1:Int):Option (Unit):=
 (AR (p0.1 - 1)).bind λK=>
 (Fb fuel p1 0 K).bind λO=>
 (EM fuel O 3).bind λU=>
 some ()
theorem UC{J:Judge Tryz.prog}{E:LH}{p0:Int×Int×(List (Int×Int×Int×Int))}(au:AK (rP rI (rP rI (rP rI rI))) E a1 c2 (p0.2.2)){r:Unit}(U:Jv fuel p0 p1=some r):Ax J 25 [.agg #[iV p0.1,iV p0.2.1,.slice a1 (p0.2.2).length c2],iV p1] E [] (λw E' B'=>w=.tuple #[]/\B'=[]):=by
 refine Ax.enter Tryz.func25 rfl (d4 rfl) λQ av cs H Y Z=>?_;unfold Jv at U;refine JL.seq (JL.region ?_);refine JS.box (v:=.agg #[iV p0.1,iV p0.2.1,.slice a1 (p0.2.2).length c2]) rfl rfl rfl Y rfl λK aa=>A8 1 aa rfl λab ac O ae=>?_;replace O:At ab K 0 [iV p0.1,iV p0.2.1,.slice a1 (p0.2.2).length c2]:=O;refine JL.done (JL.region ?_);refine Ac (v:=iV p1) rfl rfl rfl (λρ h=>Yl.move (h _ _ rfl)) (Ac (v:=.pointer (some ⟨K,0,none⟩)) rfl rfl rfl (λρ h=>Aq (a:=⟨K,0,none⟩) 2 0 Tryz.underlying81 FF rfl rfl rfl (h _ _ rfl)) ?_);refine Ac (v:=.pointer (some ⟨K,0,none⟩)) rfl rfl rfl (λρ h=>Aq (a:=⟨K,0,none⟩) 0 0 Tryz.underlying40 Aw rfl rfl rfl (h _ _ rfl)) (Ac (v:=iV p0.1) rfl rfl rfl (λρ h=>Yl.load AD (h _ _ rfl) (At.AN (j:=0) O rfl)) ?_);obtain⟨V,ag,ah⟩:=bind_some U;refine Ac (v:=iV V) rfl rfl rfl (λρ h=>BP (h _ _ rfl) (h _ _ rfl) ag) ?_;let⟨ai,aj,ak⟩:=bind_some ah;refine JS.call (vs:=[iV p1,iV 0,iV V]) (Gz aj) rfl rfl rfl Gt rfl ae ?_;rintro _ aw _ al ⟨rfl,rfl⟩ am;let⟨ay,an,ao⟩:=bind_some ak;refine JS.call (vs:=[.bool ai,iV 3]) (Fa an) rfl rfl rfl EX rfl am ?_;rintro _ az _ ap ⟨rfl,rfl⟩ aq;refine AT (S':=[[],[],[],[]]) rfl aq λar=>JL.done ?_;have aA:r=():=(d0 ao).symm;subst r;exact JL.fin (v:=.tuple #[]) rfl rfl (Ay.list Tryz.func25 rfl (vs:=[]) trivial) (Z _ _ _ _ ((ac.trans al).trans ap) rfl ⟨rfl,rfl⟩ ar)
end Pal
namespace Pal
open Go Go.Conc
variable {P:Program}{Q:Gs_}{b:Frame}{n:Nat}{ds:Ld_}{ops:Ao_}{k:Li_}{cs:Lf_}{m:Nat}{D:Nat->Bool}{listed:Array Bool}{L:Env}{s:St}{E H:LH}{S:List Seg}
variable{i:Nat}{name:String}{args:Array Operand}{ats:Array TypeId}{vs:Lv_}
section
variable {J:Judge P}{fuel:Nat}
theorem SR{d:Option Tmp}{x:Operand}{t:TypeId}{rv rv':Value}{f:FuncId}{ty:TypeId}{p:String}{af:Ae_}{g:On_}{R:Value->St->Prop}
  (hm:∀{s:St}{X:Halt->St->Prop}{Q:FuncId×Value->St->Prop},Q (f,rv') s->lp P (Go.method (P.types.size+Made.depth) t rv name) s Q X) (U:s.q=false) (V:Region.ready .any ops listed=[i])
  (Y:ops[i]?=some ⟨d,.call ⟨.invoke x name,args,ats⟩,ty,p,af,g⟩) (Z:A5 n d=true) (hw:AO L ops ⟨d,.call ⟨.invoke x name,args,ats⟩,ty,p,af,g⟩=some true) (hb:Dd P f=true) (aa:ev L x=some (.iface t rv)) (ab:evs L args.toList=some vs)
  (ac:CZ J f (rv'::vs).toArray s R) (h:∀v K,R v K->K.q=false/\(∀x o,(A2 D s).E x=some o->(A2 D K).E x=some o)/\AL J Q b n ds ops k cs m D fuel (AZ listed i) (Az L d v) K):
  AL J Q b n ds ops k cs m D (fuel+1) listed L s:=by
 refine AL.one U V Y (by simp[CX,Z]) hw λρ O=>?_;have ae:args.map ρ=vs.toArray:=by
  rw[← F6 O ab];apply lJ;simp
 have ag:ρ x=.iface t rv:=O _ _ aa;simp only[execOp,resolve,bind,Sem.bind,pure,invoke,ag,ae];have ah:(#[Value.iface t rv]++vs.toArray)[0]?=some (.iface t rv):=by simp
 have ai:(#[Value.iface t rv]++vs.toArray).extract 1 (#[Value.iface t rv]++vs.toArray).size=vs.toArray:=by
  apply lJ;simp
 simp only[ah,ai,callMethod,bind,Sem.bind,program,lp];refine AG _ _ (hm ?_);have e2: #[rv']++vs.toArray=(rv'::vs).toArray:=by apply lJ;simp
 simp only[e2];refine Iv hb ?_;rw[I3];exact⟨R,ac,h⟩
theorem PY{d:Option Tmp}{x:Operand}{U:Value}{ty:TypeId}{p:String}{af:Ae_}{g:On_}{R:Value->LH->Seg->Prop}(O:Fh J U name vs E [] R)(Z:Region.ready .any ops listed=[i])
  (aa:ops[i]?=some ⟨d,.call ⟨.invoke x name,args,ats⟩,ty,p,af,g⟩) (ab:A5 n d=true) (hw:AO L ops ⟨d,.call ⟨.invoke x name,args,ats⟩,ty,p,af,g⟩=some true) (K:ev L x=some U) (ac:evs L args.toList=some vs) (ae:Ak E H S)
  (ag:∀v E' seg',Le E E'->R v E' seg'->Ak E' H (S++ [seg'])->AL J Q b n ds ops k cs m Dy fuel (AZ listed i) (Az L d v) (Ae E' H (S++ [seg']))):
  AL J Q b n ds ops k cs m Dy (fuel+1) listed L (Ae E H S):=by
 obtain⟨t,rv,rv',f,rfl,hb,hm,O⟩:=O;have ah:=CZ.JC (O (AS S.flatten H) trivial) (by rintro v s' ⟨E',B',_,_,_,rfl⟩;rfl);refine SR hm rfl Z aa ab hw hb K ac ah ?_;rintro v am ⟨⟨E',B',hle,ai,aj,rfl⟩,w,ak⟩;have e2:mk E' (AS S.flatten H) B'=mk E' H (B'++S.flatten):=by unfold mk;rw[EI]
 have al:Nd E' H S.flatten:=Nd.grow ae λx K=>by
  have h0:=ak.d x K;have h1:AS B' (AS S.flatten H) x=none:=h0;exact(GX h1).1
 have V:Nd E' H (B'++S.flatten):=Nd.glue aj al;have Y:(B'++S.flatten).Perm (S++ [B']).flatten:=by rw[IC];exact kK
 rw[e2,Ez V Y];exact⟨rfl,λx o K=>hle x o K,ag v E' B' hle ai (Nd.perm V Y)⟩
end
def Hp(a b:Nat):Option Nat:=if a<256/\b<256 then some (a&&& (255 - b)) else none
variable {ρ:Operand->Value}{d:Option Tmp}{t u ty:TypeId}{p:String}{af:Ae_}{g:On_}{a r:Nat}
section
variable {x y:Operand}{b:Nat}
theorem R6{kd:IntKind}{m m':Int}(K:ρ x=.int kd m)(O:ρ y=.int kd m'):Yl P ⟨d,.binOp .andNot t x y u,ty,p,af,g⟩ ρ s (.int kd (kd.wrap (BitVec.ofInt kd.bits m&&& ~~~BitVec.ofInt kd.bits m').toNat)):=by
 simp[Yl,execOp,lp,pure,bind,Sem.bind,K,O,eqGuard,Go.binOp,Op.intBits]
theorem Na(K:ρ x=s8 a)(O:ρ y=s8 b)(h:Hp a b=some r):Yl P ⟨d,.binOp .andNot t x y u,ty,p,af,g⟩ ρ s (s8 r):=by
 unfold Hp at h;split at h;rename_i h0;cases h;have h:=R6 (P:=P) (s:=s) (d:=d) (t:=t) (u:=u) (ty:=ty) (p:=p) (af:=af) (g:=g) K O;rw[mK,BitVec.toNat_not,JN h0.1,JN h0.2,show 2^IntKind.u8.bits - 1 - b=255 - b from rfl,Og (lD mz h0.1)] at h;exact h;cases h
end
end Pal
