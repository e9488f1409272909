/- TopClaimed: the claims of a book as words of vouchers: a part (2 of 8) of the proof of its row. -/
import Derived.Test.YtckjhfngndgdbaaGreatCla
import Derived.Conc.WgLib
import Derived.Conc.WgArith
import Derived.Conc.WgGenW
set_option linter.all false
set_option maxRecDepth 100000
namespace Pal
open Go Go.Conc
open Go.ConcN (upd upd_same upd_ne sumTo sumTo_upd sumTo_upd_out sumTo_congr le_sumTo sumTo_le fork_knows)
variable{i:Nat}
section
variable {F:Fam}{N0 N j:Nat}{c:Bool}{φ:Nat->Nx}{v wt sm:Nat}{cl:Bool}
theorem BR.spawn(h:BR F N0 N j c φ v wt sm cl)(U:φ 0=.ph (.En j)):
  BR F N0 (N+1) (j+1) c (upd (upd φ N (.ph (F.start j))) 0 (.ph (F.DY j))) v wt sm cl:=by
 obtain⟨ag,ah,ai⟩:=h.main;obtain rfl:ag=.En j:=by rw[ah] at U;exact Nx.ph.inj U
 obtain⟨_,an,rfl⟩:=ai;have aj:=h.size;have ao:=h.pos;simp only[kF,k6] at aj;have V:cU (.ph (F.start j))=1/\cL (.ph (F.start j))=0/\cS (.ph (F.start j))=0:=by
  exact⟨rfl,rfl,rfl⟩
 have K:cU (.ph (F.DY j))=0/\cL (.ph (F.DY j))=0/\cS (.ph (F.DY j))=0/\pend (.ph (F.DY j))=0/\got (.ph (F.DY j))=[]:=by
  unfold Fam.DY;split<;>exact⟨rfl,rfl,rfl,rfl,rfl⟩
 have Y:cU (φ 0)=0/\cL (φ 0)=0/\cS (φ 0)=0:=by rw[U];exact⟨rfl,rfl,rfl⟩
 let φ':Nat->Nx:=upd (upd φ N (.ph (F.start j))) 0 (.ph (F.DY j));have O:φ' 0=.ph (F.DY j):=upd_same _ _ _;have ae:φ' N=.ph (F.start j):=by show upd _ _ _ _=_;rw[upd_ne _ _ (by omega),upd_same]
 have Z:∀i,0<i->i≠N->φ' i=φ i:=λi h1 aa=>by show upd _ _ _ _=_;rw[upd_ne _ _ (by omega),upd_ne _ _ aa]
 have sum:∀f:Nx->Nat,f (φ 0)=0->f (.ph (F.DY j))=0->(sumTo (N+1) λi=>f (φ' i))=(sumTo N λi=>f (φ i))+f (.ph (F.start j)):=by
  intro f f0 f1;simp only[sumTo,ae];congr 1;have ak:0<N:=by omega
  have:=sumTo_upd (upd φ N (.ph (F.start j))) (.ph (F.DY j)) f ak;have e2:upd φ N (.ph (F.start j)) 0=φ 0:=upd_ne _ _ (by omega);rw[e2,f0,f1] at this;have ap:=sumTo_upd_out φ (.ph (F.start j)) f (i:=N) (j:=N) (kG _);show sumTo N (λi=>f (upd (upd φ N (.ph (F.start j))) 0 (.ph (F.DY j)) i))=_;omega
 have ab:=h.cnt;have ac:=h.Ip;rw[U] at ab ac;simp only[pend] at ab ac;show BR F N0 (N+1) (j+1) false φ' v wt sm cl;have al:got (φ 0)=[]:=by rw[U];rfl
 refine⟨h.pos,h.n1,h.F3,by simp;omega,by omega,by simp,⟨F.DY j,O,?_⟩,λi h1 aa=>by rw[Z i h1 (by omega)];exact h.old i h1 aa,λk am=>?_,by simp,?_,?_,?_,λk am hh=>?_,by rw[O,K.2.2.2.2];exact .nil,by rw[O,K.2.2.2.2];simp⟩;unfold Fam.DY;split;exact⟨by assumption,rfl⟩;exact⟨rfl,by omega,rfl⟩;by_cases e:k=j;subst e;rw[show N0+k=N by omega,ae];exact trivial;rw[Z _ (by omega) (by omega)];exact h.work k (by omega);rw[O,K.2.2.2.1,sum cU Y.1 K.1,V.1];exact ab;rw[O,K.2.2.2.1];exact ac;have hm:=h.mode;simp only[kV,lE] at hm ⊢;rw[sum cL Y.2.1 K.2.1,sum cS Y.2.2 K.2.2.1,V.2.1,V.2.2];exact hm
 .rw [O,K.2.2.2.2];by_cases e:k=j;exact absurd hh f8
  .rw [Z _ (by omega) (by omega)];have:=h.IU k (by omega) hh
   rwa[al] at this
theorem BR.WC(h:BR F N0 N j c φ v wt sm cl)(O:φ 0=.ph .Fs):
  BR F N0 (N+1) j true (upd (upd φ N (.ph .Co)) 0 (.ph (.Eh [] []))) v wt sm cl:=by
 obtain⟨ag,ah,ai⟩:=h.main;obtain rfl:ag=.Fs:=by rw[ah] at O;exact Nx.ph.inj O
 obtain⟨ae,rfl⟩:=ai;have aj:=h.size;have am:=h.pos;simp only[kF,k6] at aj;have U:cU (φ 0)=0/\cL (φ 0)=0/\cS (φ 0)=0:=by rw[O];exact⟨rfl,rfl,rfl⟩
 let φ':Nat->Nx:=upd (upd φ N (.ph .Co)) 0 (.ph (.Eh [] []));have K:φ' 0=.ph (.Eh [] []):=upd_same _ _ _;have V:φ' N=.ph .Co:=by show upd _ _ _ _=_;rw[upd_ne _ _ (by omega),upd_same]
 have Y:∀i,0<i->i≠N->φ' i=φ i:=λi h1 Z=>by show upd _ _ _ _=_;rw[upd_ne _ _ (by omega),upd_ne _ _ Z]
 have sum:∀f:Nx->Nat,f (φ 0)=0->f (.ph (.Eh [] []))=0->f (.ph .Co)=0->(sumTo (N+1) λi=>f (φ' i))=(sumTo N λi=>f (φ i)):=by
  intro f f0 f1 f2;simp only[sumTo,V,f2];have ak:0<N:=by omega
  have:=sumTo_upd (upd φ N (.ph .Co)) (.ph (.Eh [] [])) f ak;have e2:upd φ N (.ph .Co) 0=φ 0:=upd_ne _ _ (by omega);rw[e2,f0,f1] at this;have an:=sumTo_upd_out φ (.ph .Co) f (i:=N) (j:=N) (kG _);show sumTo N (λi=>f (upd (upd φ N (.ph .Co)) 0 (.ph (.Eh [] [])) i))+0=_;omega
 have aa:=h.cnt;have ab:=h.Ip;rw[O] at aa ab;simp only[pend] at aa ab;show BR F N0 (N+1) j true φ' v wt sm cl;have al:got (φ 0)=[]:=by rw[O];rfl
 refine⟨h.pos,h.n1,h.F3,by simp;omega,h.jn,λ_=>ae,⟨.Eh [] [],K,ae,rfl⟩,λi h1 Z=>by rw[Y i h1 (by omega)];exact h.old i h1 Z,λk ac=>?_,λ_=>by rw[show N0+F.n=N by omega,V];trivial,?_,?_,?_,λk ac hh=>?_,by rw[K];exact .nil,by rw[K];simp[got]⟩;rw[Y _ (by omega) (by omega)];exact h.work k ac;rw[K,sum cU U.1 rfl rfl];exact aa;rw[K];exact ab;have hm:=h.mode;simp only[kV,lE,lL] at hm ⊢;rw[show N0+F.n=N by omega,V,sum cL U.2.1 rfl rfl,sum cS U.2.2 rfl rfl];exact hm
 .rw [K];rw[Y _ (by omega) (by omega)];have:=h.IU k ac hh
  rwa[al] at this
theorem BR.leave(h:BR F N0 N j c φ v wt sm cl){d d':Nat}(hi:i<N)(K:φ i=.gone d):BR F N0 N j c (upd φ i (.gone d')) v wt sm cl:=by
 rcases h.EO hi with rfl | ⟨a,b⟩ | ⟨k,U,rfl⟩ | ⟨V,rfl⟩;obtain⟨p,Y,_⟩:=h.main;rw[K] at Y;cases Y
 .have ac:=hi;have z:∀f:Nx->Nat,f (.gone d)=0->f (.gone d')=0->(sumTo N λa=>f (upd φ i (.gone d') a))=sumTo N λa=>f (φ a):=by
   intro f f0 f1;have:=sumTo_upd φ (.gone d') f ac;rw[K] at this;omega
  have ah:=h.size;have O:upd φ i (.gone d') 0=φ 0:=upd_ne _ _ (by omega);refine⟨h.pos,h.n1,h.F3,h.size,h.jn,h.cj,by rw[O];exact h.main,λZ h1 ae=>?_,λk U=>by rw[upd_ne _ _ (by omega)];exact h.work k U,λV=>by rw[upd_ne _ _ (by omega)];exact h.cls V,by rw[O,z cU rfl rfl];exact h.cnt,by rw[O];exact h.Ip,?_,λk U hh=>by rw[O,upd_ne _ _ (by omega)];exact h.IU k U hh,by rw[O];exact h.nd,by rw[O];exact h.sub⟩;by_cases e:Z=i;subst e;rw[upd_same];trivial;rw[upd_ne _ _ e];exact h.old Z h1 ae;rw[z cL rfl rfl,z cS rfl rfl,upd_ne _ _ (by omega)];exact h.mode
 refine h.Gl U (x:=.gone d') trivial (by rw[K];simp) (by simp) (by rw[K];rfl) λL S aa ab=>?_;rw[K] at aa ab;have ag:L=sumTo N λi=>cL (φ i):=aa;have e2:S=sumTo N λi=>cS (φ i):=ab;subst ag e2;exact h.mode;have hm:=h.mode;rw[d5 V,K] at hm;exact h.Gn V (x:=.gone d') trivial hm
theorem BR.Uk(h:BR F N0 N j c φ v wt sm cl)(O:c=true)(U:φ (N0+F.n)=.ph .FL∨φ (N0+F.n)=.ph .EE∨φ (N0+F.n)=.ph .EN∨φ (N0+F.n)=.ph .Ge∨Mf (φ (N0+F.n))):∀k,k<j->Mf (φ (N0+k)):=by
 intro k V;have hm:=h.mode;rw[d5 O] at hm;have Y:=h.size;have Z:=h.cnt;have h1:cU (φ (N0+k))<=sumTo N λi=>cU (φ i):=le_sumTo (f:=λi=>cU (φ i)) (show N0+k<N by omega);have aa:cL (φ (N0+k))<=sumTo N λi=>cL (φ i):=le_sumTo (f:=λi=>cL (φ i)) (show N0+k<N by omega);have ab:cS (φ (N0+k))<=sumTo N λi=>cS (φ i):=le_sumTo (f:=λi=>cS (φ i)) (show N0+k<N by omega);have ac:v=0/\(sumTo N λi=>cL (φ i))=0/\(sumTo N λi=>cS (φ i))=0:=by
  rcases U with e | e | e | e | e;rw[e] at hm;exact⟨hm.2.2.2.2.1,hm.1,hm.2.1⟩;rw[e] at hm;exact⟨hm.2.2.2.2.1,hm.1,hm.2.1⟩;rw[e] at hm;exact⟨hm.2.2.2.2.1,hm.1,hm.2.1⟩;rw[e] at hm;exact⟨hm.2.2.2.2.1,hm.1,hm.2.1⟩
  .cases K:φ (N0+F.n) with
   | gone d=>rw[K] at hm;exact⟨hm.2.2.2.2.1,hm.1,hm.2.1⟩
   | ph p=>rw[K] at e;exact e.elim
 have hw:=h.work k V;cases K:φ (N0+k) with
 | gone d=>trivial
 | ph p=>
  have ae:1<=cU (φ (N0+k))+cL (φ (N0+k))+cS (φ (N0+k)):=by
   rw[K] at hw ⊢;cases p<;>simp only[EL] at hw<;>simp[cU,cL,cS]
  exfalso;omega
end
open Go.ConcN (RelBy)
def dl:LP->Nat
 | .Fp | .CO _ _ _ | .BC _ _ _ _ | .GF _ | .BL _ | .Ei | .CS _ | .CN _ | .len=>1
 | .FW | .CY _ | .Ft | .Dx _ | .DC=>1
 | _=>0
def D9:Nx->Nat
 | .gone d=>d
 | .ph .Gk | .ph .FQ | .ph .Gd | .ph .D5=>1
 | .ph (.EB _) | .ph (.FY _) | .ph .GN | .ph .Gq | .ph .D6 | .ph .FL | .ph .EE=>1
 | .ph (.GH _) | .ph (.GQ _) | .ph (.Gj _) | .ph (.Fz _)=>1
 | .ph (.lk _ p)=>dl p
 | _=>0
def late:Nx->Prop
 | .ph (.Fo _) | .ph .GM | .ph .Fq | .ph (.lk _ _) | .ph (.B3 _)=>False
 | _=>True
def KE(t:Trace)(E:LH)(ρ:Nat):Prop:=∀b,E b≠none->∀x a,touchAt t x=some a->BK a.loc=some b->a.write=true->Before t x ρ
def ins:Nx->Prop
 | .ph (.lk _ .DF) | .ph (.lk _ .Em) | .ph (.lk _ .HK) | .ph (.lk _ .GO)=>True
 | _=>False
structure Dr (F:Fam) (N0 t0 N j:Nat) (φ:Nat->Nx) (S:Nat->St) (t:Trace):Prop where
 deaf:∀i,i<N->Deaf t i=D9 (φ i)
 above:∀i,N<=i->Deaf t i=0
 plain:∀x a b,touchAt t x=some a->BK a.loc=some b->(b=F.wg∨b=F.mu∨b=F.nx)->a.kind=.plain->∀i,i<N->(i=0∨N0<=i)->Knows t i x
 said:∀x a b,touchAt t x=some a->BK a.loc=some b->(b=F.wg∨b=F.mu∨b=F.nx)->a.kind=.said->Knows t 0 x
 DD:∀x a,touchAt t x=some a->BK a.loc=some F.fd->(∀i,i<N->(i=0∨N0<=i)->Knows t i x)∨∃k,k<j/\t.g? x=some (N0+k)/\t.counts x
 K0:∀x a,touchAt t x=some a->BK a.loc=some F.fd->(∀i,i<N->(i=0∨N0<=i)->Knows t i x)∨(∃p,t0<=p/\t.act? p=some (.mark (.releaseMerge F.uA))/\t.heard p/\Before t x p)∨∃i,i<N/\ins (φ i)/\Knows t i x
 JU:∀i,i<N->ins (φ i)->∀x a,touchAt t x=some a->BK a.loc=some F.fd->Knows t i x
 over:∀x g,t.g? x=some g->g≠0->t.counts x->(∃y,t.g? y=some 0/\HappensBefore t x y)∨(N0<=g/\g<N)
 norel:∀x,t0<=x->t.act? x≠some (.mark (.release F.sA))
 KF:∀x,t0<=x->t.act? x≠some (.mark (.release F.uA))
 JK:t0<=t.size
 rel:∀k,k<j->late (φ (N0+k))->∃ρ,t0<=ρ/\RelBy F.sA t (N0+k) ρ/\KE t (S (N0+k)).E ρ
variable{fn:FuncId}{pos:String}{es:Array Event}
section
variable {F:Fam}{N0 t0 N j:Nat}{φ:Nat->Nx}{S:Nat->St}{t u:Trace}
def EvS(F:Fam)(N0 j i:Nat)(y:Nx)(e:Event):Prop:=
 (∀a,(MemAct.ofEvent e).touch?=some a->∃b,BK a.loc=some b/\(((b=F.wg∨b=F.mu∨b=F.nx)/\a.kind≠ .plain/\(a.kind=.said->i=0))∨(b=F.fd/\ins y)))/\e.loc≠ .mark (.release F.sA)/\e.loc≠ .mark (.release F.uA)
theorem Dr.noRace(h:Dr F N0 t0 N j φ S t)(Y:∀said,¬Race said t)(hi:i<N)(Z:i=0∨N0<=i)
  (aa:∀e∈es,EvS F N0 j i (φ i) e):∀said,¬Race said (t++MemOp.ofEvents i fn pos es):=by
 intro said;refine noRace_append (g:=i) (Y said) (λop O=>by obtain⟨e,_,rfl⟩:=mem_ofEvents O;rfl) λx a U op O d hd ab=>?_;obtain⟨e,he,rfl⟩:=mem_ofEvents O;let⟨b,hb,K⟩:=(aa e he).1 d hd;obtain⟨ac,hm,aj,ae⟩:=ab;have V:BK a.loc=some b:=by rw[ac];exact hb
 rcases K with⟨K,ag,ah⟩ | ⟨rfl,ai⟩
 .rcases ae with q | q | ⟨_,q,q'⟩;exact h.plain x a b U V K q i hi Z;exact absurd q ag
  .have:=h.said x a b U V K q
   rwa[← ah q'] at this
 .exact h.JU i hi ai x a U V
theorem NK(h:∀x g,t.g? x=some g->g≠0->t.counts x->(∃y,t.g? y=some 0/\HappensBefore t x y)∨(N0<=g/\g<N))(hu:∀op∈u,op.g=0∨(N0<=op.g/\op.g<N)∨op.act.touch?=none):
  ∀x g,(t++u).g? x=some g->g≠0->(t++u).counts x->(∃y,(t++u).g? y=some 0/\HappensBefore (t++u) x y)∨(N0<=g/\g<N):=by
 intro x g O U V;rcases kC x t.size with q | q
 .rcases h x g (by rw[← g?_old (u:=u) q];exact O) U ((counts_old q).1 V) with⟨y,K,hb⟩ | hh
  .have ab:y<t.size:=by
    unfold Trace.g? at K;let⟨z,ac,_⟩:=lg.1 K;exact lt_size_of_getElem? ac
   exact .inl ⟨y,by rw[g?_old ab];exact K,hb_app u hb⟩
  .exact .inr hh
 .obtain⟨a,ae,_⟩:=V;let⟨op,Y,Z⟩:=touch_of ae;have aa:op.g=g:=by simpa [Trace.g?,Y] using O
  rcases getElem?_append_cases Y with⟨ah,_⟩ | ⟨_,ag⟩;omega;rcases hu op ag with z | z | z;exact absurd (aa▸z) U;exact .inr (aa▸z);rw[z] at Z;cases Z
theorem I2{A:Addr}(h:∀x,t0<=x->t.act? x≠some (.mark (.release A)))(hu:∀op∈u,op.act≠ .mark (.release A)):∀x,t0<=x->(t++u).act? x≠some (.mark (.release A)):=by
 intro x O e;let⟨op,U,K⟩:=lg.1 e;rcases getElem?_append_cases U with⟨_,V⟩ | ⟨_,Y⟩;exact h x O (by rw[act?_of V,K]);exact hu op Y K
theorem Q8{g:Nat}(hu:∀op∈u,op.g=g->op.act.touch?=none):∀x,t.size<=x->(t++u).g? x=some g->¬(t++u).counts x:=by
 intro x aa U V;obtain⟨a,Y,_⟩:=V;let⟨op,K,O⟩:=touch_of Y;rcases getElem?_append_cases K with⟨ab,_⟩ | ⟨_,Z⟩;omega;rw[hu op Z (by simpa [Trace.g?,K] using U)] at O;cases O
theorem KE.app{E:LH}{ρ:Nat}(h:KE t E ρ)(hu:∀op∈u,∀a b,op.act.touch?=some a->BK a.loc=some b->a.write=true->E b=none):KE (t++u) E ρ:=by
 intro b hb x a U K hw;obtain⟨op,V,O⟩:=touch_of U;rcases getElem?_append_cases V with⟨aa,Y⟩ | ⟨_,Z⟩;exact(h b hb x a (by rw[touchAt_of Y];exact O) K hw).app u;exact absurd (hu op Z a b O K hw) hb
theorem Dr.app(h:Dr F N0 t0 N j φ S t)(hi:i<N){x:Nx}{s':St}
  (hd:deafBehind (D9 (φ i)) es=D9 x)
  (ac:∀e∈es,(∀a b,(MemAct.ofEvent e).touch?=some a->BK a.loc=some b->(b=F.wg∨b=F.mu∨b=F.nx)->a.kind≠ .plain/\(a.kind=.said->i=0))/\
   (∀a,(MemAct.ofEvent e).touch?=some a->BK a.loc=some F.fd->(∃k,k<j/\i=N0+k)/\a.kind=.plain/\ins (φ i)/\ins x/\∀K,K<N->K≠i->¬ins (φ K))/\e.loc≠ .mark (.release F.sA)/\e.loc≠ .mark (.release F.uA))
  (aB:ins x->ins (φ i)∨∀y a,touchAt t y=some a->BK a.loc=some F.fd->Knows (t++MemOp.ofEvents i fn pos es) i y)
  (aC:ins (φ i)->ins x∨∃p,t0<=p/\(t++MemOp.ofEvents i fn pos es).act? p=some (.mark (.releaseMerge F.uA))/\(t++MemOp.ofEvents i fn pos es).heard p/\∀y,Knows t i y->Before (t++MemOp.ofEvents i fn pos es) y p)
  (aD:(i=0∨N0<=i)∨∀e∈es,(MemAct.ofEvent e).touch?=none)
  (aE:∀k,k<j->late (φ (N0+k))->∀e∈es,∀a b,(MemAct.ofEvent e).touch?=some a->BK a.loc=some b->a.write=true->(S (N0+k)).E b=none)
  (aq:∀k,k<j->i=N0+k->late x->(late (φ i)/\s'.E=(S i).E/\∀ρ,RelBy F.sA t i ρ->RelBy F.sA (t++MemOp.ofEvents i fn pos es) i ρ)∨∃ρ,t0<=ρ/\RelBy F.sA (t++MemOp.ofEvents i fn pos es) i ρ/\KE (t++MemOp.ofEvents i fn pos es) s'.E ρ):
  Dr F N0 t0 N j (upd φ i x) (upd S i s') (t++MemOp.ofEvents i fn pos es):=by
 generalize hu:MemOp.ofEvents i fn pos es=u at*;have ai:∀op∈u,op.g=i:=λop U=>by rw[← hu] at U;obtain⟨e,_,rfl⟩:=mem_ofEvents U;rfl
 have al:∀op∈u,∃e∈es,op.act=MemAct.ofEvent e:=λop U=>by rw[← hu] at U;obtain⟨e,he,rfl⟩:=mem_ofEvents U;exact⟨e,he,rfl⟩
 have hold:∀{y a},touchAt (t++u) y=some a->(touchAt t y=some a/\y<t.size)∨(Knows (t++u) i y/\(t++u).g? y=some i/\∃e∈es,(MemAct.ofEvent e).touch?=some a):=by
  intro y a aF;let⟨op,U,az⟩:=touch_of aF;rcases getElem?_append_cases U with⟨aq,aG⟩ | ⟨_,ar⟩;left;exact⟨by rw[touchAt_of aG];exact az,aq⟩;right;let⟨e,he,Z⟩:=al op ar;exact⟨by have:=knows_own U;rwa[ai op ar] at this,by simp[Trace.g?,U,ai op ar],e,he,by rw[← Z];exact az⟩
 have aH:∀a:Touch,BK a.loc=some F.fd->a.loc.isMemory=true:=by
  intro a am;generalize a.loc=l at am ⊢;cases l<;>first | rfl | (simp[BK] at am;done)
 have aA:∀k,k<j->late (φ (N0+k))->∀ρ,KE t (S (N0+k)).E ρ->KE (t++u) (S (N0+k)).E ρ:=λk O ae ρ aI=>aI.app λop aJ a b am hb hw=>by
  let⟨e,he,Z⟩:=al op aJ;rw[Z] at am;exact aE k O ae e he a b am hb hw
 refine⟨λK V=>?_,λK V=>?_,λy a b Y hb an O K V ab=>?_,λy a b Y hb an O=>?_,λy a Y hb=>?_,λy a Y hb=>?_,λK V aj y a Y hb=>?_,NK h.over λop U=>?_,I2 h.norel λop U e=>?_,I2 h.KF λop U e=>?_,by simp;have:=h.JK;omega,λk O ae=>?_⟩;by_cases e:K=i;subst e;rw[upd_same,← hu,Deaf_own,h.deaf K hi,hd];rw[upd_ne _ _ e,Deaf_other t (kU e) u ai];exact h.deaf K V;rw[Deaf_other t (by omega) u ai];exact h.above K V;rcases hold Y with⟨q,_⟩ | ⟨_,_,e,he,aa⟩;exact(h.plain y a b q hb an O K V ab).app _;exact absurd O ((ac e he).1 a b aa hb an).1;rcases hold Y with⟨q,_⟩ | ⟨ak,_,e,he,aa⟩;exact(h.said y a b q hb an O).app _;rw[← ((ac e he).1 a b aa hb an).2 O];exact ak;rcases hold Y with⟨q,ap⟩ | ⟨ak,ao,e,he,aa⟩;rcases h.DD y a q hb with z | ⟨k,O,ao,aK⟩;exact .inl λK V ab=>(z K V ab).app _;exact .inr ⟨k,O,by rw[g?_old ap];exact ao,(counts_old ap).2 aK⟩;let⟨⟨k,O,aL⟩,aM,_⟩:=(ac e he).2.1 a aa hb;exact .inr ⟨k,O,by rw[ao,aL],⟨a,Y,aH a hb,.inl (by rw[aM];simp)⟩⟩;rcases hold Y with⟨q,ap⟩ | ⟨ak,ao,e,he,aa⟩;rcases h.K0 y a q hb with z | ⟨p,h1,ag,ah,aN⟩ | ⟨K,h1,ag,ah⟩;exact .inl λK V ab=>(z K V ab).app _;have ab:=lt_of_act? ag;exact .inr (.inl ⟨p,h1,by rw[act?_old ab];exact ag,(heard_old ab).2 ah,aN.app _⟩);by_cases e:K=i;subst e;rcases aC ag with z | ⟨p,aO,g2,aP,aQ⟩;exact .inr (.inr ⟨_,h1,by rw[upd_same];exact z,ah.app _⟩);exact .inr (.inl ⟨p,aO,g2,aP,aQ y ah⟩);exact .inr (.inr ⟨K,h1,by rw[upd_ne _ _ e];exact ag,ah.app _⟩);let⟨_,_,_,au,_⟩:=(ac e he).2.1 a aa hb;exact .inr (.inr ⟨i,hi,by rw[upd_same];exact au,ak⟩);rcases hold Y with⟨q,ap⟩ | ⟨ak,ao,e,he,aa⟩;by_cases e:K=i;subst e;rw[upd_same] at aj;rcases aB aj with z | z;exact(h.JU _ V z y a q hb).app _;exact z y a q hb;rw[upd_ne _ _ e] at aj;exact(h.JU _ V aj y a q hb).app _;by_cases av:K=i;subst av;exact ak;rw[upd_ne _ _ av] at aj;let⟨_,_,_,_,au⟩:=(ac e he).2.1 a aa hb;exact absurd aj (au K V av);rw[ai op U];rcases aD with(q | q) | q;exact .inl q;exact .inr (.inl ⟨q,hi⟩);let⟨e,he,Z⟩:=al op U;rw[Z];exact .inr (.inr (q e he))
 .let⟨ev,aw,Z⟩:=al op U;rw[Z] at e;exact(ac ev aw).2.2.1 (by
   obtain⟨loc,wr,ay⟩:=ev
   cases loc with
   | mark m=>simp only[MemAct.ofEvent,MemAct.mark.injEq] at e;rw[e]
   | obj r=>cases wr<;>cases ay<;>simp[MemAct.ofEvent] at e
   | _=>simp[MemAct.ofEvent] at e)
 .let⟨ev,aw,Z⟩:=al op U;rw[Z] at e;exact(ac ev aw).2.2.2 (by
   obtain⟨loc,wr,ay⟩:=ev
   cases loc with
   | mark m=>simp only[MemAct.ofEvent,MemAct.mark.injEq] at e;rw[e]
   | obj r=>cases wr<;>cases ay<;>simp[MemAct.ofEvent] at e
   | _=>simp[MemAct.ofEvent] at e)
 .by_cases e:i=N0+k;subst e;rw[upd_same] at ae;rw[upd_same];rcases aq k O rfl ae with⟨h1,ag,ah⟩ | hh;let⟨ρ,a,b,c⟩:=h.rel k O h1;exact⟨ρ,a,ah ρ b,by rw[ag];exact aA k O h1 ρ c⟩;exact hh;rw[upd_ne _ _ (kU e)] at ae;rw[upd_ne _ _ (kU e)];let⟨ρ,a,b,c⟩:=h.rel k O ae;exact⟨ρ,a,b.appOther ai e,aA k O ae ρ c⟩
theorem Dr.CM(h:Dr F N0 t0 N j φ S t)(hu:∀op∈u,op.act.touch?=none/\∀m,op.act≠ .mark m):Dr F N0 t0 N j φ S (t++u):=by
 have ak:∀g,Deaf (t++u) g=Deaf t g:=by
  intro g;obtain⟨l⟩:=u;rw[Deaf_append];have key:∀(l:List MemOp) (d:Nat),(∀op∈l,∀m,op.act≠ .mark m)->l.foldl (deafStep g) d=d:=by
   intro l
   induction l with
   | nil=>intro d _;rfl
   | cons z l am=>
    intro d Z;have an:=Z z (by simp);have e2:deafStep g d z=d:=by
     unfold deafStep;split<;>first | (rename_i e;exact absurd e (an _)) | rfl
    rw[mg,e2];exact am d λop K=>Z op (by simp[K])
  exact key l _ λop K=>(hu op (by simpa using K)).2
 have hold:∀{y a},touchAt (t++u) y=some a->touchAt t y=some a/\y<t.size:=by
  intro y a ab;let⟨op,K,ac⟩:=touch_of ab;rcases getElem?_append_cases K with⟨ao,ap⟩ | ⟨_,aq⟩;exact⟨by rw[touchAt_of ap];exact ac,ao⟩;rw[(hu op aq).1] at ac;cases ac
 have ar:∀g x,t.size<=x->(t++u).g? x=some g->¬(t++u).counts x:=λg=>Q8 λop K _=>(hu op K).1;refine⟨λi hi=>by rw[ak];exact h.deaf i hi,λi hi=>by rw[ak];exact h.above i hi,λy a b O hb ae V i hi U=>(h.plain y a b (hold O).1 hb ae V i hi U).app _,λy a b O hb ae V=>(h.said y a b (hold O).1 hb ae V).app _,λy a O hb=>?_,λy a O hb=>?_,λi hi au y a O hb=>(h.JU i hi au y a (hold O).1 hb).app _,
  NK h.over λop K=>.inr (.inr (hu op K).1),I2 h.norel λop K=>(hu op K).2 _,I2 h.KF λop K=>(hu op K).2 _,by simp;have:=h.JK;omega,λk V Z=>let ⟨ρ,a,b,c⟩:=h.rel k V Z;⟨ρ,a,b.app λx ab ag=>ar _ x ab ag,c.app λop K a b al=>by rw[(hu op K).1] at al;cases al⟩⟩
 let⟨q,ah⟩:=hold O;rcases h.DD y a q hb with z | ⟨k,V,ag,av⟩;exact .inl λY ai U=>(z Y ai U).app _;exact .inr ⟨k,V,by rw[g?_old ah];exact ag,(counts_old ah).2 av⟩;let⟨q,ah⟩:=hold O;rcases h.K0 y a q hb with z | ⟨p,h1,aa,aj,aw⟩ | ⟨Y,h1,aa,aj⟩;exact .inl λY ai U=>(z Y ai U).app _;have U:=lt_of_act? aa;exact .inr (.inl ⟨p,h1,by rw[act?_old U];exact aa,(heard_old U).2 aj,aw.app _⟩);exact .inr (.inr ⟨Y,h1,aa,aj.app _⟩)
theorem Dr.spawn(h:Dr F N0 t0 N j φ S t){φ':Nat->Nx}{S':Nat->St}(Y:0<N)(aE:N=N0+j)(hd:∀i,i<N->D9 (φ' i)=D9 (φ i))(aq:D9 (φ' N)=0)(h0:D9 (φ 0)=0)
  (ar:∀k,k<j+1->late (φ' (N0+k))->k<j/\late (φ (N0+k))/\(S' (N0+k)).E=(S (N0+k)).E)
  (ag:∀i,i<N->(ins (φ i)↔ins (φ' i))) (au:¬ins (φ' N))
  {x y:MemOp}(Z:x.g=0/\x.act=.go N) (ah:y.g=N/\y.act=.start):Dr F N0 t0 (N+1) (j+1) φ' S' (t++ #[x,y]):=by
 have hu:∀op∈(#[x,y]:Array MemOp),op.act.touch?=none/\∀m,op.act≠ .mark m:=by
  intro op ai;simp only[lm,f7,kB,k5] at ai;rcases ai with rfl | rfl;rw[Z.2];exact⟨rfl,by simp⟩;rw[ah.2];exact⟨rfl,by simp⟩
 have h1:=h.CM hu;have aa:∀z,Knows t 0 z->Knows (t++ #[x,y]) N z:=λz K=>fork_knows Z ah (by rw[h.deaf 0 Y];exact h0) (h.above N (kG _)) K;have hold:∀{z a},touchAt (t++ #[x,y]) z=some a->touchAt t z=some a:=by
  intro z a K;let⟨op,ab,U⟩:=touch_of K;rcases getElem?_append_cases ab with⟨aj,av⟩ | ⟨_,ac⟩;rw[touchAt_of av];exact U;rw[(hu op ac).1] at U;cases U
 refine⟨λi hi=>?_,λi hi=>h1.above i (by omega),λz a b K hb ak V i hi O=>?_,h1.said,λz a K hb=>?_,λz a K hb=>?_,λi hi al z a K hb=>?_,λz g ae aw ay=>?_,h1.norel,h1.KF,h1.JK,λk V Z=>?_⟩
 .rcases kC i N with q | q;rw[hd i q];exact h1.deaf i q
  .obtain rfl:i=N:=by omega
   rw[aq];exact h1.above i (kG _)
 .rcases kC i N with q | q;exact h1.plain z a b K hb ak V i q O
  .obtain rfl:i=N:=by omega
   exact aa z (h.plain z a b (hold K) hb ak V 0 Y (.inl rfl))
 .have am:z<t.size:=by
   let⟨op,ab,U⟩:=touch_of K;rcases getElem?_append_cases ab with⟨aj,_⟩ | ⟨_,ac⟩;exact aj;rw[(hu op ac).1] at U;cases U
  rcases h.DD z a (hold K) hb with an | ⟨k,V,ae,az⟩
  .refine .inl λi hi O=>?_;rcases kC i N with q | q;exact(an i q O).app _
   .obtain rfl:i=N:=by omega
    exact aa z (an 0 Y (.inl rfl))
  .exact .inr ⟨k,by omega,by rw[g?_old am];exact ae,(counts_old am).2 az⟩
 .rcases h.K0 z a (hold K) hb with ao | ⟨p,k1,ap,aA,aB⟩ | ⟨i,aC,g2,aD⟩
  .refine .inl λi hi O=>?_;rcases kC i N with q | q;exact(ao i q O).app _
   .obtain rfl:i=N:=by omega
    exact aa z (ao 0 Y (.inl rfl))
  have O:=lt_of_act? ap;exact .inr (.inl ⟨p,k1,by rw[act?_old O];exact ap,(heard_old O).2 aA,aB.app _⟩);exact .inr (.inr ⟨i,by omega,(ag i aC).1 g2,aD.app _⟩)
 .rcases kC i N with q | q;exact h1.JU i q ((ag i q).2 al) z a K hb
  .obtain rfl:i=N:=by omega
   exact absurd al au
 rcases h1.over z g ae aw ay with q | q;exact .inl q;exact .inr ⟨q.1,by omega⟩;let⟨a,b,c⟩:=ar k V Z;rw[c];exact h1.rel k a b
end
end Pal
namespace Pal
open Go Go.Conc
open Go.ConcN (upd upd_same upd_ne sumTo sumTo_upd sumTo_upd_out sumTo_congr le_sumTo sumTo_le)
def pH:LP->Nat
 | .len | .IN | .Hb | .DF | .Em | .HK | .GO | .Ih | .FW=>1
 | _=>0
def pN:LP->Nat
 | .Dx false=>1
 | _=>0
def pZ:LP->Nat
 | .Dx true=>1
 | _=>0
def pV:LP->Nat
 | .Ei | .CS _=>1
 | _=>0
def pT:LP->Nat
 | .CO _ true _ | .BC _ true _ _=>1
 | _=>0
def pQ:LP->Nat
 | .GF _ | .BL _=>1
 | _=>0
def pD:LP->Nat
 | .CN _=>1
 | _=>0
def pX:LP->Nat
 | .CY _ | .Ft=>1
 | _=>0
def oC(f:LP->Nat):Option LP->Nat
 | some p=>f p
 | none=>0
def LN(m:M4)(q h rn rs v t s d x:Nat):Prop:=
 h=m.l.toNat/\
 (m.s=false->rs=0/\d=0/\m.k.toNat=rn+q+v+t/\s=m.w+rn+q/\(m.l=false->m.k=false->1<=m.w->1<=x))/\
 (m.s=true->m.k=false/\rn=0/\t=0/\m.l.toNat+rs+q+v+d=1/\m.w=s+v+d/\1<=m.w)
def Jw:LP->M4->Prop
 | .BC sv aw it old,_=>(aw=true->old.k=true)/\(sv=true->aw=true)/\it<=4/\Ck old
 | .CO sv aw it,_=>(sv=true->aw=true)/\it<=4
 | .CN ex,m=>ex=false->2<=m.w
 | .CY old,_=>old.l=false/\old.k=false/\old.s=false/\old.w≠0/\Ck old
 | _,_=>True
section
variable {F:Fam}{p:LP}{m m':M4}{q q' h rn rs v t s d x:Nat}{es:Array Event}{o:Option LP}
theorem WE(ac:LN m q (pH p+h) (pN p+rn) (pZ p+rs) (pV p+v) (pT p+t) (pQ p+s) (pD p+d) (pX p+x))(K:Jw p m)(V:Ck m)(ae:∀sv,p=.BL sv->q≠0):Cv p m q:=by
 obtain⟨l,k,st,w⟩:=m;obtain⟨h1,O,U⟩:=ac;cases p<;>simp only[Cv,Jw] at K ⊢<;>(try exact V)
 .exact⟨K.1,K.2,V,λe=>by
   subst e
   simp only[pH,pN,pZ,pV,pT,pQ,pD,pX] at h1 O U
   cases st
   .have:=(O rfl).2.2.1
    cases k;simp at this;omega;rfl
   .have:=(U rfl).2.2.1;omega⟩
 .exact⟨K.1,K.2.1,K.2.2.1,K.2.2.2,V,λe=>by
   subst e
   simp only[pH,pN,pZ,pV,pT,pQ,pD,pX] at h1 O U
   cases st
   .have:=(O rfl).2.2.1
    cases k;simp at this;omega;rfl
   .have:=(U rfl).2.2.1;omega⟩
 exact ae _ rfl;simp only[pH,pN,pZ,pV,pT,pQ,pD,pX] at h1 O U;refine⟨λe=>?_,λe=>?_,V⟩;subst e;let⟨a1,aa,Z,Y,ag,ab⟩:=U rfl;cases l;exact⟨rfl,a1,by omega⟩;simp at Y;omega;subst e;let⟨a1,aa,Z,Y⟩:=O rfl;cases k;simp at Z;omega;rfl;simp only[pH,pN,pZ,pV,pT,pQ,pD,pX] at h1 O U;cases st;have:=(O rfl).2.1;omega;let⟨a1,aa,Z,Y,ag,ab⟩:=U rfl;cases l;exact⟨rfl,rfl,a1,ab,K,V⟩;simp at Y;omega;simp only[pH,pN,pZ,pV,pT,pQ,pD,pX] at h1;cases l;simp at h1;exact⟨rfl,V⟩;exact⟨K.1,K.2.1,K.2.2.1,K.2.2.2.1,K.2.2.2.2,V⟩;refine⟨?_,V⟩;have ah:k.toNat<=1:=ma k;cases st;have:=(O rfl).2.2.1;simp only at this;omega;have:=(U rfl).2.2.2.1;simp only at this;omega
set_option maxHeartbeats 1000000 in
theorem LN.step(K:(m',q',es,o)∈F.Bn p m q)(U:Cv p m q)(O:LN m q (pH p+h) (pN p+rn) (pZ p+rs) (pV p+v) (pT p+t) (pQ p+s) (pD p+d) (pX p+x)):
  LN m' q' (oC pH o+h) (oC pN o+rn) (oC pZ o+rs) (oC pV o+v) (oC pT o+t) (oC pQ o+s) (oC pD o+d) (oC pX o+x):=by
 obtain⟨l,k,st,w⟩:=m;cases p<;>simp only[Fam.Bn,d6,d9,kB] at K
 case Ff=>obtain⟨rfl,rfl,-,rfl⟩:=K;exact O
 case Fp=>
  split at K;rename_i e;simp only[M4.zero,M4.mk.injEq] at e;obtain⟨rfl,rfl,rfl,rfl⟩:=e;simp only[d6,d9] at K;obtain⟨rfl,rfl,-,rfl⟩:=K;simp[LN,pH,pN,pZ,pV,pT,pQ,pD,pX,oC] at O ⊢;omega;simp only[d6,d9] at K;obtain⟨rfl,rfl,-,rfl⟩:=K;exact O
 case CO sv aw it=>obtain⟨rfl,rfl,-,rfl⟩:=K;cases aw<;>exact O
 case BC sv aw it old=>
  simp only[Fam.DO,kM] at K;simp only[Cv] at U;obtain⟨k1,V,Y,Z,ac,-⟩:=U;rcases K with K | K;split at K;rename_i c;split at K;rename_i c2;simp only[d6] at K;obtain⟨rfl,c3,c4⟩:=c2;split at K;rename_i e;subst e;simp only[d9] at K;obtain⟨rfl,rfl,-,rfl⟩:=K;simp only at c c3 c4;obtain⟨rfl,rfl,-⟩:=c;subst c3;simp[LN,pH,pN,pZ,pV,pT,pQ,pD,pX,oC] at O ⊢;omega;simp only[d9] at K;obtain⟨rfl,rfl,-,rfl⟩:=K;exact O;simp only[d6,d9] at K;obtain⟨rfl,rfl,-,rfl⟩:=K;cases aw<;>exact O;simp at K
  .split at K
   .rename_i e;subst e;split at K;rename_i c;simp only[d6,d9] at K;obtain⟨rfl,rfl,-,rfl⟩:=K;simp only at c;obtain⟨rfl,rfl⟩:=c;cases aw<;>cases k<;>simp[LN,pH,pN,pZ,pV,pT,pQ,pD,pX,oC] at O k1 ⊢<;>omega
    .rename_i c;have key:∀o',(o'=some (LP.GF sv)∨o'=some (LP.BL sv))->LN ⟨l,!aw&&k,st || (sv&&l),w+1⟩ q (oC pH o'+h) (oC pN o'+rn) (oC pZ o'+rs) (oC pV o'+v) (oC pT o'+t) (oC pQ o'+s) (oC pD o'+d) (oC pX o'+x):=by
      intro o' ae;have aa:oC pH o'=0/\oC pN o'=0/\oC pZ o'=0/\oC pV o'=0/\oC pT o'=0/\oC pQ o'=1/\oC pD o'=0/\oC pX o'=0:=by
       rcases ae with rfl | rfl<;>exact⟨rfl,rfl,rfl,rfl,rfl,rfl,rfl,rfl⟩
      obtain⟨aa,e2,ag,ah,ai,aj,ak,al⟩:=aa;rw[aa,e2,ag,ah,ai,aj,ak,al];cases l<;>cases st<;>cases k<;>cases aw<;>cases sv<;>simp[LN,pH,pN,pZ,pV,pT,pQ,pD,pX] at O k1 V c ⊢<;>omega
     simp only[f7,kB,k5,d9] at K;rcases K with⟨rfl,rfl,-,rfl⟩ | ⟨rfl,rfl,-,rfl⟩;exact key _ (.inl rfl);exact key _ (.inr rfl)
   .simp only [d6,d9] at K;obtain⟨rfl,rfl,-,rfl⟩:=K;cases aw<;>exact O
 case GF sv=>obtain⟨rfl,rfl,-,rfl⟩:=K;exact O
 case BL sv=>
  obtain⟨rfl,rfl,-,rfl⟩:=K;simp only[Cv] at U;cases st<;>cases k<;>cases l<;>cases sv<;>simp[LN,pH,pN,pZ,pV,pT,pQ,pD,pX,oC] at O ⊢<;>omega
 case Ei=>
  simp only[f7,kB,k5,d9] at K;rcases K with⟨rfl,rfl,-,rfl⟩ | ⟨rfl,rfl,-,rfl⟩<;>exact O
 case CS sv=>
  simp only[Cv] at U;split at K;rename_i c;simp only[d6,d9] at K;obtain⟨rfl,rfl,-,rfl⟩:=K;have c:st=true:=c;subst c;cases k<;>cases l<;>simp[LN,pH,pN,pZ,pV,pT,pQ,pD,pX,oC] at O ⊢<;>omega;rename_i c;simp only[d6,d9] at K;obtain⟨rfl,rfl,-,rfl⟩:=K;cases st;cases k<;>cases l<;>simp[LN,pH,pN,pZ,pV,pT,pQ,pD,pX,oC] at O ⊢<;>omega;exact absurd rfl c
 case CN ex=>
  obtain⟨rfl,rfl,-,rfl⟩:=K;simp only[Cv] at U;obtain⟨rfl,rfl,rfl,Z,ac,-⟩:=U;cases ex<;>simp[LN,pH,pN,pZ,pV,pT,pQ,pD,pX,oC] at O ac ⊢<;>omega
 case len=>obtain⟨rfl,rfl,-,rfl⟩:=K;exact O
 case IN=>obtain⟨rfl,rfl,-,rfl⟩:=K;exact O
 case Hb=>obtain⟨rfl,rfl,-,rfl⟩:=K;exact O
 case Em=>obtain⟨rfl,rfl,-,rfl⟩:=K;exact O
 case HK=>obtain⟨rfl,rfl,-,rfl⟩:=K;exact O
 case GO=>obtain⟨rfl,rfl,-,rfl⟩:=K;exact O
 case Ih=>obtain⟨rfl,rfl,-,rfl⟩:=K;exact O
 case FW=>
  obtain⟨rfl,rfl,-,rfl⟩:=K;simp only[Cv] at U;obtain⟨rfl,-⟩:=U;rcases k4 w with rfl | hw;cases st<;>cases k<;>simp[LN,pH,pN,pZ,pV,pT,pQ,pD,pX,oC] at O ⊢<;>omega
  .have ab:¬w=0:=by omega
   cases st<;>cases k<;>simp[LN,pH,pN,pZ,pV,pT,pQ,pD,pX,oC,ab] at O ⊢<;>omega
 case CY old=>
  simp only[Cv] at U;obtain⟨k1,V,Y,Z,-⟩:=U;split at K;rename_i e;subst e;simp only at k1 V Y Z;subst k1 V Y;simp only[d6,d9] at K;obtain⟨rfl,rfl,-,rfl⟩:=K;simp[LN,pH,pN,pZ,pV,pT,pQ,pD,pX,oC] at O ⊢;omega;simp only[d6,d9] at K;obtain⟨rfl,rfl,-,rfl⟩:=K;exact O
 case Ft=>
  obtain⟨rfl,rfl,-,rfl⟩:=K;rcases k4 w with rfl | hw;cases st<;>cases k<;>cases l<;>simp[LN,pH,pN,pZ,pV,pT,pQ,pD,pX,oC] at O ⊢<;>omega
  .have ab:¬w=0:=by omega
   cases st<;>cases k<;>cases l<;>simp[LN,pH,pN,pZ,pV,pT,pQ,pD,pX,oC,ab] at O ⊢<;>omega
 case Dx b=>
  obtain⟨rfl,rfl,-,rfl⟩:=K;cases b<;>cases st<;>cases k<;>cases l<;>simp[LN,pH,pN,pZ,pV,pT,pQ,pD,pX,oC] at O ⊢<;>omega
 case DC=>obtain⟨rfl,rfl,-,rfl⟩:=K;exact O
theorem LN.awake(O:LN m q (pH p+h) (pN p+rn) (pZ p+rs) (pV p+v) (pT p+t) (pQ p+s) (pD p+d) (pX p+x))(aa:pT p=1):m.k=true:=by
 obtain⟨l,k,st,w⟩:=m;obtain⟨h1,U,V⟩:=O;cases st;let⟨a1,Y,K,Z⟩:=U rfl;cases k;simp at K;omega;rfl;let⟨a1,Y,K,Z⟩:=V rfl;omega
theorem LN.Xj(K:(m',q',es,o)∈F.Bn p m q)(O:Cv p m q)(Y:Jw p m)(U:Ck m)(ab:LN m q (pH p+h) (pN p+rn) (pZ p+rs) (pV p+v) (pT p+t) (pQ p+s) (pD p+d) (pX p+x)):∀Z,o=some Z->Jw Z m':=by
 have aa:=λac=>ab.awake ac;cases p<;>simp only[Fam.Bn,d6,d9,kB] at K
 case Fp=>
  split at K<;>simp only[d6,d9] at K<;>obtain⟨rfl,rfl,-,rfl⟩:=K<;>rintro _ ⟨⟩<;>simp[Jw]
 case CO sv aw it=>
  obtain⟨rfl,rfl,-,rfl⟩:=K;rintro _ ⟨⟩;exact⟨λe=>by subst e;exact aa rfl,Y.1,Y.2,U⟩
 case BC sv aw it old=>
  simp only[Fam.DO,kM] at K;simp only[Cv] at O;obtain⟨k1,V,ae,ag,ah,-⟩:=O;rcases K with K | K;split at K;rename_i c;split at K;simp only[d6] at K;split at K<;>simp only[d9] at K<;>obtain⟨rfl,rfl,-,rfl⟩:=K<;>rintro _ ⟨⟩;exact⟨λ_=>rfl,by omega⟩;exact⟨V,by omega⟩;simp only[d6,d9] at K;obtain⟨rfl,rfl,-,rfl⟩:=K;rintro _ ⟨⟩;exact⟨λe=>by subst e;exact aa rfl,V,by omega,U⟩;simp at K;split at K;split at K;simp only[d6,d9] at K;obtain⟨rfl,rfl,-,rfl⟩:=K;rintro _ ⟨⟩;trivial;simp only[f7,kB,k5,d9] at K;rcases K with⟨rfl,rfl,-,rfl⟩ | ⟨rfl,rfl,-,rfl⟩<;>rintro _ ⟨⟩<;>trivial;simp only[d6,d9] at K;obtain⟨rfl,rfl,-,rfl⟩:=K;rintro _ ⟨⟩;exact⟨V,ae⟩
 case BL sv=>
  obtain⟨rfl,rfl,-,rfl⟩:=K;rintro _ h;cases sv<;>cases h<;>trivial
 case Ei=>
  simp only[f7,kB,k5,d9] at K;rcases K with⟨rfl,rfl,-,rfl⟩ | ⟨rfl,rfl,-,rfl⟩<;>rintro _ ⟨⟩<;>trivial
 case CS sv=>
  simp only[Cv] at O;split at K;rename_i c;simp only[d6,d9] at K;obtain⟨rfl,rfl,-,rfl⟩:=K;rintro _ ⟨⟩;intro e;have:=(O.1 c).2.2;simp at e;omega;rename_i c;simp only[d6,d9] at K;obtain⟨rfl,rfl,-,rfl⟩:=K;rintro _ ⟨⟩;exact⟨λ_=>O.2.1 (by simpa using c),λ_=>rfl,by omega,U⟩
 case FW=>
  obtain⟨rfl,rfl,-,rfl⟩:=K;rintro _ h;split at h;cases h;trivial;rename_i c;split at h;rename_i c2;cases h;exact⟨rfl,c2.1,by simpa using c,c2.2,U⟩;cases h;trivial
 case CY old=>
  split at K<;>simp only[d6,d9] at K<;>obtain⟨rfl,rfl,-,rfl⟩:=K<;>rintro _ ⟨⟩<;>trivial
 case Ft=>
  obtain⟨rfl,rfl,-,rfl⟩:=K;rintro _ h;split at h;rename_i c;cases h;exact⟨c.1,c.2.1,c.2.2.1,c.2.2.2,U⟩;cases h;trivial
 all_goals
  obtain⟨rfl,rfl,-,rfl⟩:=K;rintro _ ⟨⟩
 all_goals trivial
theorem LN.keepW(K:(m',q',es,o)∈F.Bn p m q)(O:Cv p m q)(U:LN m q (pH p+h) (pN p+rn) (pZ p+rs) (pV p+v) (pT p+t) (pQ p+s) (pD p+d) (pX p+x))(hd:1<=d):m.w<=m'.w:=by
 obtain⟨l,k,st,w⟩:=m;obtain⟨h1,V,Y⟩:=U;have Z:st=true:=by
  cases st;have:=(V rfl).2.1;omega;rfl
 subst Z;let⟨a1,ab,ac,aa,ae,ag⟩:=Y rfl;cases p<;>simp only[Fam.Bn,d6,d9,kB] at K
 case Fp=>split at K<;>simp only[d6,d9] at K<;>obtain⟨rfl,rfl,-,rfl⟩:=K<;>simp_all [M4.zero]
 case BC sv aw it old=>
  simp only[Fam.DO,kM] at K;rcases K with K | K;split at K;split at K;simp only[d6] at K;split at K<;>simp only[d9] at K<;>obtain⟨rfl,rfl,-,rfl⟩:=K<;>exact kG _;simp only[d6,d9] at K;obtain⟨rfl,rfl,-,rfl⟩:=K;exact kG _;simp at K;split at K;split at K;simp only[d6,d9] at K;obtain⟨rfl,rfl,-,rfl⟩:=K;exact kG _;simp only[f7,kB,k5,d9] at K;rcases K with⟨rfl,rfl,-,rfl⟩ | ⟨rfl,rfl,-,rfl⟩<;>simp;simp only[d6,d9] at K;obtain⟨rfl,rfl,-,rfl⟩:=K;exact kG _
 case Ei=>
  simp only[f7,kB,k5,d9] at K;rcases K with⟨rfl,rfl,-,rfl⟩ | ⟨rfl,rfl,-,rfl⟩<;>exact kG _
 case CS sv=>split at K<;>simp only[d6,d9] at K<;>obtain⟨rfl,rfl,-,rfl⟩:=K<;>exact kG _
 case CN ex=>simp only[pD] at aa;omega
 case CY old=>
  simp only[Cv] at O;split at K;rename_i e;subst e;exact absurd O.2.2.1 (by simp);simp only[d6,d9] at K;obtain⟨rfl,rfl,-,rfl⟩:=K;exact kG _
 all_goals
  obtain⟨rfl,rfl,-,rfl⟩:=K;exact kG _
end
def BT(f:LP->Nat):Nx->Nat
 | .ph (.lk _ p)=>f p
 | _=>0
def KW:Nx->M4->Prop
 | .ph (.lk _ p),m=>Jw p m
 | _,_=>True
def Sg(f:LP->Nat)(N:Nat)(φ:Nat->Nx):Nat:=sumTo N λi=>BT f (φ i)
structure LI (N:Nat) (φ:Nat->Nx) (m:M4) (q:Nat):Prop where
 ln:LN m q (Sg pH N φ) (Sg pN N φ) (Sg pZ N φ) (Sg pV N φ) (Sg pT N φ) (Sg pQ N φ) (Sg pD N φ) (Sg pX N φ)
 loc:∀i,i<N->KW (φ i) m
section
variable {F:Fam}{N i k:Nat}{φ:Nat->Nx}{p:LP}{m m':M4}{q q':Nat}{es:Array Event}{o:Option LP}{y:Nx}
theorem N2(f:LP->Nat)(hi:i<N):Sg f N (upd φ i y)+BT f (φ i)=Sg f N φ+BT f y:=sumTo_upd φ y (BT f) hi
theorem Ee(f:LP->Nat)(hi:i<N)(K:φ i=.ph (.lk k p)):∃r,Sg f N φ=f p+r/\∀o,Sg f N (upd φ i (.ph (Fam.Cc k o)))=oC f o+r:=by
 have h1:BT f (φ i)<=Sg f N φ:=le_sumTo (f:=λi=>BT f (φ i)) hi;have e:BT f (φ i)=f p:=by rw[K];rfl
 refine⟨Sg f N φ - f p,by omega,λo=>?_⟩;have O:=N2 (φ:=φ) (y:=.ph (Fam.Cc k o)) f hi;have U:BT f (.ph (Fam.Cc k o))=oC f o:=by cases o<;>rfl
 omega
theorem Ma(f:LP->Nat)(hi:i<N)(h1:BT f (φ i)=BT f y):Sg f N (upd φ i y)=Sg f N φ:=by
 have:=N2 (φ:=φ) (y:=y) f hi;omega
theorem LI.other(h:LI N φ m q)(hi:i<N)(h1:∀k p,φ i≠ .ph (.lk k p))(K:∀k p,y≠ .ph (.lk k p)):LI N (upd φ i y) m q:=by
 have z:∀(f:LP->Nat) x,(∀k p,x≠Nx.ph (.lk k p))->BT f x=0:=by
  intro f x U;cases x with
  | gone d=>rfl
  | ph p=>cases p<;>first | rfl | exact absurd rfl (U _ _)
 have e:∀f,Sg f N (upd φ i y)=Sg f N φ:=λf=>Ma f hi (by rw[z f _ h1,z f _ K]);refine⟨by simp only[e];exact h.ln,λa V=>?_⟩;by_cases O:a=i
 .subst O;rw[upd_same];cases y with
  | gone d=>trivial
  | ph p=>cases p<;>first | trivial | exact absurd rfl (K _ _)
 .rw [upd_ne _ _ O];exact h.loc a V
theorem LI.ok(h:LI N φ m q)(hi:i<N)(K:φ i=.ph (.lk k p))(V:Ck m)(Y:∀sv,p=.BL sv->q≠0):Cv p m q:=by
 obtain⟨a,Z,-⟩:=Ee pH hi K;obtain⟨b,aa,-⟩:=Ee pN hi K;obtain⟨c,ab,-⟩:=Ee pZ hi K;obtain⟨d,ac,-⟩:=Ee pV hi K;obtain⟨e,ae,-⟩:=Ee pT hi K;obtain⟨f,ag,-⟩:=Ee pQ hi K;obtain⟨g,ah,-⟩:=Ee pD hi K;obtain⟨j,ai,-⟩:=Ee pX hi K;have O:=h.ln;rw[Z,aa,ab,ac,ae,ag,ah,ai] at O;have U:=h.loc i hi;rw[K] at U;exact WE O U V Y
theorem LI.step(h:LI N φ m q)(hi:i<N)(K:φ i=.ph (.lk k p))(ag:Ck m)(U:Cv p m q)(V:(m',q',es,o)∈F.Bn p m q):LI N (upd φ i (.ph (Fam.Cc k o))) m' q':=by
 let⟨a,ah,ai⟩:=Ee pH hi K;let⟨b,aj,ak⟩:=Ee pN hi K;let⟨c,al,am⟩:=Ee pZ hi K;let⟨d,an,ao⟩:=Ee pV hi K;let⟨e,ap,aq⟩:=Ee pT hi K;let⟨f,ar,au⟩:=Ee pQ hi K;let⟨g,av,aw⟩:=Ee pD hi K;let⟨j,ay,az⟩:=Ee pX hi K;have O:=h.ln;rw[ah,aj,al,an,ap,ar,av,ay] at O;have aa:=h.loc i hi;rw[K] at aa;refine⟨by rw[ai,ak,am,ao,aq,au,aw,az];exact O.step V U,λy ab=>?_⟩;by_cases Y:y=i
 .subst Y;rw[upd_same];cases o with
  | none=>trivial
  | some aA=>exact O.Xj V U aa ag aA rfl
 .rw [upd_ne _ _ Y];have Z:=h.loc y ab;cases ac:φ y with
  | gone d=>trivial
  | ph p0=>
   cases p0 with
   | lk aB p0=>
    rw[ac] at Z;cases p0<;>try exact Z
    rename_i ex;intro aC;have hd:1<=g:=by
     have h1:=N2 (N:=N) (φ:=φ) (i:=i) (y:=.gone 0) pD hi;have ae:BT pD (upd φ i (.gone 0) y)<=Sg pD N (upd φ i (.gone 0)):=le_sumTo (f:=λa=>BT pD (upd φ i (.gone 0) a)) ab;rw[upd_ne _ _ Y,ac] at ae;have aD:BT pD (φ i)=pD p:=by rw[K];rfl
     have e2:BT pD (.gone 0)=0:=rfl;have aE:BT pD (.ph (.lk aB (.CN ex)))=1:=rfl;omega
    have:=O.keepW V U hd;have ae:2<=m.w:=Z aC;omega
   | _=>trivial
end
def F2:LP->Nat
 | .len=>22 | .IN=>21 | .Hb=>20 | .DF=>19 | .Em=>18 | .HK=>17 | .GO=>16 | .Ih=>15 | .FW=>14
 | .CY _=>13 | .Ft=>13 | .Dx _=>12 | .DC=>11
 | _=>23
def kw:LP->Nat
 | .Ff | .Fp=>2
 | .CO _ aw _=>if aw then 1 else 2
 | .BC _ aw _ _=>if aw then 1 else 2
 | .Ei | .CS _ | .CN _=>1
 | _=>0
def lc(m:M4):LP->Nat
 | .Ff=>27 | .Fp=>26 | .CO _ _ it=>2*(5 - it)+1
 | .BC _ _ it old=>2*(5 - it)+if m=old then 0 else 2
 | .GF _=>24 | .BL _=>23 | .Ei=>22 | .CS _=>21
 | .CY old=>if m=old then 1 else 3
 | .Ft=>2
 | _=>0
def wO:Option LP->Nat
 | some p=>F2 p
 | none=>10
def wt(n:Nat):Nx->Nat
 | .gone _=>0
 | .ph p=>match p with
  | .Fo _=>10 | .GM=>9 | .Fq=>8 | .HD=>7 | .Gk=>6 | .FQ=>5 | .Gd=>4 | .D5=>3
  | .Co=>3*n+25 | .EB m=>3*m+20 | .FY m=>3*m+19 | .GN=>14 | .Gq=>13 | .D6=>12 | .FL=>11 | .EE=>10 | .GI=>9 | .EN=>8 | .Ge=>7
  | .El j=>5*n+90+50*(n - j) | .GH j=>5*n+89+50*(n - j) | .GQ j=>5*n+88+50*(n - j) | .Gj j=>5*n+87+50*(n - j) | .Fz j=>5*n+86+50*(n - j) | .En j=>5*n+85+50*(n - j)
  | .Fs=>5*n+60 | .Eh _ _=>2
  | .lk _ p=>F2 p
  | .B3 _=>10
variable{nx:Nx}
theorem Wr{F:Fam}{p:Ph}{v w sm v' w' sm':Nat}{es:Array Event}(h:F.act p v w sm=some ((v',w',sm'),es,nx)):wt F.n nx<wt F.n (.ph p):=by
  cases p<;>simp only[Fam.act] at h<;>(try (cases h;done))
  case Gk=>
    split at h;cases h;split<;>simp[wt];cases h
  case EB=>
    split at h;cases h;split<;>simp[wt]<;>omega;cases h
  case FY=>
    split at h;split at h<;>cases h<;>simp[wt]<;>omega;cases h
  case GH=>
    split at h;cases h;split<;>simp[wt];cases h
  all_goals first
    | (cases h;simp[wt];done)
    | (split at h
       .cases h;simp[wt]
       .cases h)
section
variable {F:Fam}{p:LP}{m m':M4}{q q':Nat}{es:Array Event}{o:Option LP}
theorem UO(K:(m',q',es,o)∈F.Bn p m q)(O:Cv p m q):wO o<F2 p∨(wO o=F2 p/\(oC kw o+q'<kw p+q∨(oC kw o+q'=kw p+q/\m'=m/\oC (lc m) o<lc m p))):=by
 cases p<;>simp only[Fam.Bn,d6,d9,kB] at K
 case Fp=>
  split at K<;>simp only[d6,d9] at K<;>obtain⟨rfl,rfl,-,rfl⟩:=K;exact .inl (by simp[wO,F2]);exact .inr ⟨rfl,.inr ⟨rfl,rfl,by simp[oC,lc]⟩⟩
 case CO sv aw it=>
  obtain⟨rfl,rfl,-,rfl⟩:=K;exact .inr ⟨rfl,.inr ⟨rfl,rfl,by simp[oC,lc]⟩⟩
 case BC sv aw it old=>
  simp only[Fam.DO,kM] at K;simp only[Cv] at O;obtain⟨k1,U,V,Y,Z,-⟩:=O;rcases K with K | K;split at K;rename_i c;split at K;rename_i c2;simp only[d6] at K;obtain⟨rfl,c3,c4⟩:=c2;split at K<;>simp only[d9] at K<;>obtain⟨rfl,rfl,-,rfl⟩:=K;exact .inr ⟨rfl,.inl (by simp[oC,kw])⟩;rename_i e;refine .inr ⟨rfl,.inr ⟨rfl,rfl,?_⟩⟩;simp only[oC,lc,d7 e];omega;simp only[d6,d9] at K;obtain⟨rfl,rfl,-,rfl⟩:=K;refine .inr ⟨rfl,.inr ⟨rfl,rfl,?_⟩⟩;simp only[oC,lc,lL];omega;simp at K;split at K;rename_i e;split at K;simp only[d6,d9] at K;obtain⟨rfl,rfl,-,rfl⟩:=K;exact .inl (by simp[wO,F2]);simp only[f7,kB,k5,d9] at K;rcases K with⟨rfl,rfl,-,rfl⟩ | ⟨rfl,rfl,-,rfl⟩<;>exact .inr ⟨rfl,.inl (by cases aw<;>simp[oC,kw])⟩;rename_i e;simp only[d6,d9] at K;obtain⟨rfl,rfl,-,rfl⟩:=K;refine .inr ⟨rfl,.inr ⟨rfl,rfl,?_⟩⟩;simp only[oC,lc,d7 e];omega
 case BL sv=>
  obtain⟨rfl,rfl,-,rfl⟩:=K;simp only[Cv] at O;cases sv;refine .inr ⟨rfl,.inr ⟨?_,rfl,by simp[oC,lc]⟩⟩;simp only[oC,kw,kV,lE];omega;refine .inr ⟨rfl,.inr ⟨?_,rfl,by simp[oC,lc]⟩⟩;simp only[oC,kw,lL];omega
 case Ei=>
  simp only[f7,kB,k5,d9] at K;rcases K with⟨rfl,rfl,-,rfl⟩ | ⟨rfl,rfl,-,rfl⟩<;>exact .inr ⟨rfl,.inr ⟨rfl,rfl,by simp[oC,lc]⟩⟩
 case CS sv=>
  split at K<;>simp only[d6,d9] at K<;>obtain⟨rfl,rfl,-,rfl⟩:=K<;>exact .inr ⟨rfl,.inr ⟨rfl,rfl,by simp[oC,lc]⟩⟩
 case FW=>
  obtain⟨rfl,rfl,-,rfl⟩:=K;refine .inl ?_;split;simp[wO,F2];split<;>simp[wO,F2]
 case CY old=>
  split at K<;>simp only[d6,d9] at K<;>obtain⟨rfl,rfl,-,rfl⟩:=K;exact .inl (by simp[wO,F2]);rename_i e;refine .inr ⟨rfl,.inr ⟨rfl,rfl,?_⟩⟩;simp only[oC,lc,d7 e];omega
 case Ft=>
  obtain⟨rfl,rfl,-,rfl⟩:=K;split;exact .inr ⟨rfl,.inr ⟨rfl,rfl,by simp[oC,lc]⟩⟩;exact .inl (by simp[wO,F2])
 case GF sv=>obtain⟨rfl,rfl,-,rfl⟩:=K;exact .inr ⟨rfl,.inr ⟨rfl,rfl,by simp[oC,lc]⟩⟩
 case Ff=>obtain⟨rfl,rfl,-,rfl⟩:=K;exact .inr ⟨rfl,.inr ⟨rfl,rfl,by simp[oC,lc]⟩⟩
 all_goals
  obtain⟨rfl,rfl,-,rfl⟩:=K;exact .inl (by simp[wO,F2])
end
def Dn(N:Nat)(r' r:Nat->Rk):Prop:=∃i,i<N/\Rk.sub (r' i) (r i)/\∀j,j≠i->r' j=r j
theorem Dn.wf:∀N,WellFounded (Dn N)
 | 0=>⟨λ_=>⟨_,λ_ ⟨_,h,_⟩=>by omega⟩⟩
 | N+1=>⟨by
  have key:∀x:Rk,∀r:Nat->Rk,r N=x->Acc (Dn (N+1)) r:=by
   intro x
   induction x using Rk.wf.induction with
   | _ x V=>
    intro r
    induction r using (Dn.wf N).induction with
    | _ r Y=>
     intro e
     refine⟨_,λr' ⟨i,hi,K,O⟩=>?_⟩
     by_cases U:i=N;subst U;exact V (r' i) (by rw[← e];exact K) r' rfl;exact Y r' ⟨i,by omega,K,O⟩ (by rw[O N (kU U),e])
  exact λr=>key _ r rfl⟩
def chain:Nat->Rk
 | 0=>.leaf
 | n+1=>.node λ_=>chain n
theorem SI(n:Nat)(w:World):Rk.sub (chain n) (chain (n+1)):=⟨_,w,V,V⟩
structure Mu where
 a:Nat
 k:Nat
 l:Nat
 N:Nat
 r:Nat->Rk
 b:Nat
def Mu.lt(x y:Mu):Prop:=x.a<y.a∨(x.a=y.a/\(x.k<y.k∨(x.k=y.k/\(x.l<y.l∨(x.l=y.l/\x.N=y.N/\(Dn y.N x.r y.r∨(x.r=y.r/\x.b<y.b)))))))
theorem Mu.wf:WellFounded Mu.lt:=⟨by
 have key:∀(a k l N:Nat) (r:Nat->Rk) (b:Nat),Acc Mu.lt ⟨a,k,l,N,r,b⟩:=by
  intro a
  induction a using Nat.strongRecOn with
  | _ a Z=>
   intro k
   induction k using Nat.strongRecOn with
   | _ k aa=>
    intro l
    induction l using Nat.strongRecOn with
    | _ l ab=>
     intro N r
     induction r using (Dn.wf N).induction with
     | _ r ac=>
      intro b
      induction b using Nat.strongRecOn with
      | _ b ae=>
       refine⟨_,λ⟨ag,k',l',N',r',b'⟩ h=>?_⟩
       rcases h with h | ⟨h1,h | ⟨K,h | ⟨O,U,h | ⟨V,Y⟩⟩⟩⟩;exact Z ag h k' l' N' r' b';simp only at h1 h;subst h1;exact aa k' h l' N' r' b';simp only at h1 K h;subst h1 K;exact ab l' h N' r' b';simp only at h1 K O U h;subst h1 K O U;exact ac r' h b';simp only at h1 K O U V Y;subst h1 K O U V;exact ae b' Y
 exact λ⟨a,k,l,N,r,b⟩=>key a k l N r b⟩
def bit(b:Bool):Nat:=if b then 1 else 0
def mu(F:Fam)(N:Nat)(φ:Nat->Nx)(cn:Nat)(m:M4)(q:Nat)(r:Nat->Rk)(bt:Nat->Bool):Mu:=⟨14*(F.N - cn)+sumTo N λi=>wt F.n (φ i),Sg kw N φ+q,Sg (lc m) N φ,N,r,sumTo N λi=>bit (bt i)⟩
variable{lo:Nat}
section
variable {F:Fam}{N N' i k:Nat}{φ φ':Nat->Nx}{p:LP}{m m':M4}{q q':Nat}{es:Array Event}{o:Option LP}{r r':Nat->Rk}{b b':Nat->Bool}{x:Nx}{ρ:Rk}{cn:Nat}
theorem Xe(h:(sumTo N' λi=>wt F.n (φ' i))<sumTo N λi=>wt F.n (φ i)):Mu.lt (mu F N' φ' cn m' q' r' b') (mu F N φ cn m q r b):=.inl (Nat.add_lt_add_left h _)
theorem QD(hi:i<N)(h:wt F.n x<wt F.n (φ i)):Mu.lt (mu F N (upd φ i x) cn m' q' r' b') (mu F N φ cn m q r b):=by
 have:=sumTo_upd φ x (wt F.n) hi;exact .inl (by show 14*(F.N - cn)+(sumTo N λa=>wt F.n (upd φ i x a))<14*(F.N - cn)+sumTo N λa=>wt F.n (φ a);omega)
theorem QR(hi:i<N)(K:∀f,BT f x=BT f (φ i))(hw:wt F.n x=wt F.n (φ i))(h:Rk.sub ρ (r i)):Mu.lt (mu F N (upd φ i x) cn m q (upd r i ρ) b') (mu F N φ cn m q r b):=by
 have:=sumTo_upd φ x (wt F.n) hi;refine .inr ⟨by show 14*(F.N - cn)+(sumTo N λa=>wt F.n (upd φ i x a))=14*(F.N - cn)+sumTo N λa=>wt F.n (φ a);omega,.inr ⟨by show Sg kw N (upd φ i x)+q=_;rw[Ma kw hi (K kw).symm];rfl,.inr ⟨Ma (lc m) hi (K _).symm,V,.inl ⟨i,hi,?_,λa O=>upd_ne _ _ O⟩⟩⟩⟩;show Rk.sub (upd r i ρ i) _;rw[upd_same];exact h
theorem VD(hi:i<N)(K:φ i=.ph (.B3 lo)):Mu.lt (mu F N (upd φ i (.ph (F.tk cn))) (cn+1) m' q' r' b') (mu F N φ cn m q r b):=by
 have hw:=sumTo_upd φ (.ph (F.tk cn)) (wt F.n) hi;have O:wt F.n (φ i)=10:=by rw[K];rfl
 rw[O] at hw;refine .inl ?_;show 14*(F.N - (cn+1))+(sumTo N λa=>wt F.n (upd φ i (.ph (F.tk cn)) a))<14*(F.N - cn)+sumTo N λa=>wt F.n (φ a);by_cases c:cn<F.N
 .have e2:wt F.n (.ph (F.tk cn))<=23:=by
   unfold Fam.tk;rw[d5 c];split;exact kG _;show 10<=23;omega
  omega
 .have e2:wt F.n (.ph (F.tk cn))=9:=by unfold Fam.tk;rw[d7 c];rfl
  omega
theorem Xg(hi:i<N)(K:φ i=.ph (.lk k p))(V:(m',q',es,o)∈F.Bn p m q)(Y:Cv p m q):Mu.lt (mu F N (upd φ i (.ph (Fam.Cc k o))) cn m' q' r' b') (mu F N φ cn m q r b):=by
 have hw:=sumTo_upd φ (.ph (Fam.Cc k o)) (wt F.n) hi;have Z:wt F.n (φ i)=F2 p:=by rw[K];rfl
 have e2:wt F.n (.ph (Fam.Cc k o))=wO o:=by cases o<;>rfl
 rw[Z,e2] at hw;let⟨a,O,U⟩:=Ee (k:=k) kw hi K;let⟨c,aa,ab⟩:=Ee (k:=k) (lc m) hi K;rcases UO V Y with h | ⟨h1,h | ⟨ae,ac,ag⟩⟩;exact .inl (by show 14*(F.N - cn)+(sumTo N λa=>wt F.n (upd φ i _ a))<14*(F.N - cn)+sumTo N λa=>wt F.n (φ a);omega);exact .inr ⟨by show 14*(F.N - cn)+(sumTo N λa=>wt F.n (upd φ i _ a))=14*(F.N - cn)+sumTo N λa=>wt F.n (φ a);omega,.inl (by show Sg kw N (upd φ i _)+q'<Sg kw N φ+q;rw[O,U];omega)⟩;subst ac;exact .inr ⟨by show 14*(F.N - cn)+(sumTo N λa=>wt F.n (upd φ i _ a))=14*(F.N - cn)+sumTo N λa=>wt F.n (φ a);omega,.inr ⟨by show Sg kw N (upd φ i _)+q'=Sg kw N φ+q;rw[O,U];omega,.inl (by show Sg (lc m') N (upd φ i _)<Sg (lc m') N φ;rw[aa,ab];omega)⟩⟩
end
open Go.ConcN (RelBy fork_knows)
variable{e:Event}
section
variable {F:Fam}{N0 t0 N j:Nat}{φ:Nat->Nx}{S:Nat->St}{t u:Trace}{v wt sm v' wt' sm':Nat}
theorem LF{α:Type}(f:Nat->α)(i:Nat):upd f i (f i)=f:=by
 funext a;unfold upd;split;rename_i e;rw[e];rfl
def DG(F:Fam)(K:Prop)(e:Event):Prop:=
 (∀a,(MemAct.ofEvent e).touch?=some a->(∃b,BK a.loc=some b/\(b=F.wg∨b=F.mu∨b=F.nx))/\a.kind≠ .plain/\(a.kind=.said->K))/\e.loc≠ .mark (.release F.sA)/\e.loc≠ .mark (.release F.uA)
theorem DG.toS{K:Prop}{i:Nat}{y:Nx}(h:DG F K e)(O:K->i=0):EvS F N0 j i y e:=
 ⟨λa U=>let ⟨⟨b,h1,V⟩,Y,Z⟩:=h.1 a U;⟨b,h1,.inl ⟨V,Y,λq=>O (Z q)⟩⟩,h.2⟩
theorem DG.keep{O:Prop}{i:Nat}{R:Touch->Prop}(h:DG F O e)(V:O->i=0)(h1:F.fd≠F.wg)(Y:F.fd≠F.mu)(Z:F.fd≠F.nx):(∀a b,(MemAct.ofEvent e).touch?=some a->BK a.loc=some b->(b=F.wg∨b=F.mu∨b=F.nx)->a.kind≠ .plain/\(a.kind=.said->i=0))/\
   (∀a,(MemAct.ofEvent e).touch?=some a->BK a.loc=some F.fd->R a)/\e.loc≠ .mark (.release F.sA)/\e.loc≠ .mark (.release F.uA):=
 ⟨λa b K _ _=>⟨(h.1 a K).2.1,λq=>V ((h.1 a K).2.2 q)⟩,λa K hb=>by
  obtain⟨⟨b,U,aa⟩,-⟩:=h.1 a K
  rw[hb] at U
  obtain rfl:=d0 U
  rcases aa with e | e | e;exact absurd e h1;exact absurd e Y
  .exact absurd e Z,h.2⟩
theorem Py{m:Mark}(h1:∀a,m≠ .read a)(K:∀a,m≠ .write a):(MemAct.ofEvent (Fam.BJ m)).touch?=none:=by
 cases m<;>first | rfl | exact absurd rfl (h1 _) | exact absurd rfl (K _)
theorem WM(p:Ph){es:Array Event}(K:F.act p v wt sm=some ((v',wt',sm'),es,nx)):
  (∀e∈es,DG F (p=.Gq∨∃j,p=.Gj j) e)/\deafBehind (D9 (.ph p)) es=D9 nx/\(∀e∈es,∀B,F.wg<B->(MemAct.ofEvent e).low B):=by
 have aj:∀b w,(MemAct.ofEvent ⟨.cell F.sA,w,b⟩).touch?=some ⟨.cell F.sA,w,if b then .atomic else .plain⟩:=by intro b w;cases b<;>cases w<;>rfl
 have Z:∀(a:Addr) w (T:Prop),a.block=F.wg->DG F T ⟨.cell a,w,true⟩:=by
  intro a w T hb;refine⟨λx U=>?_,by simp⟩;have:x=⟨.cell a,w,.atomic⟩:=by cases w<;>(simp[MemAct.ofEvent,MemAct.touch?] at U;exact U.symm)
  subst this;exact⟨⟨F.wg,by simp[BK,hb],.inl rfl⟩,by simp,by simp⟩
 have aa:∀(a:Addr) w B,a.block=F.wg->F.wg<B->(MemAct.ofEvent ⟨.cell a,w,true⟩).low B:=by
  intro a w B hb O;cases w<;>simp[MemAct.ofEvent,MemAct.low,Loc.low,hb,O]
 have Fx:∀(m:Mark) (T:Prop),(∀a,m≠ .read a)->(∀a,m≠ .write a)->(∀a,m≠ .release a)->DG F T (Fam.BJ m):=by
  intro m T h1 ai ag;exact⟨λx U=>(by rw[Py h1 ai] at U;cases U),λe=>ag _ (Loc.mark.inj e),λe=>ag _ (Loc.mark.inj e)⟩
 have ab:F.mA.block=F.wg:=rfl;have Y:F.sA.block=F.wg:=rfl;have Ds:∀(T:Prop),∀e∈semEvents F.mA,DG F T e:=by
  intro T e he;simp only[semEvents,lm,f7,kB,k5] at he;rcases he with rfl | rfl | rfl | rfl;exact Fx .disable T (by simp) (by simp) (by simp);exact Z _ _ _ ab;exact Z _ _ _ ab;exact Fx .enable T (by simp) (by simp) (by simp)
 have ah:∀e∈semEvents F.mA,∀B,F.wg<B->(MemAct.ofEvent e).low B:=by
  intro e he B O;simp only[semEvents,lm,f7,kB,k5] at he;rcases he with rfl | rfl | rfl | rfl;trivial;exact aa _ _ _ ab O;exact aa _ _ _ ab O;trivial
 have ac:∀(T:Prop),∀e∈(#[Fam.Br F.sA,Fam.Cx F.sA]:Array Event),DG F T e:=by
  intro T e he;simp only[lm,f7,kB,k5] at he;rcases he with rfl | rfl<;>exact Z _ _ _ Y
 have ae:∀e∈(#[Fam.Br F.sA,Fam.Cx F.sA]:Array Event),∀B,F.wg<B->(MemAct.ofEvent e).low B:=by
  intro e he B O;simp only[lm,f7,kB,k5] at he;rcases he with rfl | rfl<;>exact aa _ _ _ Y O
 have one:∀{e:Event}{T:Prop},DG F T e->∀x∈(#[e]:Array Event),DG F T x:=by
  intro e T h x U;simp at U;subst U;exact h
 have V:∀{e:Event},(∀B,F.wg<B->(MemAct.ofEvent e).low B)->∀x∈(#[e]:Array Event),∀B,F.wg<B->(MemAct.ofEvent x).low B:=by
  intro e h x U;simp at U;subst U;exact h
 cases p<;>simp only[Fam.act] at K<;>(try (cases K;done));cases K;exact⟨one (Fx _ _ (by simp) (by simp) (by simp)),rfl,V λB O=>O⟩;cases K;exact⟨one (Fx _ _ (by simp) (by simp) (by simp)),rfl,V λB O=>trivial⟩;split at K;cases K;exact⟨ac _,by split<;>rfl,ae⟩;cases K;split at K;cases K;exact⟨one (Z _ _ _ Y),rfl,V λB O=>aa _ _ _ Y O⟩;cases K;split at K;cases K;exact⟨one (Z _ _ _ Y),rfl,V λB O=>aa _ _ _ Y O⟩;cases K;split at K;cases K;exact⟨Ds _,rfl,ah⟩;cases K;cases K;exact⟨one (Fx _ _ (by simp) (by simp) (by simp)),rfl,V λB O=>trivial⟩;split at K;cases K;exact⟨one (Z _ _ _ Y),by split<;>rfl,V λB O=>aa _ _ _ Y O⟩;cases K;split at K;split at K;cases K;exact⟨ac _,rfl,ae⟩;cases K;exact⟨one (Z _ _ _ Y),rfl,V λB O=>aa _ _ _ Y O⟩;cases K;cases K;refine⟨one ⟨λx U=>?_,by simp[Fam.BJ]⟩,rfl,V λB O=>O⟩;simp[Fam.BJ,MemAct.ofEvent,MemAct.touch?] at U;subst U;exact⟨⟨F.wg,rfl,.inl rfl⟩,by simp,λ_=>.inl rfl⟩;split at K;cases K;exact⟨Ds _,rfl,ah⟩;cases K;split at K;cases K;exact⟨one (Z _ _ _ Y),rfl,V λB O=>aa _ _ _ Y O⟩;cases K;cases K;exact⟨one (Fx _ _ (by simp) (by simp) (by simp)),rfl,V λB O=>trivial⟩;cases K;exact⟨one (Fx _ _ (by simp) (by simp) (by simp)),rfl,V λB O=>trivial⟩;split at K;cases K;exact⟨ac _,by split<;>rfl,ae⟩;cases K;cases K;refine⟨one ⟨λx U=>?_,by simp[Fam.BJ]⟩,rfl,V λB O=>O⟩;simp[Fam.BJ,MemAct.ofEvent,MemAct.touch?] at U;subst U;exact⟨⟨F.wg,rfl,.inl rfl⟩,by simp,λ_=>.inr ⟨_,rfl⟩⟩;cases K;exact⟨one (Fx _ _ (by simp) (by simp) (by simp)),rfl,V λB O=>trivial⟩
 all_goals
  cases K;exact⟨by simp,rfl,by simp⟩
theorem TP(p:Ph){es:Array Event}(K:F.act p v wt sm=some ((v',wt',sm'),es,nx)){k:Nat}(hw:EL F k (.ph p))(O:late (.ph p)):
  ∀m e,es[m]?=some e->(MemAct.ofEvent e).touch?=none∨((∃ad wr,e=⟨.cell ad,wr,true⟩)/\0<deafBehind (D9 (.ph p)) (es.extract 0 m)):=by
 have two:∀m e,(#[Fam.Br F.sA,Fam.Cx F.sA]:Array Event)[m]?=some e->(∃ad wr,e=⟨.cell ad,wr,true⟩)/\0<deafBehind 1 ((#[Fam.Br F.sA,Fam.Cx F.sA]:Array Event).extract 0 m):=by
  intro m e h
  match m with
  | 0=>simp at h;subst h;exact⟨⟨_,_,rfl⟩,by simp[deafBehind]⟩
  | 1=>simp at h;subst h;exact⟨⟨_,_,rfl⟩,by simp[deafBehind,Fam.Br]⟩
  | m+2=>simp at h
 cases p<;>simp only[EL] at hw<;>(try exact hw.elim)<;>simp only[late] at O<;>(try exact O.elim)<;>simp only[Fam.act] at K<;>(try (cases K;done))
 .cases K;intro m e h
  match m with
  | 0=>simp at h;subst h;exact .inl rfl
  | m+1=>simp at h
 .split at K;cases K;exact λm e h=>.inr (two m e h);cases K
 .split at K
  .cases K;intro m e h
   match m with
   | 0=>simp at h;subst h;exact .inr ⟨⟨_,_,rfl⟩,by simp[deafBehind,D9]⟩
   | m+1=>simp at h
  .cases K
 .split at K
  .cases K;intro m e h
   match m with
   | 0=>simp at h;subst h;exact .inr ⟨⟨_,_,rfl⟩,by simp[deafBehind,D9]⟩
   | m+1=>simp at h
  .cases K
 .split at K
  .cases K;intro m e h
   match m with
   | 0=>simp[semEvents] at h;subst h;exact .inl rfl
   | 1=>simp[semEvents] at h;subst h;exact .inr ⟨⟨_,_,rfl⟩,by simp[deafBehind,D9,semEvents]⟩
   | 2=>simp[semEvents] at h;subst h;exact .inr ⟨⟨_,_,rfl⟩,by simp[deafBehind,D9,semEvents]⟩
   | 3=>simp[semEvents] at h;subst h;exact .inl rfl
   | m+4=>simp[semEvents] at h
  .cases K
theorem Us{p:LP}{m m':M4}{q q':Nat}{es:Array Event}{o:Option LP}(K:(m',q',es,o)∈F.Bn p m q):
  (∀e∈es,DG F False e)/\deafBehind (dl p) es=oC dl o/\(∀e∈es,∀B,F.mu<B->(MemAct.ofEvent e).low B):=by
 have Z:∀(a:Addr) w,a.block=F.mu->DG F False ⟨.cell a,w,true⟩:=by
  intro a w hb;refine⟨λx Y=>?_,by simp⟩;have:x=⟨.cell a,w,.atomic⟩:=by cases w<;>(simp[MemAct.ofEvent,MemAct.touch?] at Y;exact Y.symm)
  subst this;exact⟨⟨F.mu,by simp[BK,hb],.inr (.inl rfl)⟩,by simp,by simp⟩
 have aa:∀(a:Addr) w B,a.block=F.mu->F.mu<B->(MemAct.ofEvent ⟨.cell a,w,true⟩).low B:=by
  intro a w B hb O;cases w<;>simp[MemAct.ofEvent,MemAct.low,Loc.low,hb,O]
 have Fx:∀(m:Mark),(∀a,m≠ .read a)->(∀a,m≠ .write a)->(∀a,m≠ .release a)->DG F False (Fam.BJ m):=by
  intro m h1 ac ab;exact⟨λx Y=>(by rw[Py h1 ac] at Y;cases Y),λe=>ab _ (Loc.mark.inj e),λe=>ab _ (Loc.mark.inj e)⟩
 have nil:∀d,(∀e∈(#[]:Array Event),DG F False e)/\deafBehind d #[]=d/\(∀e∈(#[]:Array Event),∀B,F.mu<B->(MemAct.ofEvent e).low B):=λd=>⟨by simp,rfl,by simp⟩;have rd:∀d,(∀e∈(#[Fam.Br F.uA]:Array Event),DG F False e)/\deafBehind d #[Fam.Br F.uA]=d/\(∀e∈(#[Fam.Br F.uA]:Array Event),∀B,F.mu<B->(MemAct.ofEvent e).low B):=λd=>
  ⟨λe he=>by simp at he;subst he;exact Z _ _ rfl,rfl,λe he B O=>by simp at he;subst he;exact aa _ _ _ rfl O⟩
 have U:∀d,(∀e∈(#[Fam.Br F.uA,Fam.Cx F.uA]:Array Event),DG F False e)/\deafBehind d #[Fam.Br F.uA,Fam.Cx F.uA]=d/\(∀e∈(#[Fam.Br F.uA,Fam.Cx F.uA]:Array Event),∀B,F.mu<B->(MemAct.ofEvent e).low B):=λd=>
  ⟨λe he=>by
   simp only[lm,f7,kB,k5] at he
   rcases he with rfl | rfl<;>exact Z _ _ rfl,rfl,λe he B O=>by
   simp only[lm,f7,kB,k5] at he
   rcases he with rfl | rfl<;>exact aa _ _ _ rfl O⟩
 have Ds:(∀e∈semEvents F.qA,DG F False e)/\deafBehind 1 (semEvents F.qA)=1/\(∀e∈semEvents F.qA,∀B,F.mu<B->(MemAct.ofEvent e).low B):=by
  refine⟨λe he=>?_,rfl,λe he B O=>?_⟩;simp only[semEvents,lm,f7,kB,k5] at he;rcases he with rfl | rfl | rfl | rfl;exact Fx .disable (by simp) (by simp) (by simp);exact Z _ _ rfl;exact Z _ _ rfl;exact Fx .enable (by simp) (by simp) (by simp);simp only[semEvents,lm,f7,kB,k5] at he;rcases he with rfl | rfl | rfl | rfl;trivial;exact aa _ _ _ rfl O;exact aa _ _ _ rfl O;trivial
 have V:∀(m:Mark) (d d':Nat),(∀a,m≠ .read a)->(∀a,m≠ .write a)->(∀a,m≠ .release a)->deafBehind d #[Fam.BJ m]=d'->(∀B,F.mu<B->(MemAct.ofEvent (Fam.BJ m)).low B)->
   (∀e∈(#[Fam.BJ m]:Array Event),DG F False e)/\deafBehind d #[Fam.BJ m]=d'/\(∀e∈(#[Fam.BJ m]:Array Event),∀B,F.mu<B->(MemAct.ofEvent e).low B):=λm d d' h1 ac ab ae ag=>
  ⟨λe he=>by simp at he;subst he;exact Fx m h1 ac ab,ae,λe he B O=>by simp at he;subst he;exact ag B O⟩
 cases p<;>simp only[Fam.Bn,d6,d9,kB] at K
 case Ff=>obtain⟨rfl,rfl,rfl,rfl⟩:=K;exact V .disable 0 1 (by simp) (by simp) (by simp) rfl λB O=>trivial
 case Fp=>
  split at K<;>simp only[d6,d9] at K<;>obtain⟨rfl,rfl,rfl,rfl⟩:=K;exact U 1;exact rd 1
 case BC sv aw it old=>
  simp only[Fam.DO,kM] at K;rcases K with K | K;split at K;split at K;simp only[d6] at K;split at K<;>simp only[d9] at K<;>obtain⟨rfl,rfl,rfl,rfl⟩:=K;exact U 1;exact rd 1;simp only[d6,d9] at K;obtain⟨rfl,rfl,rfl,rfl⟩:=K;exact nil 1;simp at K;split at K;split at K;simp only[d6,d9] at K;obtain⟨rfl,rfl,rfl,rfl⟩:=K;exact U 1;simp only[f7,kB,k5,d9] at K;rcases K with⟨rfl,rfl,rfl,rfl⟩ | ⟨rfl,rfl,rfl,rfl⟩<;>exact U 1;simp only[d6,d9] at K;obtain⟨rfl,rfl,rfl,rfl⟩:=K;exact rd 1
 case BL sv=>obtain⟨rfl,rfl,rfl,rfl⟩:=K;cases sv<;>exact Ds
 case Ei=>
  simp only[f7,kB,k5,d9] at K;rcases K with⟨rfl,rfl,rfl,rfl⟩ | ⟨rfl,rfl,rfl,rfl⟩<;>exact nil 1
 case CS sv=>split at K<;>simp only[d6,d9] at K<;>obtain⟨rfl,rfl,rfl,rfl⟩:=K<;>exact nil 1
 case FW=>
  obtain⟨rfl,rfl,rfl,rfl⟩:=K;split;exact U 1;split<;>exact U 1
 case CY old=>
  split at K<;>simp only[d6,d9] at K<;>obtain⟨rfl,rfl,rfl,rfl⟩:=K;exact U 1;exact rd 1
 case Ft=>obtain⟨rfl,rfl,rfl,rfl⟩:=K;split<;>exact nil 1
 case Dx b=>obtain⟨rfl,rfl,rfl,rfl⟩:=K;exact Ds
 case len=>obtain⟨rfl,rfl,rfl,rfl⟩:=K;exact V .enable 1 0 (by simp) (by simp) (by simp) rfl λB O=>trivial
 case DC=>obtain⟨rfl,rfl,rfl,rfl⟩:=K;exact V .enable 1 0 (by simp) (by simp) (by simp) rfl λB O=>trivial
 case Ih=>obtain⟨rfl,rfl,rfl,rfl⟩:=K;exact V .disable 0 1 (by simp) (by simp) (by simp) rfl λB O=>trivial
 case Hb=>obtain⟨rfl,rfl,rfl,rfl⟩:=K;exact V (.acquire F.uA) 0 0 (by simp) (by simp) (by simp) rfl λB O=>O
 case GO=>obtain⟨rfl,rfl,rfl,rfl⟩:=K;exact V (.releaseMerge F.uA) 0 0 (by simp) (by simp) (by simp) rfl λB O=>O
 all_goals
  obtain⟨rfl,rfl,rfl,rfl⟩:=K
 all_goals first | exact nil 0 | exact nil 1 | exact U 1
end
def BM(c:Bool)(N:Nat)(φ:Nat->Nx):Nat->Nx:=λi=>if c=true/\i=N then φ 0 else if c=true/\i=0 then .ph (.Eh [] []) else φ i
theorem HA{N:Nat}{φ:Nat->Nx}:BM false N φ=φ:=by funext i;simp[BM]
theorem GC{c:Bool}{N:Nat}{φ:Nat->Nx}{i:Nat}(h0:i≠0)(K:i≠N):BM c N φ i=φ i:=by simp[BM,h0,K]
theorem Ic{N:Nat}{φ:Nat->Nx}:BM true N φ N=φ 0:=by simp[BM]
theorem Kt{c:Bool}{N:Nat}{φ:Nat->Nx}{i:Nat}{x:Nx}(h0:i≠0)(K:i≠N):upd (BM c N φ) i x=BM c N (upd φ i x):=by
 funext a;unfold BM;by_cases e:a=i;subst e;rw[upd_same,d7 (by simp[K]),d7 (by simp[h0]),upd_same];rw[upd_ne _ _ e];rw[upd_ne φ x (kU h0),upd_ne _ _ e]
theorem To{N:Nat}{φ:Nat->Nx}{x:Nx}(O:N≠0):upd (BM true N φ) N x=BM true N (upd φ 0 x):=by
 funext a;unfold BM;by_cases e:a=N;subst e;simp[upd_same];rw[upd_ne _ _ e];by_cases K:a=0;subst K;simp[e];rw[upd_ne φ x K];simp[e,K]
def FN:Nx->Bool
 | .gone _=>true
 | .ph p=>Fam.BW p
def loc(x:Nx)(s:St):St:=if FN x=true then .quiet else s
def EC:LP->Prop
 | .Em | .HK | .GO | .Ih | .FW | .CY _ | .Ft | .Dx _ | .DC=>True
 | _=>False
def Dz:Nx->Nat
 | .ph (.B3 _) | .ph (.lk _ _)=>0
 | _=>1
structure Eo (F:Fam) (N0 N j:Nat) (φ:Nat->Nx) (f:Obj×Nat):Prop where
 rel:∃D,F.rel D f.1/\(∀i,D i->i<F.N/\F.bad i=true)/\∀i,i<f.2->i<F.N->F.bad i=true->D i∨∃a p,a<N/\φ a=.ph (.lk i p)/\¬EC p
 IT:∀a i p,a<N->φ a=.ph (.lk i p)->i<F.N/\F.bad i=true/\i<f.2
 lo:∀a l,a<N->φ a=.ph (.B3 l)->l<=f.2
 ex:∀k,k<j->Dz (φ (N0+k))=0∨F.N<=f.2
 bd:f.2<=F.N+sumTo j λk=>Dz (φ (N0+k))
section
variable {F:Fam}{N0 N j i:Nat}{φ:Nat->Nx}{f:Obj×Nat}{x:Nx}
theorem Eo.move(h:Eo F N0 N j φ f)(hi:i<N)(ac:Dz x=Dz (φ i))(h1:∀k p,φ i=.ph (.lk k p)->¬EC p->∃O,x=.ph (.lk k O)/\¬EC O)(ae:∀k p,x=.ph (.lk k p)->∃O,φ i=.ph (.lk k O))(ag:∀l,x=.ph (.B3 l)->l<=f.2):Eo F N0 N j (upd φ i x) f:=by
 have hex:∀k,Dz (upd φ i x (N0+k))=Dz (φ (N0+k)):=λk=>by
  by_cases e:N0+k=i;rw[e,upd_same,ac];rw[upd_ne _ _ e]
 obtain⟨D,d1,d2,d3⟩:=h.rel;refine⟨⟨D,d1,d2,λk V ah hb=>?_⟩,λa k p U K=>?_,λa l U K=>?_,λk V=>by rw[hex];exact h.ex k V,by simp only[hex];exact h.bd⟩;rcases d3 k V ah hb with q | ⟨a,p,Z,aa,ab⟩;exact .inl q;by_cases e:a=i;subst e;let⟨O,Y,e2⟩:=h1 k p aa ab;exact .inr ⟨a,O,Z,by rw[upd_same];exact Y,e2⟩;exact .inr ⟨a,p,Z,by rw[upd_ne _ _ e];exact aa,ab⟩;by_cases e:a=i;subst e;rw[upd_same] at K;let⟨O,Y⟩:=ae k p K;exact h.IT a k O U Y;rw[upd_ne _ _ e] at K;exact h.IT a k p U K;by_cases e:a=i;subst e;rw[upd_same] at K;exact ag l K;rw[upd_ne _ _ e] at K;exact h.lo a l U K
theorem Eo.take(h:Eo F N0 N j φ f){k:Nat}(aa:k<j)(hi:N0+k<N)(U:φ (N0+k)=.ph (.B3 lo)):Eo F N0 N j (upd φ (N0+k) (.ph (F.tk f.2))) (f.1,f.2+1):=by
 have V:=sumTo_upd (λa=>φ (N0+a)) (.ph (F.tk f.2)) Dz aa;have ab:∀a,upd φ (N0+k) (.ph (F.tk f.2)) (N0+a)=upd (λa=>φ (N0+a)) k (.ph (F.tk f.2)) a:=λa=>by
  by_cases e:a=k;subst e;rw[upd_same,upd_same];rw[upd_ne _ _ (by omega),upd_ne _ _ e]
 have ac:Dz (φ (N0+k))=0:=by rw[U];rfl
 simp only[ac,k6] at V;have ae:∀i p,F.tk f.2=.lk i p->i<F.N/\F.bad i=true/\i=f.2:=by
  intro i p e;unfold Fam.tk at e;split at e;split at e;cases e;exact⟨by assumption,by assumption,rfl⟩;cases e;cases e
 have ag:∀l,F.tk f.2=.B3 l->l=f.2+1:=by
  intro l e;unfold Fam.tk at e;split at e;split at e;cases e;cases e;rfl;cases e
 have ah:∀a i p,φ a=.ph (.lk i p)->a≠N0+k:=λa i p e ai=>by subst ai;rw[U] at e;cases e
 obtain⟨D,d1,d2,d3⟩:=h.rel;refine⟨⟨D,d1,d2,λi aj Y hb=>?_⟩,λa i p O K=>?_,λa l O K=>?_,λa O=>?_,?_⟩;by_cases e:i=f.2;subst e;refine .inr ⟨N0+k,.Ff,hi,?_,λh=>h⟩;rw[upd_same];simp only[Fam.tk,Y,hb,lL];rcases d3 i (by simp only at aj;omega) Y hb with q | ⟨a,p,ak,Z,al⟩;exact .inl q;exact .inr ⟨a,p,ak,by rw[upd_ne _ _ (ah a i p Z)];exact Z,al⟩;by_cases e:a=N0+k;subst e;rw[upd_same] at K;have:=ae i p (Nx.ph.inj K);exact⟨this.1,this.2.1,by simp only;omega⟩;rw[upd_ne _ _ e] at K;have:=h.IT a i p O K;exact⟨this.1,this.2.1,by simp only;omega⟩;by_cases e:a=N0+k;subst e;rw[upd_same] at K;have:=ag l (Nx.ph.inj K);simp only;omega;rw[upd_ne _ _ e] at K;have:=h.lo a l O K;simp only;omega;by_cases e:a=k;subst e;rw[upd_same];unfold Fam.tk;by_cases c:f.2<F.N;rw[d5 c];left;split<;>rfl;right;simp only;omega;rw[upd_ne _ _ (by omega)];rcases h.ex a O with q | q;exact .inl q;right;simp only;omega
 .have an:=h.bd;simp only[ab];by_cases c:f.2<F.N;omega
  .have am:Dz (.ph (F.tk f.2))=1:=by unfold Fam.tk;rw[d7 c];rfl
   rw[am] at V;omega
theorem Eo.store(h:Eo F N0 N j φ f){k:Nat}{o:Obj}{D:Nat->Prop}(hi:i<N)(U:φ i=.ph (.lk k .DF))(d2:∀i,D i->i<F.N/\F.bad i=true)(d3:∀i,i<f.2->i<F.N->F.bad i=true->D i∨∃a p,a<N/\φ a=.ph (.lk i p)/\¬EC p)(Y:F.rel (λa=>D a∨a=k) o):Eo F N0 N j (upd φ i (.ph (.lk k .Em))) (o,f.2):=by
 have hb:=h.IT i k _ hi U;have hex:∀a,Dz (upd φ i (.ph (.lk k .Em)) (N0+a))=Dz (φ (N0+a)):=λa=>by
  by_cases e:N0+a=i;rw[e,upd_same,U];rfl;rw[upd_ne _ _ e]
 refine⟨⟨_,Y,λa K=>?_,λa K Z aa=>?_⟩,λa ab p K O=>?_,λa l K O=>?_,λa K=>by rw[hex];exact h.ex a K,by simp only[hex];exact h.bd⟩;rcases K with q | rfl;exact d2 a q;exact⟨hb.1,hb.2.1⟩;rcases d3 a K Z aa with q | ⟨b,p,ac,V,ae⟩;exact .inl (.inl q);by_cases e:b=i;subst e;rw[U] at V;cases V;exact .inl (.inr rfl);exact .inr ⟨b,p,ac,by rw[upd_ne _ _ e];exact V,ae⟩;by_cases e:a=i;subst e;rw[upd_same] at O;cases O;exact hb;rw[upd_ne _ _ e] at O;exact h.IT a ab p K O;by_cases e:a=i;subst e;rw[upd_same] at O;cases O;rw[upd_ne _ _ e] at O;exact h.lo a l K O
theorem Eo.spawn(h:Eo F N0 N j φ f){φ':Nat->Nx}(Y:N=N0+j)(h0:0<N0)(U:φ' N=.ph (.B3 0))(O:∀i,i<N->i≠0->φ' i=φ i)(Z:∀k p,φ 0≠ .ph (.lk k p))(k1:∀k p,φ' 0≠ .ph (.lk k p))(aa:∀l,φ' 0≠ .ph (.B3 l)):Eo F N0 (N+1) (j+1) φ' f:=by
 obtain⟨D,d1,d2,d3⟩:=h.rel;refine⟨⟨D,d1,d2,λi hi ab hb=>?_⟩,λa i p ac K=>?_,λa l ac K=>?_,λk ae=>?_,?_⟩
 .rcases d3 i hi ab hb with q | ⟨a,p,ag,V,ah⟩;exact .inl q
  .refine .inr ⟨a,p,by omega,?_,ah⟩;have:a≠0:=λe=>by subst e;exact Z _ _ V
   rw[O a ag this];exact V
 .by_cases e:a=N;subst e;rw[U] at K;cases K
  .have:a≠0:=λe=>by subst e;exact k1 _ _ K
   rw[O a (by omega) this] at K;exact h.IT a i p (by omega) K
 .by_cases e:a=N;subst e;rw[U] at K;cases K;exact lz _
  .have:a≠0:=λe=>by subst e;exact aa _ K
   rw[O a (by omega) this] at K;exact h.lo a l (by omega) K
 .by_cases e:k=j;subst e;left;rw[← Y,U];rfl;rw[O _ (by omega) (by omega)];exact h.ex k (by omega)
 .have:=h.bd;have e:(sumTo j λk=>Dz (φ' (N0+k)))=sumTo j λk=>Dz (φ (N0+k)):=by
   refine sumTo_congr λk ae=>?_;rw[O _ (by omega) (by omega)]
  simp only[sumTo,e];omega
theorem VK(x:Nx):Dz x<=1:=by
 cases x with
 | gone d=>exact kG _
 | ph p=>cases p<;>simp[Dz]
theorem Eo.lt(h:Eo F N0 N j φ f):f.2<=F.N+j:=by
 have:=h.bd;have:=sumTo_le (f:=λk=>Dz (φ (N0+k))) (c:=1) (j:=j) λk _=>VK _;omega
end
def N5(p:Ph):Prop:=p=.D6∨∃k sv,p=.lk k (.BL sv)
inductive Fg (P:Program) (F:Fam) (main:Bool):Nx->Rk->Bool->Gs_
 | walk {p:Ph}{r:Rk}{g:Goroutine}{s:St}:main=Fam.B2 p->(Fam.BW p=true->s=.quiet)->Jr P main (JQ (Stop P F p)) r g s->Fg P F main (.ph p) r true g s
 | blk {p:Ph}{r:Rk}{g:Goroutine}{s:St}:N5 p->main=Fam.B2 p->Stop P F p g s->Fg P F main (.ph p) r false {g with status:=.blocked} s
 | gone {q d:Nat}{g:Goroutine}:main=false->QuitsD P q d g->Fg P F main (.gone d) (chain q) true g .quiet
variable{g g':Goroutine}{Q:GP}
section
variable {P:Program}{F:Fam}{main:Bool}
theorem Jr.running{p:Ph}{r:Rk}{s:St}(h:Jr P main (JQ (Stop P F p)) r g s):g.status=.running:=by
 cases r with
 | leaf=>obtain⟨s₀,_,K⟩:=h;exact K.law.run
 | node f=>
  rcases h with⟨s₀,_,K⟩ | ⟨O,_⟩;exact K.law.run;exact O
theorem Jr.at_{r:Rk}{s:St}(h:Q g s):Jr P main Q r g s:=by
 cases r with
 | leaf=>exact h
 | node f=>exact .inl h
theorem Fg.awake{x:Nx}{r:Rk}{b:Bool}{s:St}(h:Fg P F main x r b g s):Go.Conc.awake g:=by
 cases h with
 | walk _ _ K=>exact awake_of (.inl K.running)
 | blk _ _ _=>exact awake_of (.inr (.inl rfl))
 | gone _ O=>exact awake_of (O.status.elim .inl λx=>.inr (.inr x))
theorem Rm(h:g.status=.running):{({g with status:=.blocked}:Goroutine) with status:=.running}=g:=by
 obtain⟨a,b,c,d,e⟩:=g;simp only at h;subst h;rfl
theorem OO{p:Ph}(h:N5 p):Fam.BW p=false:=by
 rcases h with rfl | ⟨k,sv,rfl⟩<;>rfl
theorem Fg.woken{x:Nx}{r:Rk}{b:Bool}{o:Goroutine}{s:St}(h:Fg P F main x r b o s){w':World}:
  ∃b',Fg P F main x r b' (Go.Conc.woken P g g' w' o) s/\(b=true->b'=true)/\(mayWake P g=true->g'.status=.running->b'=true):=by
 have aa:∀(o:Goroutine),Go.Conc.woken P g g' w' o=o.again w'∨Go.Conc.woken P g g' w' o=o:=by
  intro o;unfold Go.Conc.woken;split;exact .inl rfl;exact .inr rfl
 cases h with
 | walk h1 ab U=>exact⟨true,by rw[woken_run U.running];exact .walk h1 ab U,λ_=>rfl,λ_ _=>rfl⟩
 | @blk p _ go _ h0 h1 K=>
  have V:({go with status:=.blocked}:Goroutine).again w'=go:=by
   have:=K.law.offers;have ac:({go with status:=.blocked}:Goroutine).again w'={({go with status:=.blocked}:Goroutine) with status:=.running}:=by simp[Goroutine.again,this]
   rw[ac];exact Rm K.law.run
  have Y:Fg P F main (.ph p) r true go s:=.walk h1 (λq=>by rw[OO h0] at q;cases q) (Jr.at_ ⟨s,.refl _,K⟩);by_cases O:mayWake P g=true/\g'.status=.running
  .have e:Go.Conc.woken P g g' w' ({go with status:=.blocked}:Goroutine)=({go with status:=.blocked}:Goroutine).again w':=by
    unfold Go.Conc.woken;rw[d5 (by simp[O.1,O.2])]
   exact⟨true,by rw[e,V];exact Y,λ_=>rfl,λ_ _=>rfl⟩
  .rcases aa ({go with status:=.blocked}:Goroutine) with e | e;exact⟨true,by rw[e,V];exact Y,λ_=>rfl,λa b=>absurd ⟨a,b⟩ O⟩;exact⟨false,by rw[e];exact .blk h0 h1 K,λe=>e,λa b=>absurd ⟨a,b⟩ O⟩
 | gone h1 Z=>exact⟨true,by rw[woken_quitsD Z];exact .gone h1 Z,λ_=>rfl,λ_ _=>rfl⟩
end
structure Base where
 N0:Nat
 t0:Nat
 E0:LH
 w0:World
structure Inv (P:Program) (F:Fam) (B:Base) (gs:Array Goroutine) (w:World) (t:Trace) (φ:Nat->Nx) (r:Nat->Rk) (bt:Nat->Bool) (S:Nat->St) (Sh:Nat->Prop) (j:Nat) (c:Bool) (v wt sm:Nat) (m:M4) (q:Nat) (f:Obj×Nat):Prop where
 BB:BR F B.N0 (gs.size+c.toNat) j c (BM c gs.size φ) v wt sm false
 lock:LI gs.size φ m q
 Cs:Dr F B.N0 B.t0 gs.size j φ S t
 IQ:∀i g,gs[i]?=some g->Fg P F (i==0) (φ i) (r i) (bt i) g (loc (φ i) (S i))
 Bl:Bh t w gs.size S Sh
 Fy:Sh F.wg
 FZ:Sh F.mu
 Hd:Sh F.fd
 K5:F.mu≠F.wg
 HG:F.fd≠F.wg
 HJ:F.fd≠F.mu
 F0:Sh F.nx
 K6:F.nx≠F.wg
 K2:F.nx≠F.mu
 HN:F.fd≠F.nx
 MR:F.N<2305843009213693952
 F3:F.n<134217728
 mn:φ 0≠ .ph .Fs/\φ 0≠ .ph .Ge
 wg:F.WG w v wt sm
 Hf:F.MU w m q
 DD:F.FD w f
 blk:∀i,i<gs.size->bt i=false->(i=0/\φ 0=.ph .D6/\sm=0)∨((∃k sv,φ i=.ph (.lk k (.BL sv)))/\q=0)
 Fi:Eo F B.N0 gs.size j φ f
 le:Le B.E0 (S 0).E
 tape:w.tape=B.w0.tape
 os:EP B.w0.os w.os
 output:w.output=B.w0.output
variable{s':St}
section
variable {P:Program}{F:Fam}{B:Base}{gs:Array Goroutine}{w w':World}{t:Trace}{φ:Nat->Nx}{r:Nat->Rk}{bt:Nat->Bool}{S:Nat->St}{Sh:Nat->Prop}{j:Nat}{c:Bool}{v wt' sm v₁ wt₁ sm₁:Nat}{m m₁:M4}{q q₁:Nat}{f f₁:Obj×Nat}
theorem Inv.at_(h:Inv P F B gs w t φ r bt S Sh j c v wt' sm m q f)(d:Nat):Inv P F B gs (w.at d) t φ r bt S Sh j c v wt' sm m q f:=
 have K:Bh t (w.at d) gs.size S Sh:=by
  have:=h.Bl.mute (u:=#[]) (w':=w.at d) (g:=0) (by simp) (by simp) (by simp) rfl;simpa using this
 {h with Bl:=K}
theorem Inv.size(h:Inv P F B gs w t φ r bt S Sh j c v wt' sm m q f):gs.size=B.N0+j:=by have:=h.BB.size;omega
theorem Inv.EO(h:Inv P F B gs w t φ r bt S Sh j c v wt' sm m q f){i:Nat}(hi:i<gs.size):i=0∨(i≠0/\∃d,φ i=.gone d/\i<B.N0)∨∃k,k<j/\i=B.N0+k/\i≠0/\EL F k (φ i):=by
 have O:=h.size;have U:=h.BB.pos;rcases k4 i with h0 | h0;exact .inl h0
 rcases kC i B.N0 with h1 | h1
 .have:=h.BB.old i h0 h1;rw[GC (by omega) (by omega)] at this;cases K:φ i with
  | gone d=>exact .inr (.inl ⟨by omega,d,rfl,h1⟩)
  | ph p=>rw[K] at this;exact this.elim
 .have:=h.BB.work (i - B.N0) (by omega);rw[show B.N0+(i - B.N0)=i by omega,GC (by omega) (by omega)] at this;exact .inr (.inr ⟨i - B.N0,by omega,by omega,by omega,this⟩)
theorem Inv.main(h:Inv P F B gs w t φ r bt S Sh j c v wt' sm m q f):∃p,φ 0=.ph p/\Fam.B2 p=true/\((c=false/\Gc F.n j c p)∨(c=true/\Hz (.ph p))):=by
 have V:=h.size;cases K:c with
 | false=>
  have:=h.BB.main;rw[K,HA] at this;obtain⟨p,h1,O⟩:=this;exact⟨p,h1,by cases p<;>simp[Gc] at O<;>rfl,.inl ⟨rfl,O⟩⟩
 | true=>
  have:=h.BB.cls K;have Y:=h.BB.cj K;rw[K,show B.N0+F.n=gs.size by omega,Ic] at this;cases U:φ 0 with
  | gone d=>
   have:=h.BB.mode;rw[d5 K,K,show B.N0+F.n=gs.size by omega,Ic,U] at this;simp[Ct] at this
  | ph p=>rw[U] at this;exact⟨p,rfl,by cases p<;>simp[Hz] at this<;>rfl,.inr ⟨rfl,this⟩⟩
theorem H7(a b:LP->Nat)(N:Nat)(φ:Nat->Nx):Sg (λp=>a p+b p) N φ=Sg a N φ+Sg b N φ:=by
 unfold Sg
 induction N with
 | zero=>rfl
 | succ N K=>
  simp only[sumTo,K];have:BT (λp=>a p+b p) (φ N)=BT a (φ N)+BT b (φ N):=by
   cases φ N with
   | gone d=>rfl
   | ph p=>cases p<;>rfl
  omega
theorem Nm{a b:Nat->Nat}:∀{N M:Nat},N<=M->(∀i,i<N->a i<=b i)->sumTo N a<=sumTo M b
 | 0,_,_,_=>by simp[sumTo]
 | N+1,0,h,_=>by omega
 | N+1,M+1,h,K=>by
  rcases kC N M with q | q
  .have h1:sumTo (N+1) a<=sumTo M b:=Nm (by omega) K
   simp only[sumTo] at h1 ⊢;omega
  .obtain rfl:N=M:=by omega
   have h1:sumTo N a<=sumTo N b:=Nm (kG _) λi hi=>K i (by omega);have O:=K N (by omega);simp only[sumTo];omega
theorem Inv.small(h:Inv P F B gs w t φ r bt S Sh j c v wt' sm m q f):Ck m:=by
 have Y:=h.size;have hb:Sg (λp=>(pQ p+pV p)+pD p) gs.size φ<=sumTo (gs.size+c.toNat) λi=>cU (BM c gs.size φ i):=by
  refine Nm (by omega) λi hi=>?_;rcases k4 i with rfl | h0;(obtain⟨p,O,hm,_⟩:=h.main;rw[O];cases p<;>first | (simp[BT];done) | (simp[Fam.B2] at hm))
  .rw [GC (by omega) (by omega)];cases φ i with
   | gone d=>simp[BT]
   | ph p=>
    cases p<;>simp only[BT]<;>(try omega)
    rename_i k l;cases l<;>simp[pQ,pV,pD,cU]
 rw[H7,H7] at hb;have Z:=h.BB.cnt;have aa:=h.BB.Ot;obtain⟨ab,U,V⟩:=h.lock.ln;have ac:=h.F3;show m.w<134217728;cases K:m.s with
 | false=>have:=(U K).2.2.2.1;omega
 | true=>have:=(V K).2.2.2.2.1;omega
theorem Inv.go(h:Inv P F B gs w t φ r bt S Sh j c v wt' sm m q f){i:Nat}{es:Array Event}{x:Nx}{ρ:Rk}(hi:gs[i]?=some g)
  (ae:BR F B.N0 (gs.size+c.toNat) j c (BM c gs.size (upd φ i x)) v₁ wt₁ sm₁ false) (ag:LI gs.size (upd φ i x) m₁ q₁)
  (ah:Dr F B.N0 B.t0 gs.size j (upd φ i x) (upd S i s') (t++MemOp.ofEvents i g.frame.fn g.frame.place es))
  (ai:Fg P F (i==0) x ρ true g' (loc x s'))
  (hC:Bh (t++MemOp.ofEvents i g.frame.fn g.frame.place es) w' gs.size (upd S i s') Sh)
  (aj:F.WG w' v₁ wt₁ sm₁) (ak:F.MU w' m₁ q₁) (al:F.FD w' f₁)
  (am:sm₁≠0->sm=0->mayWake P g=true/\g'.status=.running) (an:q₁≠0->q=0->mayWake P g=true/\g'.status=.running)
  (ao:Eo F B.N0 gs.size j (upd φ i x) f₁)
  (ap:i=0->x≠ .ph .Fs/\x≠ .ph .Ge) (aq:i=0->Le (S 0).E s'.E) (ar:w'.tape=w.tape) (au:EP w.os w'.os) (av:w'.output=w.output):
  ∃O,Inv P F B ((gs.map (woken P g g' w')).setIfInBounds i g') w' (t++MemOp.ofEvents i g.frame.fn g.frame.place es) (upd φ i x) (upd r i ρ) O (upd S i s') Sh j c v₁ wt₁ sm₁ m₁ q₁ f₁:=by
 have aw:i<gs.size:=(f4.1 hi).1;have U:((gs.map (woken P g g' w')).setIfInBounds i g').size=gs.size:=by simp
 have ab:∀a,∃b',(a=i->b'=true)/\(a≠i->∀o,gs[a]?=some o->Fg P F (a==0) (φ a) (r a) b' (woken P g g' w' o) (loc (φ a) (S a))/\(bt a=true->b'=true)/\(mayWake P g=true->g'.status=.running->b'=true)):=by
  intro a;by_cases e:a=i;exact⟨true,λ_=>rfl,λq=>absurd e q⟩
  .cases K:gs[a]? with
   | none=>exact⟨true,λ_=>rfl,λ_ o q=>by cases q⟩
   | some o=>
    obtain⟨b',h1,V,Y⟩:=(h.IQ a o K).woken (g:=g) (g':=g') (w':=w');exact⟨b',λq=>absurd q e,λ_ o' q=>by cases q;exact⟨h1,V,Y⟩⟩
 let O:Nat->Bool:=λa=>Classical.choose (ab a);have hb:∀a,(a=i->O a=true)/\(a≠i->∀o,gs[a]?=some o->Fg P F (a==0) (φ a) (r a) (O a) (woken P g g' w' o) (loc (φ a) (S a))/\(bt a=true->O a=true)/\(mayWake P g=true->g'.status=.running->O a=true)):=λa=>lq (ab a);refine⟨O,by rw[U];exact ae,by rw[U];exact ag,by rw[U];exact ah,λa o K=>?_,by rw[U];exact hC,h.Fy,h.FZ,h.Hd,h.K5,h.HG,h.HJ,h.F0,h.K6,h.K2,h.HN,h.MR,h.F3,(by
  by_cases e:i=0;subst e;rw[upd_same];exact ap rfl
  .rw [upd_ne _ _ (kU e)];exact h.mn),aj,ak,al,λa aa h0=>?_,by rw[U];exact ao,λb o K=>?_,ar.trans h.tape,h.os.trans au,av.trans h.output⟩
 .by_cases e:a=i;subst e;rw[kD (by simpa using aw)] at K;obtain rfl:=d0 K;rw[upd_same,upd_same,upd_same,(hb a).1 rfl];exact ai;rw[f6 (kU e),lV] at K;obtain⟨o',ay,rfl⟩:=lg.1 K;rw[upd_ne _ _ e,upd_ne _ _ e,upd_ne _ _ e];exact((hb a).2 e o' ay).1
 .rw [U] at aa;have e:a≠i:=λe=>by have:=(hb a).1 e;rw[h0] at this;cases this
  let⟨_,k1,az⟩:=(hb a).2 e _ (kS aa);have ac:¬(mayWake P g=true/\g'.status=.running):=λ⟨x,y⟩=>by have:=az x y;rw[h0] at this;cases this
  have aA:bt a=false:=by
   cases Z:bt a with
   | false=>rfl
   | true=>have:=k1 Z;rw[h0] at this;cases this
  rcases h.blk a aa aA with⟨rfl,V,Y⟩ | ⟨⟨k,sv,V⟩,Y⟩;refine .inl ⟨rfl,by rw[upd_ne _ _ e];exact V,?_⟩;exact mY.1 λZ=>ac (am Z Y);refine .inr ⟨⟨k,sv,by rw[upd_ne _ _ e];exact V⟩,?_⟩;exact mY.1 λZ=>ac (an Z Y)
 .by_cases e:i=0;subst e;rw[upd_same];exact aq rfl b o (h.le b o K);rw[upd_ne _ _ (kU e)];exact h.le b o K
end
def Ou(P:Program)(F:Fam)(B:Base)(gs:Array Goroutine)(w:World)(t:Trace):Prop:=
 ∃q Sh g s,F1 P gs w t q Sh g s/\F.fin g s/\Le B.E0 s.E/\w.tape=B.w0.tape/\EP B.w0.os w.os/\w.output=B.w0.output
def Gf(P:Program)(F:Fam)(B:Base)(gs:Array Goroutine)(w:World)(sl:Option (Nat×Nat))(t:Trace)(i:Nat)(K:Mu):Prop:=
 ∃gs' w' O u,runT P (crowd gs w sl) i=(.next (crowd gs' w' O),u)/\
  ((∃φ r bt S Sh j c v wt' sm m q f,Inv P F B gs' w' (t++u) φ r bt S Sh j c v wt' sm m q f/\Mu.lt (mu F gs'.size φ f.2 m q r bt) K)∨Ou P F B gs' w' (t++u))
theorem LI.same{N:Nat}{φ:Nat->Nx}{m:M4}{q i:Nat}{y:Nx}(h:LI N φ m q)(hi:i<N)(h1:∀f,BT f (φ i)=BT f y∨(f≠pH/\f≠pN/\f≠pZ/\f≠pV/\f≠pT/\f≠pQ/\f≠pD/\f≠pX))(O:KW y m):LI N (upd φ i y) m q:=by
 have e:∀f,(f=pH∨f=pN∨f=pZ∨f=pV∨f=pT∨f=pQ∨f=pD∨f=pX)->Sg f N (upd φ i y)=Sg f N φ:=λf U=>Ma f hi (by
  rcases h1 f with q | ⟨a,b,c,d,e,f,g,h⟩;exact q
  .rcases U with q | q | q | q | q | q | q | q<;>contradiction)
 refine⟨by rw[e pH (by simp),e pN (by simp),e pZ (by simp),e pV (by simp),e pT (by simp),e pQ (by simp),e pD (by simp),e pX (by simp)];exact h.ln,λa V=>?_⟩;by_cases K:a=i;subst K;rw[upd_same];exact O;rw[upd_ne _ _ K];exact h.loc a V
section
variable {P:Program}{F:Fam}{B:Base}{gs:Array Goroutine}{w w':World}{sl:Option (Nat×Nat)}{t:Trace}{φ:Nat->Nx}{r:Nat->Rk}{bt:Nat->Bool}{S:Nat->St}{Sh:Nat->Prop}{j:Nat}{c:Bool}{v wt' sm v₁ wt₁ sm₁:Nat}{m m₁:M4}{q q₁:Nat}{f f₁:Obj×Nat}
theorem Inv.go'(h:Inv P F B gs w t φ r bt S Sh j c v wt' sm m q f){i:Nat}{es:Array Event}{x:Nx}{ρ:Rk}(hi:gs[i]?=some g)(O:stepG P (i==0) g w=.go g' w' es)
  (U:BR F B.N0 (gs.size+c.toNat) j c (BM c gs.size (upd φ i x)) v₁ wt₁ sm₁ false) (V:LI gs.size (upd φ i x) m₁ q₁)
  (Y:Dr F B.N0 B.t0 gs.size j (upd φ i x) (upd S i s') (t++MemOp.ofEvents i g.frame.fn g.frame.place es))
  (Z:Fg P F (i==0) x ρ true g' (loc x s'))
  (hC:Bh (t++MemOp.ofEvents i g.frame.fn g.frame.place es) w' gs.size (upd S i s') Sh)
  (aa:F.WG w' v₁ wt₁ sm₁) (ab:F.MU w' m₁ q₁) (ac:F.FD w' f₁)
  (ae:sm₁≠0->sm=0->mayWake P g=true/\g'.status=.running) (ag:q₁≠0->q=0->mayWake P g=true/\g'.status=.running)
  (ah:Eo F B.N0 gs.size j (upd φ i x) f₁)
  (ai:i=0->x≠ .ph .Fs/\x≠ .ph .Ge) (aj:i=0->Le (S 0).E s'.E) (ak:w'.tape=w.tape) (al:EP w.os w'.os) (am:w'.output=w.output)
  (hm:∀K,Mu.lt (mu F gs.size (upd φ i x) f₁.2 m₁ q₁ (upd r i ρ) K) (mu F gs.size φ f.2 m q r bt)):Gf P F B gs w sl t i (mu F gs.size φ f.2 m q r bt):=by
 let⟨K,an⟩:=h.go hi U V Y Z hC aa ab ac ae ag ah ai aj ak al am;refine⟨_,_,_,_,runT_crowd_go hi O,.inl ⟨_,_,_,_,_,_,_,_,_,_,_,_,_,an,?_⟩⟩;have ao:((gs.map (woken P g g' w')).setIfInBounds i g').size=gs.size:=by simp
 rw[ao];exact hm K
theorem Pa{k:Nat}{p:Ph}(hw:EL F k (.ph p))(K:late (.ph p)):Fam.BW p=true:=by
 cases p<;>simp only[EL] at hw<;>(try exact hw.elim)<;>first | rfl | exact K.elim
theorem Lq(a:Nat)(fn:FuncId)(pos:String):MemOp.ofEvents a fn pos #[]=#[]:=by rw[ofEvents_eq];simp
theorem Inv.own(h:Inv P F B gs w t φ r bt S Sh j c v wt' sm m q f){i:Nat}{es:Array Event}{p:Ph}{ρ:Rk}(hi:gs[i]?=some g)(K:φ i=.ph p)(aj:(i==0)=Fam.B2 p)
  (ak:stepG P (i==0) g w=.go g' w' es) (al:Jr P (i==0) (JQ (Stop P F p)) ρ g' s') (au:Fits s' w') (U:Fr (loc (.ph p) (S i)) w s' w') (V:∀e∈es,Ev (loc (.ph p) (S i)) w w' e) (av:loc (.ph p) (S i)=.quiet->s'=.quiet/\w'=w/\es=#[]) (aw:Rk.sub ρ (r i)):
  Gf P F B gs w sl t i (mu F gs.size φ f.2 m q r bt):=by
 have O:i<gs.size:=(f4.1 hi).1;have Y:upd φ i (.ph p)=φ:=by rw[← K];exact LF _ _
 have am:∀an,Mu.lt (mu F gs.size (upd φ i (.ph p)) f.2 m q (upd r i ρ) an) (mu F gs.size φ f.2 m q r bt):=λan=>QR O (λ_=>by rw[K]) (by rw[K]) aw;cases Z:Fam.BW p with
 | true=>
  have aa:loc (.ph p) (S i)=.quiet:=by simp[loc,FN,Z]
  obtain⟨rfl,rfl,rfl⟩:=av aa;have ao:upd S i (S i)=S:=LF _ _;refine h.go' hi ak (x:=.ph p) (ρ:=ρ) (s':=S i) (by rw[Y];exact h.BB) (by rw[Y];exact h.lock) ?_ (by rw[aa];exact .walk aj (λ_=>rfl) al) ?_ h.wg h.Hf h.DD (λa b=>absurd b a) (λa b=>absurd b a) (by rw[Y];exact h.Fi) (λe=>by subst e;rw[← K];exact h.mn) (λe=>by subst e;exact .refl _) rfl (.refl _) rfl am;rw[Y,ao,Lq];simpa using h.Cs;rw[ao,Lq];simpa using h.Bl
 | false=>
  have aa:loc (.ph p) (S i)=S i:=by simp[loc,FN,Z]
  rw[aa] at U V;have ay:loc (.ph p) s'=s':=by simp[loc,FN,Z]
  have ag:∀b₀,Sh b₀->∀b wr,Fl (S i) w w' b wr->b≠b₀:=by
   intro b₀ ab b wr az;have h1:=h.Bl.sh i O b₀ ab;have aH:=h.Bl.ED b₀ ab;rintro rfl;rcases az.2 with q | q | ⟨q,_⟩;exact q h1.1;omega;exact q h1.2
  have ah:∀b₀,Sh b₀->w'.heap[b₀]?=w.heap[b₀]? :=λb₀ ab=>U.keep b₀ (h.Bl.ED b₀ ab) (h.Bl.sh i O b₀ ab).1;have ap:∀k,k<j->i=B.N0+k->¬late (φ i):=by
   intro k ai e aq;rcases h.EO O with aI | ⟨_,d,hd,_⟩ | ⟨k',_,_,_,hw⟩;have:=h.BB.pos;omega;rw[K] at hd;cases hd;rw[K] at hw aq;rw[Pa hw aq] at Z;cases Z
  have aA:∀e∈es,e.loc≠ .mark .disable/\e.loc≠ .mark .enable:=by
   intro e he;have:=V e he;refine⟨λac=>?_,λac=>?_⟩<;>unfold Ev at this<;>rw[ac] at this<;>exact this
  refine h.go' (f₁:=f) hi ak (x:=.ph p) (ρ:=ρ) (s':=s') (by rw[Y];exact h.BB) (by rw[Y];exact h.lock) ?_ (by rw[ay];exact .walk aj (λe=>by rw[Z] at e;cases e) al) (h.Bl.own O au U V) ?_ ?_ ?_ (λa b=>absurd b a) (λa b=>absurd b a) ?_ (λe=>by subst e;rw[← K];exact h.mn) (λe=>by subst e;exact λb o aB=>U.ext b o aB) U.tape (.of U.os) U.output am
  .refine h.Cs.app O (by rw[K];exact deafBehind_still aA _) (λe he=>⟨λa b ae hb aC=>absurd aC ?_,λa ae hb=>absurd rfl (ag F.fd h.Hd F.fd a.write (I7 (V e he) ae hb)),?_⟩) (λh=>.inl (by rw[K];exact h)) (λh=>.inl (by rw[K] at h;exact h)) ?_ (λk ai aD e he a b ae hb hw=>?_) (λk ai e aa=>absurd (K▸aa) (ap k ai e));have:=I7 (V e he) ae hb;rintro(q | q | q);exact ag F.wg h.Fy b _ this q;exact ag F.mu h.FZ b _ this q;exact ag F.nx h.F0 b _ this q;have:=V e he;refine⟨λac=>?_,λac=>?_⟩<;>(unfold Ev at this;rw[ac] at this;exact this);rcases h.EO O with e | ⟨_,d,hd,_⟩ | ⟨k,_,e,_,_⟩;exact .inl (.inl e);rw[K] at hd;cases hd;exact .inl (.inr (by omega))
   .have aE:=I7 (V e he) ae hb;have aF:B.N0+k≠i:=λe=>ap k ai e.symm (e▸aD);have ar:B.N0+k<gs.size:=by have:=h.size;omega
    rcases aE.2 with y | y | ⟨_,y⟩;exact(h.Bl.hh i (B.N0+k) O ar (kU aF) b y).2
    .cases aG:(S (B.N0+k)).E b with
     | none=>rfl
     | some o=>have:=(h.Bl.fits _ ar).e b o aG;simp[kJ y] at this
    .rw [y] at hw;cases hw
  show w'.heap[F.wg]?=_;rw[ah _ h.Fy];exact h.wg;show w'.heap[F.mu]?=_;rw[ah _ h.FZ];exact h.Hf;refine⟨?_,?_⟩;show w'.heap[F.fd]?=_;rw[ah _ h.Hd];exact h.DD.1;show w'.heap[F.nx]?=_;rw[ah _ h.F0];exact h.DD.2;rw[Y];exact h.Fi
theorem Inv.slip(h:Inv P F B gs w t φ r bt S Sh j c v wt' sm m q f){i:Nat}(hi:gs[i]?=some g)(Y:g.status=.running){d U:Nat}(K:φ i=.gone d)(ai:r i=chain U)(ab:(i==0)=false)(ac:QuitsD P U d g):
  Gf P F B gs w sl t i (mu F gs.size φ f.2 m q r bt):=by
 have Z:i<gs.size:=(f4.1 hi).1;have aa:i≠0:=by simpa using ab
 cases U with
 | zero=>rw[ac.1] at Y;cases Y
 | succ U=>
  rcases ac with⟨aj,_⟩ | ⟨_,g',es,hm,ak,al⟩;rw[aj] at Y;cases Y
  have am:∀op∈MemOp.ofEvents i g.frame.fn g.frame.place es,op.act.touch?=none:=λop V=>by obtain⟨e,he,rfl⟩:=mem_ofEvents V;exact touch_mute (hm e he)
  have ae:∀A:Addr,∀e∈es,e.loc≠ .mark (.release A):=by
   intro A e he ag;have:=hm e he;obtain⟨loc,wr,ar⟩:=e;simp only at ag;subst ag;simp[Event.mute] at this
  have an:upd S i (S i)=S:=LF _ _;have ah:=h.BB.leave (i:=i) (d:=d) (d':=deafBehind d es) (by omega) (by rw[GC aa (by omega)];exact K);rw[Kt aa (by omega)] at ah;refine h.go' hi (by rw[ab];exact ak w) (x:=.gone (deafBehind d es)) (ρ:=chain U) (s':=S i) ah (h.lock.other Z (λk p e=>by rw[K] at e;cases e) (λk p e=>by cases e)) ?_ (.gone ab al) ?_ h.wg h.Hf h.DD (λa b=>absurd b a) (λa b=>absurd b a) ?_ (λe=>absurd e aa) (λe=>absurd e aa) rfl (.refl _) rfl λau=>QR Z (λ_=>by rw[K];rfl) (by rw[K];rfl) (by rw[ai];exact SI U w);refine h.Cs.app Z (by rw[K];rfl) (λe he=>⟨λa b O=>(by rw[touch_mute (hm e he)] at O;cases O),λa O=>(by rw[touch_mute (hm e he)] at O;cases O),ae _ e he,ae _ e he⟩) (λh=>h.elim) (λh=>by rw[K] at h;exact h.elim) (.inr λe he=>touch_mute (hm e he)) (λk ao ap e he a b O=>(by rw[touch_mute (hm e he)] at O;cases O)) (λk ao e ap=>.inl ⟨by rw[K];trivial,rfl,λρ aq=>?_⟩);exact aq.appOwn _ _ es λm e he=>.inl (touch_mute (hm e (Array.mem_of_getElem? he)));rw[an];exact h.Bl.mute (g:=i) (λop V=>by obtain⟨e,_,rfl⟩:=mem_ofEvents V;rfl) am (λop V=>by obtain⟨e,he,rfl⟩:=mem_ofEvents V;exact low_mute (hm e he) _) rfl;exact h.Fi.move Z (by rw[K];rfl) (λk p e=>by rw[K] at e;cases e) (λk p e=>by cases e) (λl e=>by cases e)
theorem Wz{p:Ph}{es:Array Event}(K:F.act p v wt' sm=some ((v₁,wt₁,sm₁),es,nx)):
  (∀q,nx=.ph q->Fam.B2 q=Fam.B2 p/\(Fam.BW q=true->p=.Fq∨Fam.BW p=true)/\(Fam.BW q=false->Fam.BW p=false/\p≠ .Fq)/\(∀k l,q≠ .lk k l)/\∀l,q≠ .B3 l)/\(sm₁≠0->sm=0->p=.D5)/\(∀d,nx=.gone d->Fam.B2 p=false/\Fam.BW p=true)/\
  (∀k l,p≠ .lk k l)/\Dz nx=1/\(Fam.B2 p=false->late nx->late (.ph p)∨p=.Fq)/\Dz (.ph p)=1/\nx≠ .ph .Fs/\nx≠ .ph .Ge:=by
 cases p<;>simp only[Fam.act] at K<;>(try (cases K;done))
 all_goals (try (split at K))<;>(try (cases K;done))<;>(try (split at K))
 all_goals cases K
 all_goals first
  | (simp[Fam.B2,Fam.BW,Dz,late];done)
  | (split<;>simp[Fam.B2,Fam.BW,Dz,late];done)
  | (simp[Fam.B2,Fam.BW,Dz,late];omega)
theorem BR.enabled{N0 N:Nat}{cl:Bool}(h:BR F N0 N j c φ v wt' sm cl){i:Nat}(hi:i<N){p:Ph}(K:φ i=.ph p)(h1:∀k,p≠ .Fo k)(ak:∀k,p≠ .En k)(al:p≠ .Fs)(am:∀an vs,p≠ .Eh an vs)(ao:p≠ .Ge)(ap:p=.D6->sm=1)(aq:p≠ .EN)(ar:∀k l,p≠ .lk k l)(au:∀l,p≠ .B3 l):
  ∃v' w' sm' es nx,F.act p v wt' sm=some ((v',w',sm'),es,nx):=by
 have hm:=h.mode;have az:=h.Ot;have aA:=h.F3;have O:=h.cnt;have Z:cU (φ i)<=sumTo N λa=>cU (φ a):=le_sumTo (f:=λa=>cU (φ a)) hi;have aa:cL (φ i)<=sumTo N λa=>cL (φ a):=le_sumTo (f:=λa=>cL (φ a)) hi;have ag:cS (φ i)<=sumTo N λa=>cS (φ a):=le_sumTo (f:=λa=>cS (φ a)) hi;rw[K] at Z aa ag;have av:wt'<=1:=by
  generalize (if c=true then φ (N0+F.n) else Nx.ph .Co)=y at hm
  cases y with
  | gone d=>simp only[Ct] at hm;omega
  | ph q=>cases q<;>simp only[Ct] at hm<;>(try exact hm.elim)<;>omega
 have ab:1<=(sumTo N λa=>cL (φ a))+(sumTo N λa=>cS (φ a))->v=0/\sm=0/\wt'=sumTo N λa=>cL (φ a):=by
  intro hh;generalize (if c=true then φ (N0+F.n) else Nx.ph .Co)=y at hm
  cases y with
  | gone d=>simp only[Ct] at hm;omega
  | ph q=>cases q<;>simp only[Ct] at hm<;>(try exact hm.elim)<;>omega
 have ac:∀x,φ i=.ph x->Hz (.ph x)->c=true/\(if c=true then φ (N0+F.n) else Nx.ph .Co)=.ph x:=by
  intro x V ah;rcases h.EO hi with rfl | ⟨a,b⟩ | ⟨k,ae,rfl⟩ | ⟨O,rfl⟩;obtain⟨q,U,Y⟩:=h.main;rw[V] at U;cases U;cases x<;>simp[Gc] at Y<;>exact ah.elim;have:=h.old i a b;rw[V] at this;exact this.elim;have:=h.work k ae;rw[V] at this;cases x<;>simp[EL] at this<;>exact ah.elim;exact⟨O,by rw[d5 O];exact V⟩
 cases p<;>simp only[Fam.act];exact absurd rfl (h1 _);exact⟨_,_,_,_,_,rfl⟩;exact⟨_,_,_,_,_,rfl⟩
 .simp only [cU] at Z;have:1<=v:=by
   have aB:1<=sumTo N λa=>cU (φ a):=Z;omega
  rw[d5 ⟨this,by omega,av⟩];exact⟨_,_,_,_,_,rfl⟩
 have aw:1<=sumTo N λa=>cL (φ a):=aa;have:=ab (by omega);rw[d5 ⟨this.1,by omega⟩];exact⟨_,_,_,_,_,rfl⟩;have aw:1<=sumTo N λa=>cL (φ a):=aa;have:=ab (by omega);rw[d5 ⟨this.1,by omega⟩];exact⟨_,_,_,_,_,rfl⟩;have aC:1<=sumTo N λa=>cS (φ a):=ag;have:=ab (by omega);rw[d5 this.2.1];exact⟨_,_,_,_,_,rfl⟩;exact⟨_,_,_,_,_,rfl⟩;let⟨ai,e⟩:=ac _ K trivial;rw[e] at hm;rw[d5 ⟨hm.2.2.2.2.2,hm.2.2.2.1⟩];exact⟨_,_,_,_,_,rfl⟩;let⟨ai,e⟩:=ac _ K trivial;rw[e] at hm;rw[d5 ⟨hm.2.2.2.2.2.1,hm.2.2.2.2.2.2,hm.2.2.2.1⟩];split<;>exact⟨_,_,_,_,_,rfl⟩;exact⟨_,_,_,_,_,rfl⟩;rw[d5 (ap rfl)];exact⟨_,_,_,_,_,rfl⟩;let⟨ai,e⟩:=ac _ K trivial;rw[e] at hm;rw[d5 ⟨hm.2.2.2.2.1,hm.2.2.2.1⟩];exact⟨_,_,_,_,_,rfl⟩;exact⟨_,_,_,_,_,rfl⟩;exact absurd rfl aq;exact absurd rfl ao;exact⟨_,_,_,_,_,rfl⟩
 .have ay:c=false/\v<=j/\j<F.n:=by
   rcases h.EO hi with rfl | ⟨a,b⟩ | ⟨k,ae,rfl⟩ | ⟨O,rfl⟩;obtain⟨q,U,Y⟩:=h.main;rw[K] at U;cases U;have aj:=h.Ip;rw[K] at aj;exact⟨Y.2.2,by simpa [pend] using aj,Y.2.1⟩;have:=h.old i a b;rw[K] at this;exact this.elim;have:=h.work k ae;rw[K] at this;exact this.elim;have:=h.cls O;rw[K] at this;exact this.elim
  rw[ay.1] at hm;simp only[kV,lE,Ct] at hm;rw[d5 ⟨by omega,hm.2.2.2.1⟩];exact⟨_,_,_,_,_,rfl⟩
 exact⟨_,_,_,_,_,rfl⟩;exact⟨_,_,_,_,_,rfl⟩;exact absurd rfl (ak _);exact absurd rfl al;exact absurd rfl (am _ _)
 all_goals first | exact⟨_,_,_,_,_,rfl⟩ | exact absurd rfl (ar _ _) | exact absurd rfl (au _)
end
variable{l:LP}{s₀:St}
section
variable {P:Program}{F:Fam}{B:Base}{gs:Array Goroutine}{w w':World}{sl:Option (Nat×Nat)}{t:Trace}{φ:Nat->Nx}{r:Nat->Rk}{bt:Nat->Bool}{S:Nat->St}{Sh:Nat->Prop}{j:Nat}{c:Bool}{v wt' sm v₁ wt₁ sm₁:Nat}{m m₁:M4}{q q₁:Nat}{f f₁:Obj×Nat}
theorem Tq(w:World)(v wt sm:Nat):(F.put w v wt sm).heap.size=w.heap.size:=by simp[Fam.put]
theorem Mm(w:World)(v wt sm:Nat){b:Nat}(h:b≠F.wg):(F.put w v wt sm).heap[b]?=w.heap[b]? :=by simp[Fam.put,f6 (kU h)]
theorem Wp(w:World)(v wt sm:Nat)(h:F.wg<w.heap.size):F.WG (F.put w v wt sm) v wt sm:=by simp[Fam.WG,Fam.put,h]
theorem Sm(w:World)(m:M4)(q:Nat):(F.Ek w m q).heap.size=w.heap.size:=by simp[Fam.Ek]
theorem L3(w:World)(m:M4)(q:Nat){b:Nat}(h:b≠F.mu):(F.Ek w m q).heap[b]?=w.heap[b]? :=by simp[Fam.Ek,f6 (kU h)]
theorem Uq(w:World)(m:M4)(q:Nat)(h:F.mu<w.heap.size):F.MU (F.Ek w m q) m q:=by simp[Fam.MU,Fam.Ek,h]
theorem SA(w:World)(f:Obj):(F.Gm w f).heap.size=w.heap.size:=by simp[Fam.Gm]
theorem L8(w:World)(f:Obj){b:Nat}(h:b≠F.fd):(F.Gm w f).heap[b]?=w.heap[b]? :=by simp[Fam.Gm,f6 (kU h)]
theorem Uy(w:World)(f:Obj)(h:F.fd<w.heap.size):F.FO (F.Gm w f) f:=by simp[Fam.FO,Fam.Gm,h]
theorem SU(w:World)(c:Nat):(F.FV w c).heap.size=w.heap.size:=by simp[Fam.FV]
theorem Md(w:World)(c:Nat){b:Nat}(h:b≠F.nx):(F.FV w c).heap[b]?=w.heap[b]? :=by simp[Fam.FV,f6 (kU h)]
theorem U8(w:World)(c:Nat)(h:F.nx<w.heap.size):F.NX (F.FV w c) c:=by simp[Fam.NX,Fam.FV,h]
theorem Kw{x:Nx}(h:ins x):∃k p,x=.ph (.lk k p):=by
 cases x with
 | gone d=>exact h.elim
 | ph p=>cases p<;>first | exact⟨_,_,rfl⟩ | exact h.elim
theorem QH{k:Nat}{p:LP}(h:ins (.ph (.lk k p))):pH p=1:=by cases p<;>first | rfl | exact h.elim
theorem LI.one{N:Nat}{φ:Nat->Nx}{m:M4}{q a b k k':Nat}{p K:LP}(h:LI N φ m q)(O:a<N)(hb:b<N)(h1:φ a=.ph (.lk k p))(U:φ b=.ph (.lk k' K))(V:pH p=1)(Y:pH K=1):a=b:=by
 apply m0;intro Z;have aa:Sg pH N φ=m.l.toNat:=h.ln.1;have e2:=sumTo_upd φ (.gone 0) (BT pH) O;have ab:=le_sumTo (f:=λi=>BT pH (upd φ a (.gone 0) i)) hb;have ac:BT pH (φ a)=1:=by rw[h1];exact V
 have ae:BT pH (upd φ a (.gone 0) b)=1:=by rw[upd_ne _ _ (kU Z),U];exact Y
 have ag:BT pH (.gone 0)=0:=rfl;have ah:=ma m.l;simp only[ae] at ab;rw[ac,ag] at e2;unfold Sg at aa;omega
theorem PD{m m':M4}{q q' k:Nat}{es:Array Event}{o:Option LP}(K:(m',q',es,o)∈F.Bn l m q):(∀p,o=some p->ins (.ph (.lk k p))->ins (.ph (.lk k l))∨(l=.Hb/\es=#[Fam.BJ (.acquire F.uA)]))/\(ins (.ph (.lk k l))->(∃p,o=some p/\ins (.ph (.lk k p)))∨(l=.GO/\es=#[Fam.BJ (.releaseMerge F.uA)])):=by
 cases l<;>simp only[Fam.Bn,d6,d9,kB] at K
 case Fp=>split at K<;>simp only[d6,d9] at K<;>obtain⟨-,-,-,rfl⟩:=K<;>simp[ins]
 case BC sv aw it old=>
  simp only[Fam.DO,kM] at K;rcases K with K | K;split at K;split at K;simp only[d6] at K;split at K<;>simp only[d9] at K<;>obtain⟨-,-,-,rfl⟩:=K<;>simp[ins];simp only[d6,d9] at K;obtain⟨-,-,-,rfl⟩:=K;simp[ins];simp at K;split at K;split at K;simp only[d6,d9] at K;obtain⟨-,-,-,rfl⟩:=K;simp[ins];simp only[f7,kB,k5,d9] at K;rcases K with⟨-,-,-,rfl⟩ | ⟨-,-,-,rfl⟩<;>simp[ins];simp only[d6,d9] at K;obtain⟨-,-,-,rfl⟩:=K;simp[ins]
 case Ei=>
  simp only[f7,kB,k5,d9] at K;rcases K with⟨-,-,-,rfl⟩ | ⟨-,-,-,rfl⟩<;>simp[ins]
 case BL sv=>obtain⟨-,-,-,rfl⟩:=K;cases sv<;>simp[ins]
 case CS sv=>split at K<;>simp only[d6,d9] at K<;>obtain⟨-,-,-,rfl⟩:=K<;>simp[ins]
 case Hb=>obtain⟨-,-,rfl,rfl⟩:=K;exact⟨λ_ _ _=>.inr ⟨V,V⟩,λh=>h.elim⟩
 case GO=>obtain⟨-,-,rfl,rfl⟩:=K;exact⟨λp e h=>(by cases e;exact h.elim),λ_=>.inr ⟨V,V⟩⟩
 case FW=>
  obtain⟨-,-,-,rfl⟩:=K;refine⟨λp e h=>?_,λh=>h.elim⟩;cases e;split at h;exact h.elim;split at h<;>exact h.elim
 case Ft=>obtain⟨-,-,-,rfl⟩:=K;refine⟨λp e h=>?_,λh=>h.elim⟩;cases e;split at h<;>exact h.elim
 case CY old=>split at K<;>simp only[d6,d9] at K<;>obtain⟨-,-,-,rfl⟩:=K<;>simp[ins]
 all_goals (obtain⟨-,-,-,rfl⟩:=K;simp[ins])
theorem Wg{p:Ph}{s:St}(h:p≠ .Fq):Fam.HL p s=s:=by cases p<;>first | rfl | exact absurd rfl h
theorem Bh.heap{t:Trace}{w w':World}{N:Nat}{S:Nat->St}{Sh:Nat->Prop}(h:Bh t w N S Sh)(hw:w'.heap=w.heap):Bh t w' N S Sh:=by
 have:=h.mute (u:=#[]) (w':=w') (g:=0) (by simp) (by simp) (by simp) hw;simpa using this
theorem Inv.act(h:Inv P F B gs w t φ r bt S Sh j c v wt' sm m q f){i:Nat}(hi:gs[i]?=some g){p:Ph}(K:φ i=.ph p)(Y:(i==0)=Fam.B2 p)(aF:BA (loc (.ph p) (S i)) s₀)(ac:Stop P F p g s₀)
  {es:Array Event}{nx:Nx}(O:F.act p v wt' sm=some ((v₁,wt₁,sm₁),es,nx)):Gf P F B gs w sl t i (mu F gs.size φ f.2 m q r bt):=by
 have U:i<gs.size:=(f4.1 hi).1;let⟨g',aG,aH,ap⟩:=ac.law.act _ _ _ _ _ _ _ _ O;let⟨n1,aI,aJ,ae,aK,aL,aM,aN⟩:=Wz O;let⟨ab,e2,aO⟩:=WM p O;have aq:=h.Bl.ED F.wg h.Fy;have bb:=h.size;have be:=h.BB.pos;have aP:i≠0->Fam.B2 p=false:=λe=>by rw[← Y];simp[e]
 have ar:(p=.Gq∨∃j,p=.Gj j)->i=0:=by
  intro V;have:Fam.B2 p=true:=by rcases V with rfl | ⟨j,rfl⟩<;>rfl
  rw[this] at Y;simpa using Y
 have au:i=0∨B.N0<=i:=by
  rcases h.EO U with e | ⟨_,d,hd,_⟩ | ⟨k,_,e,_,_⟩;exact .inl e;rw[K] at hd;cases hd;exact .inr (by omega)
 let s':St:=if Fam.BW p=true then S i else s₀
 have ag:Fam.BW p=true->s'=S i:=λe=>by simp[s',e]
 have Z:Fam.BW p=false->s'=s₀:=λe=>by simp[s',e]
 have av:Fam.BW p=false->BA (S i) s₀:=λe=>by simpa [loc,FN,e] using aF
 have hle:Le (S i).E s'.E:=by
  cases e:Fam.BW p with
  | true=>rw[ag e];exact .refl _
  | false=>rw[Z e];exact λb o ah=>(av e).ext b o ah
 have aw:Bh t w gs.size (upd S i s') Sh:=by
  cases e:Fam.BW p with
  | true=>rw[ag e,LF];exact h.Bl
  | false=>rw[Z e];exact h.Bl.ghost U (av e)
 have aQ:Bh (t++MemOp.ofEvents i g.frame.fn g.frame.place es) (F.put w v₁ wt₁ sm₁) gs.size (upd S i s') Sh:=by
  refine aw.ext (h.Cs.noRace h.Bl.clean U au λe he=>(ab e he).toS ar) (λop ai a aj b hb=>?_) (λop ai=>?_) (Tq ..) (λb hb=>Mm _ _ _ _ λe=>hb (e▸h.Fy));obtain⟨e,he,rfl⟩:=mem_ofEvents ai;let⟨⟨b',aa,ak⟩,_⟩:=(ab e he).1 a aj;rw[hb] at aa;cases aa;rcases ak with rfl | rfl | rfl;exact h.Fy;exact h.FZ;exact h.F0;obtain⟨e,he,rfl⟩:=mem_ofEvents ai;exact aO e he _ aq
 have aR:stepG P (i==0) g w=.go g' (F.put w v₁ wt₁ sm₁) es:=by rw[Y];exact aG w h.wg
 have aS:BR F B.N0 (gs.size+c.toNat) j c (BM c gs.size (upd φ i nx)) v₁ wt₁ sm₁ false:=by
  by_cases e:i=0
  .subst e;cases c with
   | false=>
    have:=h.BB.act (i:=0) (by omega) (by rw[HA];exact K) O;rw[HA] at this;rw[HA];exact this
   | true=>
    have:=h.BB.act (i:=gs.size) (by simp) (by rw[Ic];exact K) O
    rwa[To (by omega)] at this
  .have:=h.BB.act (i:=i) (by omega) (by rw[GC e (by omega)];exact K) O
   rwa[Kt e (by omega)] at this
 have aT:Dr F B.N0 B.t0 gs.size j (upd φ i nx) (upd S i s') (t++MemOp.ofEvents i g.frame.fn g.frame.place es):=by
  refine h.Cs.app U (by rw[K];exact e2) (λe he=>(ab e he).keep ar h.HG h.HJ h.HN) (λal=>by let⟨k,l,e⟩:=Kw al;exact((n1 _ e).2.2.2.1 k l rfl).elim) (λal=>by let⟨k,l,e⟩:=Kw al;rw[K] at e;exact(ae k l (Nx.ph.inj e)).elim) (.inl au) (λk aU ay e he a b aj hb hw=>?_) (λk aU e ay=>?_)
  .let⟨⟨b',aa,ak⟩,_⟩:=(ab e he).1 a aj;rw[hb] at aa;cases aa;have am:B.N0+k<gs.size:=by omega
   rcases ak with rfl | rfl | rfl;exact(h.Bl.sh _ am _ h.Fy).2;exact(h.Bl.sh _ am _ h.FZ).2;exact(h.Bl.sh _ am _ h.F0).2
  .have az:i≠0:=by omega
   have aA:EL F k (.ph p):=by
    rcases h.EO U with aV | ⟨_,d,hd,_⟩ | ⟨k',_,bf,_,hw⟩;exact absurd aV az;rw[K] at hd;cases hd
    .obtain rfl:k'=k:=by omega
     rwa[K] at hw
   rcases aL (aP az) ay with an | rfl;refine .inl ⟨by rw[K];exact an,by rw[ag (Pa aA an)],λρ ao=>?_⟩;refine ao.appOwn _ _ es λm e he=>?_;rw[h.Cs.deaf _ U,K];exact TP p O aA an m e he
   .refine .inr ⟨t.size,h.Cs.JK,?_,?_⟩;simp only[Fam.act] at O;cases O;exact .new (by rw[h.Cs.deaf _ U,K];rfl) _ _
    .simp only [Fam.act] at O;cases O;rw[Z rfl];intro b hb x a aB aW hw;have aX:MemOp.ofEvents i g.frame.fn g.frame.place #[Fam.BJ (.releaseMerge F.sA)]=#[{g:=i,fn:=g.frame.fn,pos:=g.frame.place,act:=.mark (.releaseMerge F.sA)}]:=by rw[ofEvents_eq];simp[Fam.BJ,MemAct.ofEvent]
     rw[aX] at aB ⊢;let⟨op,ah,aC⟩:=touch_of aB;rcases getElem?_append_cases ah with⟨_,aY⟩ | ⟨_,aD⟩
     .have aZ:=aw.kE i U b (by rw[upd_same,Z rfl];exact hb) x a (by rw[touchAt_of aY];exact aC) aW hw;have a2:(t++ #[({g:=i,fn:=g.frame.fn,pos:=g.frame.place,act:=.mark (.releaseMerge F.sA)}:MemOp)])[t.size]?=some {g:=i,fn:=g.frame.fn,pos:=g.frame.place,act:=.mark (.releaseMerge F.sA)}:=by simp
      exact .inr (aZ.hb_new (kG _) a2 rfl)
     .simp at aD;subst aD;cases aC
 have a3:Eo F B.N0 gs.size j (upd φ i nx) f:=h.Fi.move U (by rw[K];exact aK.trans aM.symm) (λk l e=>by rw[K] at e;exact(ae k l (Nx.ph.inj e)).elim) (λk l e=>((n1 _ e).2.2.2.1 k l rfl).elim) (λl e=>((n1 _ e).2.2.2.2 l rfl).elim);have a4:LI gs.size (upd φ i nx) m q:=h.lock.other U (λk l e=>ae k l (by rw[K] at e;exact Nx.ph.inj e)) (λk l e=>by subst e;exact(n1 _ rfl).2.2.2.1 k l rfl);have a5:∀q,nx=.ph q->loc (.ph q) s'=Fam.HL p s₀:=by
  intro q e;let⟨_,aE,a6,_⟩:=n1 q e;cases V:Fam.BW q with
  | true=>
   have:loc (.ph q) s'=.quiet:=by simp[loc,FN,V]
   rw[this];rcases aE V with rfl | e;rfl;rw[ac.law.quiet e];cases p<;>rfl
  | false=>
   let⟨a1,a7⟩:=a6 V;rw[Wg a7,Z a1];simp[loc,FN,V]
 have fin:∀(ρ:Rk),Fg P F (i==0) nx ρ true g' (loc nx s')->Gf P F B gs w sl t i (mu F gs.size φ f.2 m q r bt):=λρ a8=>
  h.go' (f₁:=f) hi aR aS a4 aT a8 aQ (Wp _ _ _ _ aq) (by show(F.put w v₁ wt₁ sm₁).heap[F.mu]?=_;rw[Mm _ _ _ _ h.K5];exact h.Hf) ⟨by show(F.put w v₁ wt₁ sm₁).heap[F.fd]?=_;rw[Mm _ _ _ _ h.HG];exact h.DD.1,by show(F.put w v₁ wt₁ sm₁).heap[F.nx]?=_;rw[Mm _ _ _ _ h.K6];exact h.DD.2⟩
   (λa b=>⟨ac.law.GK (.inl (aI a b)),aH⟩) (λa b=>absurd b a) a3 (λ_=>aN) (λe=>by subst e;exact hle) rfl (.refl _) rfl λbg=>QD U (by rw[K];exact Wr O)
 cases nx with
 | ph q=>
  obtain⟨ρ,ao⟩:=ap;refine fin ρ ?_;let⟨a9,aE,_,_⟩:=n1 q rfl;refine .walk (by rw[Y,a9]) (λV=>by simp[loc,FN,V]) ?_;rw[a5 q rfl,Y];exact ao
 | gone d=>
  obtain⟨ba,V⟩:=ap;exact fin (chain ba) (.gone (by rw[Y];exact(aJ d rfl).1) V)
theorem Wc{m m':M4}{q q':Nat}{es:Array Event}{o:Option LP}(K:(m',q',es,o)∈F.Bn l m q):q'<=q∨∃b,l=.Dx b:=by
 cases l<;>simp only[Fam.Bn,d6,d9,kB] at K
 case Dx b=>exact .inr ⟨b,rfl⟩
 case Fp=>split at K<;>simp only[d6,d9] at K<;>exact .inl (by omega)
 case BC sv aw it old=>
  simp only[Fam.DO,kM] at K;left;rcases K with K | K;split at K;split at K;simp only[d6] at K;split at K<;>simp only[d9] at K<;>omega;simp only[d6,d9] at K;omega;simp at K;split at K;split at K;simp only[d6,d9] at K;omega;simp only[f7,kB,k5,d9] at K;rcases K with K | K<;>omega;simp only[d6,d9] at K;omega
 case Ei=>
  simp only[f7,kB,k5,d9] at K;left;rcases K with K | K<;>omega
 case CS sv=>split at K<;>simp only[d6,d9] at K<;>exact .inl (by omega)
 case CY old=>split at K<;>simp only[d6,d9] at K<;>exact .inl (by omega)
 all_goals exact .inl (by omega)
theorem TT{m m':M4}{q q':Nat}{es:Array Event}{o:Option LP}(K:(m',q',es,o)∈F.Bn l m q):(∀p,o=some p->EC p->EC l)/\(o=none->EC l):=by
 cases l<;>simp only[Fam.Bn,d6,d9,kB] at K
 case Fp=>split at K<;>simp only[d6,d9] at K<;>obtain⟨-,-,-,rfl⟩:=K<;>simp[EC]
 case BC sv aw it old=>
  simp only[Fam.DO,kM] at K;rcases K with K | K;split at K;split at K;simp only[d6] at K;split at K<;>simp only[d9] at K<;>obtain⟨-,-,-,rfl⟩:=K<;>simp[EC];simp only[d6,d9] at K;obtain⟨-,-,-,rfl⟩:=K;simp[EC];simp at K;split at K;split at K;simp only[d6,d9] at K;obtain⟨-,-,-,rfl⟩:=K;simp[EC];simp only[f7,kB,k5,d9] at K;rcases K with⟨-,-,-,rfl⟩ | ⟨-,-,-,rfl⟩<;>simp[EC];simp only[d6,d9] at K;obtain⟨-,-,-,rfl⟩:=K;simp[EC]
 case Ei=>
  simp only[f7,kB,k5,d9] at K;rcases K with⟨-,-,-,rfl⟩ | ⟨-,-,-,rfl⟩<;>simp[EC]
 case BL sv=>obtain⟨-,-,-,rfl⟩:=K;cases sv<;>simp[EC]
 case CS sv=>split at K<;>simp only[d6,d9] at K<;>obtain⟨-,-,-,rfl⟩:=K<;>simp[EC]
 all_goals first
  | (obtain⟨-,-,-,rfl⟩:=K;simp[EC];done)
  | (exact⟨λ_ _ _=>trivial,λ_=>trivial⟩)
theorem Inv.Bn(h:Inv P F B gs w t φ r bt S Sh j c v wt' sm m q f){i:Nat}(hi:gs[i]?=some g){k:Nat}(K:φ i=.ph (.lk k l))(aF:l≠ .DF)(ah:(i==0)=false)(aG:BA (S i) s₀)(au:Stop P F (.lk k l) g s₀)
  (aH:∀sv,l=.BL sv->q≠0):Gf P F B gs w sl t i (mu F gs.size φ f.2 m q r bt):=by
 have O:i<gs.size:=(f4.1 hi).1;have ak:=h.lock.ok O K h.small aH;obtain⟨m',q',es,o,g',ab,V,aI,U,aJ,aK⟩:=au.law.lk k l rfl aF w m q h.Hf ak;let⟨ai,e2,aL⟩:=Us V;have av:=h.Bl.ED F.mu h.FZ;have be:=h.size;have bf:=h.BB.pos;have ac:i≠0:=by simpa using ah
 obtain⟨kw,aM,aw,_,bg⟩:∃k',k'<j/\i=B.N0+k'/\i≠0/\EL F k' (φ i):=by
  rcases h.EO O with e | ⟨_,d,hd,_⟩ | e;exact absurd e ac;rw[K] at hd;cases hd;exact e
 have aN:Bh t w gs.size (upd S i s₀) Sh:=h.Bl.ghost O aG;have aO:Bh (t++MemOp.ofEvents i g.frame.fn g.frame.place es) ab gs.size (upd S i s₀) Sh:=by
  have:Bh (t++MemOp.ofEvents i g.frame.fn g.frame.place es) (F.Ek w m' q') gs.size (upd S i s₀) Sh:=by
   refine aN.ext (h.Cs.noRace h.Bl.clean O (.inr (by omega)) λe he=>(ai e he).toS (λx=>x.elim)) (λop aa a al b hb=>?_) (λop aa=>?_) (Sm ..) (λb hb=>L3 _ _ _ λe=>hb (e▸h.FZ));obtain⟨e,he,rfl⟩:=mem_ofEvents aa;let⟨⟨b',ae,am⟩,_⟩:=(ai e he).1 a al;rw[hb] at ae;cases ae;rcases am with rfl | rfl | rfl;exact h.Fy;exact h.FZ;exact h.F0;obtain⟨e,he,rfl⟩:=mem_ofEvents aa;exact aL e he _ av
  exact this.heap U.1
 have aP:cU (.ph (Fam.Cc k o))=1/\cL (.ph (Fam.Cc k o))=0/\cS (.ph (Fam.Cc k o))=0/\EL F kw (.ph (Fam.Cc k o))/\(∀a,Nx.ph (Fam.Cc k o)≠ .ph (.Fo a))/\Fam.B2 (Fam.Cc k o)=false/\Fam.BW (Fam.Cc k o)=false/\¬late (.ph (Fam.Cc k o)):=by
  cases o with
  | none=>exact⟨rfl,rfl,rfl,trivial,by simp[Fam.Cc],rfl,rfl,λx=>x⟩
  | some p=>exact⟨rfl,rfl,rfl,trivial,by simp[Fam.Cc],rfl,rfl,λx=>x⟩
 obtain⟨aQ,x2,aR,aS,aT,aU,ay,aV⟩:=aP;have aW:BR F B.N0 (gs.size+c.toNat) j c (BM c gs.size (upd φ i (.ph (Fam.Cc k o)))) v wt' sm false:=by
  have aj:BM c gs.size φ (B.N0+kw)=.ph (.lk k l):=by rw[← aw,GC ac (by omega)];exact K
  have:=h.BB.Gl (v':=v) (wt':=wt') (sm':=sm) (cl':=false) aM (x:=.ph (Fam.Cc k o)) aS (λa=>by rw[aj];simp) aT (by rw[aj,aQ];rfl) λL S' az aA=>by
   rw[aj,x2] at az;rw[aj,aR] at aA;have aX:L=_:=az;have aY:S'=_:=aA;rw[aX,aY];exact h.BB.mode
  rwa[← aw,Kt ac (by omega)] at this
 have aB:∀mk:Mark,MemOp.ofEvents i g.frame.fn g.frame.place #[Fam.BJ mk]=#[{g:=i,fn:=g.frame.fn,pos:=g.frame.place,act:=.mark mk}]:=λmk=>by rw[ofEvents_eq];simp[Fam.BJ,MemAct.ofEvent]
 have aZ:ins (.ph (Fam.Cc k o))->ins (φ i)∨∀y a,touchAt t y=some a->BK a.loc=some F.fd->Knows (t++MemOp.ofEvents i g.frame.fn g.frame.place es) i y:=by
  intro ag;cases o with
  | none=>exact ag.elim
  | some p=>
   rcases(PD (k:=k) V).1 p rfl ag with an | ⟨rfl,rfl⟩;left;rw[K];exact an
   .right;intro y a ao hb;rcases h.Cs.K0 y a ao hb with z | ⟨a2,k1,Y,ap,a3⟩ | ⟨bh,k1,Y,ap⟩;exact(z i O (.inr (by omega))).app _
    .rw [aB];have aq:=lt_of_act? Y;have Z:(t++ #[({g:=i,fn:=g.frame.fn,pos:=g.frame.place,act:=.mark (.acquire F.uA)}:MemOp)])[t.size]?=some {g:=i,fn:=g.frame.fn,pos:=g.frame.place,act:=.mark (.acquire F.uA)}:=by simp
     have a4:∀x,B.t0<=x->(t++ #[({g:=i,fn:=g.frame.fn,pos:=g.frame.place,act:=.mark (.acquire F.uA)}:MemOp)]).act? x≠some (.mark (.release F.uA)):=I2 h.Cs.KF λop aa e=>by simp at aa;subst aa;cases e
     have hd:Deaf t i=0:=by rw[h.Cs.deaf i O,K];rfl
     have a5:HappensBefore (t++ #[({g:=i,fn:=g.frame.fn,pos:=g.frame.place,act:=.mark (.acquire F.uA)}:MemOp)]) a2 t.size:=.single (.inr ⟨.marked aq (.inr (by rw[act?_old aq];exact Y)) (by rw[act?_of Z]) λz h1 bi=>a4 z (by omega),(heard_old aq).2 ap,⟨i,by simp[Trace.g?,Z],by rw[deaf_old (kG _)];exact hd⟩⟩);exact⟨t.size,_,Z,rfl,.inr ((a3.app _).hb a5)⟩
    .let⟨k',l',e⟩:=Kw Y;have:=h.lock.one O k1 K e rfl (QH (by rw[← e];exact Y));subst this;exact ap.app _
 have a6:ins (φ i)->ins (.ph (Fam.Cc k o))∨∃p,B.t0<=p/\(t++MemOp.ofEvents i g.frame.fn g.frame.place es).act? p=some (.mark (.releaseMerge F.uA))/\(t++MemOp.ofEvents i g.frame.fn g.frame.place es).heard p/\∀y,Knows t i y->Before (t++MemOp.ofEvents i g.frame.fn g.frame.place es) y p:=by
  intro ag;rw[K] at ag;rcases(PD (k:=k) V).2 ag with⟨p,rfl,an⟩ | ⟨rfl,rfl⟩;exact .inl an
  .right;rw[aB];have Z:(t++ #[({g:=i,fn:=g.frame.fn,pos:=g.frame.place,act:=.mark (.releaseMerge F.uA)}:MemOp)])[t.size]?=some {g:=i,fn:=g.frame.fn,pos:=g.frame.place,act:=.mark (.releaseMerge F.uA)}:=by simp
   have hd:Deaf t i=0:=by rw[h.Cs.deaf i O,K];rfl
   exact⟨t.size,h.Cs.JK,by rw[act?_of Z],⟨i,by simp[Trace.g?,Z],by rw[deaf_old (kG _)];exact hd⟩,λy ao=>.inr (ao.hb_new (kG _) Z rfl)⟩
 have a7:Dr F B.N0 B.t0 gs.size j (upd φ i (.ph (Fam.Cc k o))) (upd S i s₀) (t++MemOp.ofEvents i g.frame.fn g.frame.place es):=by
  refine h.Cs.app O (by rw[K];rw[show D9 (.ph (.lk k l))=dl l from rfl,e2];cases o<;>rfl) (λe he=>(ai e he).keep (λx=>x.elim) h.HG h.HJ h.HN) aZ a6 (.inl (.inr (by omega))) (λk' a8 aC e he a b al hb hw=>?_) (λk' a8 e aC=>absurd aC aV);let⟨⟨b',ae,am⟩,_⟩:=(ai e he).1 a al;rw[hb] at ae;cases ae;have ar:B.N0+k'<gs.size:=by omega
  rcases am with rfl | rfl | rfl;exact(h.Bl.sh _ ar _ h.Fy).2;exact(h.Bl.sh _ ar _ h.FZ).2;exact(h.Bl.sh _ ar _ h.F0).2
 obtain⟨ρ,a9⟩:=aK;have ba:loc (.ph (Fam.Cc k o)) s₀=s₀:=by simp[loc,FN,ay]
 refine h.go' (f₁:=f) hi (by rw[ah];exact aI) aW (h.lock.step O K h.small ak V) a7 (ρ:=ρ) (by rw[ba];exact .walk (by rw[ah,aU]) (λe=>by rw[ay] at e;cases e) (by rw[ah];exact a9)) aO ?_ ?_ ?_ (λa b=>absurd b a) (λa b=>?_) (h.Fi.move O (by rw[K];cases o<;>rfl) (λY aD e aE=>?_) (λY aD e=>?_) (λaD e=>?_)) (λe=>absurd e ac) (λe=>absurd e ac) (U.2.1) U.2.2.1 U.2.2.2 λbj=>Xg O K V ak;show ab.heap[F.wg]?=_;rw[U.1,L3 _ _ _ (kU h.K5)];exact h.wg;show ab.heap[F.mu]?=_;rw[U.1];exact Uq _ _ _ av;refine⟨?_,?_⟩;show ab.heap[F.fd]?=_;rw[U.1,L3 _ _ _ h.HJ];exact h.DD.1;show ab.heap[F.nx]?=_;rw[U.1,L3 _ _ _ h.K2];exact h.DD.2;rcases Wc V with e | ⟨bb,rfl⟩;omega;exact⟨au.law.GK (.inr ⟨k,bb,rfl⟩),aJ⟩
 .rw [K] at e;cases e;let⟨a,b⟩:=TT V;cases o with
  | none=>exact absurd (b rfl) aE
  | some p=>exact⟨p,rfl,λx=>aE (a p rfl x)⟩
 .cases o with
  | none=>cases e
  | some p=>cases e;exact⟨l,K⟩
 .cases o with
  | none=>cases e;exact(h.Fi.IT i k l O K).2.2
  | some p=>cases e
end
section
variable {P:Program}{F:Fam}{B:Base}{gs gs':Array Goroutine}{w w':World}{sl:Option (Nat×Nat)}{t:Trace}{φ:Nat->Nx}{r:Nat->Rk}{bt:Nat->Bool}{S:Nat->St}{Sh:Nat->Prop}{j:Nat}{c:Bool}{v wt' sm v₁ wt₁ sm₁:Nat}{m m₁:M4}{q q₁:Nat}{f f₁:Obj×Nat}
theorem So(h:e.loc=.obj F.fd/\e.sync=false){a:Touch}(K:(MemAct.ofEvent e).touch?=some a):a.loc=.obj F.fd/\a.kind=.plain:=by
 obtain⟨l,wr,U⟩:=e;obtain⟨h1,O⟩:=h;simp only at h1 O;subst h1 O;cases wr<;>(simp[MemAct.ofEvent,MemAct.touch?] at K;subst K;exact⟨rfl,rfl⟩)
theorem Inv.store(h:Inv P F B gs w t φ r bt S Sh j c v wt' sm m q f){i:Nat}(hi:gs[i]?=some g){k:Nat}(O:φ i=.ph (.lk k .DF))(aa:(i==0)=false)(ar:BA (S i) s₀)(au:Stop P F (.lk k .DF) g s₀):
  Gf P F B gs w sl t i (mu F gs.size φ f.2 m q r bt):=by
 have U:i<gs.size:=(f4.1 hi).1;let⟨g',aP,av,aw⟩:=au.law.store k rfl;obtain⟨D,d1,d2,d3⟩:=h.Fi.rel;obtain⟨o',es,ay,az,V⟩:=av w f.1 D h.DD.1 d1;have ak:=h.Bl.ED F.fd h.Hd;have aQ:=h.size;have aR:=h.BB.pos;have Y:i≠0:=by simpa using aa
 obtain⟨kw,al,ac,_,aS⟩:∃k',k'<j/\i=B.N0+k'/\i≠0/\EL F k' (φ i):=by
  rcases h.EO U with e | ⟨_,d,hd,_⟩ | e;exact absurd e Y;rw[O] at hd;cases hd;exact e
 have ae:ins (φ i):=by rw[O];trivial
 have ag:∀e∈es,∀a,(MemAct.ofEvent e).touch?=some a->a.loc=.obj F.fd/\a.kind=.plain:=λe he a K=>So (V e he) K;have ab:∀A:Addr,∀e∈es,e.loc≠ .mark (.release A):=by
  intro A e he Z;have:=(V e he).1;rw[Z] at this;cases this
 have ah:∀e∈es,∀a b,(MemAct.ofEvent e).touch?=some a->BK a.loc=some b->b=F.fd:=by
  intro e he a b K hb;rw[(ag e he a K).1] at hb;simpa [BK] using hb.symm
 have aA:∀e∈es,EvS F B.N0 j i (φ i) e:=λe he=>
  ⟨λa K=>⟨F.fd,by rw[(ag e he a K).1];rfl,.inr ⟨rfl,ae⟩⟩,ab _ e he,ab _ e he⟩
 have aB:Bh t w gs.size (upd S i s₀) Sh:=h.Bl.ghost U ar;have aC:Bh (t++MemOp.ofEvents i g.frame.fn g.frame.place es) (F.Gm w o') gs.size (upd S i s₀) Sh:=by
  refine aB.ext (h.Cs.noRace h.Bl.clean U (.inr (by omega)) aA) (λop ai a aD b hb=>?_) (λop ai=>?_) (SA ..) (λb hb=>L8 _ _ λe=>hb (e▸h.Hd));obtain⟨e,he,rfl⟩:=mem_ofEvents ai;rw[ah e he a b aD hb];exact h.Hd;obtain⟨e,he,rfl⟩:=mem_ofEvents ai;obtain⟨l,wr,aT⟩:=e;let⟨h1,am⟩:=V _ he;simp only at h1 am;subst h1 am;cases wr<;>simp[MemAct.ofEvent,MemAct.low,Loc.low,ak]
 have aE:BR F B.N0 (gs.size+c.toNat) j c (BM c gs.size (upd φ i (.ph (.lk k .Em)))) v wt' sm false:=by
  have aj:BM c gs.size φ (B.N0+kw)=.ph (.lk k .DF):=by rw[← ac,GC Y (by omega)];exact O
  have:=h.BB.Gl (v':=v) (wt':=wt') (sm':=sm) (cl':=false) al (x:=.ph (.lk k .Em)) trivial (λa=>by rw[aj];simp) (by simp) (by rw[aj];rfl) λL S' an ao=>by
   rw[aj] at an ao;have aF:L=_:=an;have aG:S'=_:=ao;rw[aF,aG];exact h.BB.mode
  rwa[← ac,Kt Y (by omega)] at this
 have aH:Dr F B.N0 B.t0 gs.size j (upd φ i (.ph (.lk k .Em))) (upd S i s₀) (t++MemOp.ofEvents i g.frame.fn g.frame.place es):=by
  refine h.Cs.app U (by rw[O];exact deafBehind_still (λe he=>⟨λZ=>(by have:=(V e he).1;rw[Z] at this;cases this),λZ=>(by have:=(V e he).1;rw[Z] at this;cases this)⟩) _) (λe he=>⟨λa b K hb aI=>?_,λa K hb=>?_,ab _ e he,ab _ e he⟩) (λ_=>.inl ae) (λ_=>.inl trivial) (.inl (.inr (by omega))) (λk' aJ ap e he a b K hb hw=>?_) (λk' aJ e ap=>ap.elim);have aK:=ah e he a b K hb;subst aK;rcases aI with e | e | e;exact absurd e h.HG;exact absurd e h.HJ;exact absurd e h.HN;refine⟨⟨kw,al,ac⟩,(ag e he a K).2,ae,trivial,λaU aL aM aq=>?_⟩;obtain⟨aV,aW,e2⟩:=Kw aq;exact aM (h.lock.one U aL O e2 rfl (QH (by rw[← e2];exact aq))).symm;rw[ah e he a b K hb];exact(h.Bl.sh (B.N0+k') (by omega) _ h.Hd).2
 obtain⟨ρ,aN⟩:=aw;have aO:LI gs.size (upd φ i (.ph (.lk k .Em))) m q:=by
  refine h.lock.same U (λf=>?_) trivial;rw[O];by_cases e:f .DF=f .Em;exact .inl e;right;refine⟨?_,?_,?_,?_,?_,?_,?_,?_⟩<;>rintro rfl<;>exact e rfl
 refine h.go' (f₁:=(o',f.2)) hi (by rw[aa];exact ay) aE aO aH (ρ:=ρ) (.walk (by rw[aa];rfl) (λe=>by cases e) (by rw[aa];exact aN)) aC ?_ ?_ ⟨Uy _ _ ak,?_⟩ (λa b=>absurd b a) (λa b=>absurd b a) (h.Fi.store U O d2 d3 az) (λe=>absurd e Y) (λe=>absurd e Y) rfl (.refl _) rfl λaX=>QD U (by rw[O];simp[wt,F2]);show(F.Gm w o').heap[F.wg]?=_;rw[L8 _ _ (kU h.HG)];exact h.wg;show(F.Gm w o').heap[F.mu]?=_;rw[L8 _ _ (kU h.HJ)];exact h.Hf;show(F.Gm w o').heap[F.nx]?=_;rw[L8 _ _ (kU h.HN)];exact h.DD.2
theorem Inv.take(h:Inv P F B gs w t φ r bt S Sh j c v wt' sm m q f){i:Nat}(hi:gs[i]?=some g)(K:φ i=.ph (.B3 lo))(aa:(i==0)=false)(U:BA (S i) s₀)(ar:Stop P F (.B3 lo) g s₀):
  Gf P F B gs w sl t i (mu F gs.size φ f.2 m q r bt):=by
 have O:i<gs.size:=(f4.1 hi).1;have au:f.2<4611686018427387904:=by
  have:=h.Fi.lt;have:=h.MR;have:=h.BB.jn;have:=h.F3;omega
 let⟨g',aW,av,aw⟩:=ar.law.take lo rfl f.2 (h.Fi.lo i lo O K) au;have ay:=av w h.DD.2;have aj:=h.Bl.ED F.nx h.F0;have aX:=h.size;have aY:=h.BB.pos;have V:i≠0:=by simpa using aa
 obtain⟨kw,ak,ab,_,aZ⟩:∃k',k'<j/\i=B.N0+k'/\i≠0/\EL F k' (φ i):=by
  rcases h.EO O with e | ⟨_,d,hd,_⟩ | e;exact absurd e V;rw[K] at hd;cases hd;exact e
 have Y:∀e∈(#[Fam.Br F.nA,Fam.Cx F.nA]:Array Event),DG F False e/\∀X,F.nx<X->(MemAct.ofEvent e).low X:=by
  have az:∀w,DG F False ⟨.cell F.nA,w,true⟩/\∀X,F.nx<X->(MemAct.ofEvent ⟨.cell F.nA,w,true⟩).low X:=by
   intro w;refine⟨⟨λx al=>?_,by simp⟩,λX aA=>?_⟩
   .have:x=⟨.cell F.nA,w,.atomic⟩:=by cases w<;>(simp[MemAct.ofEvent,MemAct.touch?] at al;exact al.symm)
    subst this;exact⟨⟨F.nx,rfl,.inr (.inr rfl)⟩,by simp,by simp⟩
   .have:F.nA.block=F.nx:=rfl;cases w<;>simp[MemAct.ofEvent,MemAct.low,Loc.low,this,aA]
  intro e he;simp only[lm,f7,kB,k5] at he;rcases he with rfl | rfl<;>exact az _
 have aB:cU (.ph (F.tk f.2))=1/\cL (.ph (F.tk f.2))=0/\cS (.ph (F.tk f.2))=0/\EL F kw (.ph (F.tk f.2))/\(∀a,Nx.ph (F.tk f.2)≠ .ph (.Fo a))/\Fam.B2 (F.tk f.2)=false/\Fam.BW (F.tk f.2)=false/\¬late (.ph (F.tk f.2))/\D9 (.ph (F.tk f.2))=0/\¬ins (.ph (F.tk f.2))/\(∀g:LP->Nat,(g .Ff=0->BT g (.ph (F.tk f.2))=0))/\KW (.ph (F.tk f.2)) m:=by
  unfold Fam.tk;split;split;exact⟨rfl,rfl,rfl,trivial,by simp,rfl,rfl,λx=>x,rfl,λx=>x,λg U=>U,trivial⟩;exact⟨rfl,rfl,rfl,trivial,by simp,rfl,rfl,λx=>x,rfl,λx=>x,λg U=>rfl,trivial⟩;exact⟨rfl,rfl,rfl,trivial,by simp,rfl,rfl,λx=>x,rfl,λx=>x,λg U=>rfl,trivial⟩
 obtain⟨aC,x2,aD,aE,aF,aG,am,aH,aI,aJ,aK,aL⟩:=aB;have aM:Bh t w gs.size (upd S i s₀) Sh:=h.Bl.ghost O U;have aN:Bh (t++MemOp.ofEvents i g.frame.fn g.frame.place #[Fam.Br F.nA,Fam.Cx F.nA]) (F.FV w (f.2+1)) gs.size (upd S i s₀) Sh:=by
  refine aM.ext (h.Cs.noRace h.Bl.clean O (.inr (by omega)) λe he=>(Y e he).1.toS (λx=>x.elim)) (λop ae a ag b hb=>?_) (λop ae=>?_) (SU ..) (λb hb=>Md _ _ λe=>hb (e▸h.F0));obtain⟨e,he,rfl⟩:=mem_ofEvents ae;let⟨⟨b',Z,ah⟩,_⟩:=(Y e he).1.1 a ag;rw[hb] at Z;cases Z;rcases ah with rfl | rfl | rfl;exact h.Fy;exact h.FZ;exact h.F0;obtain⟨e,he,rfl⟩:=mem_ofEvents ae;exact(Y e he).2 _ aj
 have aO:BR F B.N0 (gs.size+c.toNat) j c (BM c gs.size (upd φ i (.ph (F.tk f.2)))) v wt' sm false:=by
  have ac:BM c gs.size φ (B.N0+kw)=.ph (.B3 lo):=by rw[← ab,GC V (by omega)];exact K
  have:=h.BB.Gl (v':=v) (wt':=wt') (sm':=sm) (cl':=false) ak (x:=.ph (F.tk f.2)) aE (λa=>by rw[ac];simp) aF (by rw[ac,aC];rfl) λL S' an ao=>by
   rw[ac,x2] at an;rw[ac,aD] at ao;have aP:L=_:=an;have aQ:S'=_:=ao;rw[aP,aQ];exact h.BB.mode
  rwa[← ab,Kt V (by omega)] at this
 have aR:Dr F B.N0 B.t0 gs.size j (upd φ i (.ph (F.tk f.2))) (upd S i s₀) (t++MemOp.ofEvents i g.frame.fn g.frame.place #[Fam.Br F.nA,Fam.Cx F.nA]):=by
  refine h.Cs.app O (by rw[K,aI];rfl) (λe he=>(Y e he).1.keep (λx=>x.elim) h.HG h.HJ h.HN) (λh=>absurd h aJ) (λh=>by rw[K] at h;exact h.elim) (.inl (.inr (by omega))) (λk' aS ap e he a b ag hb hw=>?_) (λk' aS e ap=>absurd ap aH);let⟨⟨b',Z,ah⟩,_⟩:=(Y e he).1.1 a ag;rw[hb] at Z;cases Z;have ai:B.N0+k'<gs.size:=by omega
  rcases ah with rfl | rfl | rfl;exact(h.Bl.sh _ ai _ h.Fy).2;exact(h.Bl.sh _ ai _ h.FZ).2;exact(h.Bl.sh _ ai _ h.F0).2
 obtain⟨ρ,aT⟩:=aw;have aU:loc (.ph (F.tk f.2)) s₀=s₀:=by simp[loc,FN,am]
 have aV:LI gs.size (upd φ i (.ph (F.tk f.2))) m q:=by
  refine h.lock.same O (λg=>?_) aL;rw[K];by_cases e:g .Ff=0;left;rw[aK g e];rfl;right;refine⟨?_,?_,?_,?_,?_,?_,?_,?_⟩<;>rintro rfl<;>exact e rfl
 have aq:=h.Fi.take ak (by omega) (by rw[← ab];exact K);rw[← ab] at aq;refine h.go' (f₁:=(f.1,f.2+1)) hi (by rw[aa];exact ay) aO aV aR (ρ:=ρ) (by rw[aU];exact .walk (by rw[aa,aG]) (λe=>by rw[am] at e;cases e) (by rw[aa];exact aT)) aN ?_ ?_ ⟨?_,U8 _ _ aj⟩ (λa b=>absurd b a) (λa b=>absurd b a) aq (λe=>absurd e V) (λe=>absurd e V) rfl (.refl _) rfl λa2=>VD O K;show(F.FV w (f.2+1)).heap[F.wg]?=_;rw[Md _ _ (kU h.K6)];exact h.wg;show(F.FV w (f.2+1)).heap[F.mu]?=_;rw[Md _ _ (kU h.K2)];exact h.Hf;show(F.FV w (f.2+1)).heap[F.fd]?=_;rw[Md _ _ h.HN];exact h.DD.1
theorem Ro{o:Goroutine}(h:g'.status=.blocked):woken P g g' w o=o:=by
 unfold woken;rw[d7 (by simp[h])]
theorem Dr.WQ{N0 t0 N:Nat}(h:Dr F N0 t0 N j φ S t){i:Nat}(U:∀k,k<j->late (φ (N0+k))->N0+k≠i):Dr F N0 t0 N j φ (upd S i s') t:=
 ⟨h.deaf,h.above,h.plain,h.said,h.DD,h.K0,h.JU,h.over,h.norel,h.KF,h.JK,λk K O=>by rw[upd_ne _ _ (U k K O)];exact h.rel k K O⟩
theorem Inv.block(h:Inv P F B gs w t φ r bt S Sh j c v wt' sm m q f){i:Nat}(hi:gs[i]?=some g){p:Ph}(O:φ i=.ph p)(aj:bt i=true)(Y:(i==0)=Fam.B2 p)(ac:BA (S i) s₀)(Z:Stop P F p g s₀)
  (aa:(p=.D6/\sm=0)∨((∃k sv,p=.lk k (.BL sv))/\q=0)):Gf P F B gs w sl t i (mu F gs.size φ f.2 m q r bt):=by
 have V:i<gs.size:=(f4.1 hi).1;have ao:=h.size;have ak:stepG P (i==0) g w=.go {g with status:=.blocked} w #[]:=by
  rw[Y];rcases aa with⟨rfl,rfl⟩ | ⟨⟨k,sv,rfl⟩,rfl⟩;exact Z.law.Ds rfl w v wt' h.wg;exact Z.law.BL k sv rfl w m h.Hf
 have ab:N5 p:=by
  rcases aa with⟨rfl,_⟩ | ⟨⟨k,sv,rfl⟩,_⟩;exact .inl rfl;exact .inr ⟨k,sv,rfl⟩
 have al:=OO ab;have ae:=runT_crowd_go (P:=P) (sl:=sl) (i:=i) hi ak;have am:(gs.map (woken P g {g with status:=.blocked} w)).setIfInBounds i {g with status:=.blocked}=gs.setIfInBounds i {g with status:=.blocked}:=by
  have:(woken P g {g with status:=.blocked} w)=id:=by funext o;exact Ro rfl
  rw[this,Array.map_id]
 rw[am,Lq] at ae;have K:(gs.setIfInBounds i {g with status:=.blocked}).size=gs.size:=by simp
 have ag:t++(#[]:Trace)=t:=by simp
 have an:∀k,k<j->late (φ (B.N0+k))->B.N0+k≠i:=by
  intro k ap ah e;rw[e,O] at ah;rcases ab with rfl | ⟨k',sv,rfl⟩;rcases h.EO V with ag | ⟨_,d,hd,_⟩ | ⟨k',_,_,_,hw⟩;have:=h.BB.pos;omega;rw[O] at hd;cases hd;rw[O] at hw;exact hw;exact ah
 refine⟨_,_,_,_,ae,.inl ⟨φ,r,upd bt i false,upd S i s₀,Sh,j,c,v,wt',sm,m,q,f,?_,?_⟩⟩
 .rw [ag];refine⟨by rw[K];exact h.BB,by rw[K];exact h.lock,by rw[K];exact h.Cs.WQ an,λa o U=>?_,by rw[K];exact h.Bl.ghost V ac,h.Fy,h.FZ,h.Hd,h.K5,h.HG,h.HJ,h.F0,h.K6,h.K2,h.HN,h.MR,h.F3,h.mn,h.wg,h.Hf,h.DD,λa ai hb=>?_,by rw[K];exact h.Fi,?_,h.tape,h.os,h.output⟩
  .by_cases e:a=i
   .subst e;rw[kD V] at U;obtain rfl:=d0 U;rw[upd_same,upd_same,O];have:loc (.ph p) s₀=s₀:=by simp[loc,FN,al]
    rw[this];exact .blk ab Y Z
   .rw [f6 (kU e)] at U;rw[upd_ne _ _ e,upd_ne _ _ e];exact h.IQ a o U
  .by_cases e:a=i
   .subst e;rcases aa with⟨rfl,rfl⟩ | ⟨⟨k,sv,rfl⟩,rfl⟩
    .have:a=0:=by simpa [Fam.B2] using Y
     subst this;exact .inl ⟨rfl,O,rfl⟩
    .exact .inr ⟨⟨k,sv,O⟩,rfl⟩
   .rw [upd_ne _ _ e] at hb;rw[K] at ai;exact h.blk a ai hb
  .by_cases e:0=i;subst e;rw[upd_same];exact λb o U=>ac.ext b o (h.le b o U);rw[upd_ne _ _ e];exact h.le
 .rw [K];have:=sumTo_upd bt false bit V;rw[aj] at this;exact .inr ⟨rfl,.inr ⟨rfl,.inr ⟨rfl,rfl,.inr ⟨rfl,by show(sumTo gs.size λa=>bit (upd bt i false a))<sumTo gs.size λa=>bit (bt a);simp only[bit] at this ⊢;simp only[lL,kV,lE] at this;omega⟩⟩⟩⟩
theorem LI.push{N:Nat}(h:LI N φ m q)(U:0<N){p0:Ph}(h0:∀k p,φ 0≠ .ph (.lk k p))(h1:∀k p,p0≠ .lk k p):LI (N+1) (upd (upd φ N (.ph (.B3 0))) 0 (.ph p0)) m q:=by
 have O:LI (N+1) (upd φ N (.ph (.B3 0))) m q:=by
  have e:∀f,f LP.Ff=0->Sg f (N+1) (upd φ N (.ph (.B3 0)))=Sg f N φ:=by
   intro f V;unfold Sg;simp only[sumTo];have:=sumTo_upd_out φ (.ph (.B3 0)) (BT f) (i:=N) (j:=N) (kG _);rw[upd_same];show _+0=_;omega
  refine⟨by rw[e pH rfl,e pN rfl,e pZ rfl,e pV rfl,e pT rfl,e pQ rfl,e pD rfl,e pX rfl];exact h.ln,λa Y=>?_⟩;by_cases K:a=N;subst K;rw[upd_same];trivial;rw[upd_ne _ _ K];exact h.loc a (by omega)
 exact O.other (by omega) (by rw[upd_ne _ _ (by omega)];exact h0) (λk p e=>h1 k p (Nx.ph.inj e))
theorem Inv.spawn(h:Inv P F B gs w t φ r bt S Sh j c v wt' sm m q f)(hi:gs[0]?=some g){K:Nat}(V:φ 0=.ph (.En K))(ay:BA (S 0) s₀)(aB:Stop P F (.En K) g s₀):
  Gf P F B gs w sl t 0 (mu F gs.size φ f.2 m q r bt):=by
 have Y:0<gs.size:=(f4.1 hi).1;obtain⟨rfl,a5,rfl⟩:K=j/\j<F.n/\c=false:=by
  obtain⟨p,az,_,hh⟩:=h.main;rw[V] at az;cases az;rcases hh with⟨e,hm⟩ | ⟨_,hm⟩;exact⟨hm.1,hm.2.1,e⟩;exact hm.elim
 let⟨g',child,a6,a7,aC,aD,h0⟩:=aB.law.go _ rfl;have aA:=h.size;have aE:=h.BB.pos;have ao:=runT_crowd_spawn (P:=P) (sl:=sl) (i:=0) hi (show stepG P (0==0) g w=_ from aC w);rw[Lq] at ao;generalize aF:({g:=0,fn:=g.frame.fn,pos:=g.frame.place,act:=.go gs.size}:MemOp)=x at ao;generalize aG:({g:=gs.size,fn:=child.frame.fn,pos:=g.frame.place,act:=.start}:MemOp)=y at ao;have ah:x.g=0/\x.act=.go gs.size:=by subst aF;exact⟨rfl,rfl⟩
 have ai:y.g=gs.size/\y.act=.start:=by subst aG;exact⟨rfl,rfl⟩
 have aH:((#[]:Trace).push x).push y=#[x,y]:=rfl;have aa:((gs.setIfInBounds 0 g').push child).size=gs.size+1:=by simp
 have aI:Fam.B2 (F.Cw K)=true/\Fam.BW (F.Cw K)=false/\D9 (.ph (F.Cw K))=0/\(∀k p,F.Cw K≠ .lk k p)/\∀l,F.Cw K≠ .B3 l:=by
  unfold Fam.Cw;split<;>exact⟨rfl,rfl,rfl,by simp,by simp⟩
 obtain⟨aJ,x2,aK,aq,aL⟩:=aI;let φ':Nat->Nx:=upd (upd φ gs.size (.ph (F.start K))) 0 (.ph (F.Cw K));have f0:φ' 0=.ph (F.Cw K):=upd_same _ _ _;have ac:φ' gs.size=.ph (F.start K):=by show upd _ _ _ _=_;rw[upd_ne _ _ (by omega),upd_same]
 have ae:∀a,a≠0->a≠gs.size->φ' a=φ a:=λa h1 aj=>by show upd _ _ _ _=_;rw[upd_ne _ _ h1,upd_ne _ _ aj]
 have hu:∀op∈(#[x,y]:Array MemOp),op.act.touch?=none/\∀m,op.act≠ .mark m:=by
  intro op O;simp only[lm,f7,kB,k5] at O;rcases O with rfl | rfl;rw[ah.2];exact⟨rfl,by simp⟩;rw[ai.2];exact⟨rfl,by simp⟩
 have ak:=h.BB.spawn (by rw[HA];exact V);rw[HA] at ak;simp only[kF,k6] at ak;have ar:∃al,BR F B.N0 (gs.size+1+al.toNat) (K+1) al (BM al (gs.size+1) φ') v wt' sm false:=by
  by_cases e:K+1=F.n
  .refine⟨true,?_⟩;have au:F.DY K=.Fs:=by unfold Fam.DY;rw[d5 e]
   have e2:F.Cw K=.Co:=by unfold Fam.Cw;rw[d5 e]
   have:=ak.WC (by rw[upd_same,au]);have aM:BM true (gs.size+1) φ'=upd (upd (upd (upd φ gs.size (.ph (F.start K))) 0 (.ph (F.DY K))) (gs.size+1) (.ph .Co)) 0 (.ph (.Eh [] [])):=by
    funext a;unfold BM;by_cases av:a=gs.size+1;subst av;rw[d5 ⟨rfl,rfl⟩,upd_ne _ _ (by omega),upd_same,f0,e2];rw[d7 (by simp[av])];by_cases ab:a=0;subst ab;rw[d5 ⟨rfl,rfl⟩,upd_same];rw[d7 (by simp[ab]),upd_ne _ _ ab,upd_ne _ _ av];show upd _ _ _ _=_;rw[upd_ne _ _ ab,upd_ne _ _ ab]
   rw[aM];exact this
  .refine⟨false,?_⟩;have au:F.DY K=F.Cw K:=by unfold Fam.DY Fam.Cw;rw[d7 e,d7 e]
   rw[au] at ak;rw[HA];exact ak
 obtain⟨al,ar⟩:=ar;have C0:Bh t w gs.size (upd S 0 s₀) Sh:=h.Bl.ghost Y ay;have C1:Bh (t++ #[x,y]) w gs.size (upd S 0 s₀) Sh:=by
  refine C0.ext (λsaid=>?_) (λop O a ag=>by rw[(hu op O).1] at ag;cases ag) (λop O=>?_) rfl λ_ _=>rfl
  .have e:t++ #[x,y]=(t++ #[x])++ #[y]:=by apply lJ;simp
   rw[e];exact noRace_append (g:=gs.size) (noRace_append (g:=0) (h.Bl.clean said) (λop O=>by simp at O;subst O;exact ah.1) λz a _ op O b hb _=>by rw[(hu op (by simp at O ⊢;exact .inl O)).1] at hb;cases hb)
    (λop O=>by simp at O;subst O;exact ai.1) λz a _ op O b hb _=>by rw[(hu op (by simp at O ⊢;exact .inr O)).1] at hb;cases hb
  .simp only [lm,f7,kB,k5] at O;rcases O with rfl | rfl;rw[ah.2];trivial;rw[ai.2];trivial
 have aN:Deaf t 0=0:=by rw[h.Cs.deaf 0 Y,V];rfl
 have C2:Bh (t++ #[x,y]) w (gs.size+1) (upd (upd S 0 s₀) gs.size ⟨s₀.E,λ_=>none,false⟩) Sh:=by
  refine C1.push (i:=0) Y (E:=s₀.E) (λb o am=>by rw[upd_same];exact am) λb hb z a aO aP aQ=>?_;have hold:touchAt t z=some a:=by
   let⟨op,am,aw⟩:=touch_of aO;rcases getElem?_append_cases am with⟨_,aR⟩ | ⟨_,aS⟩;rw[touchAt_of aR];exact aw;rw[(hu op aS).1] at aw;cases aw
  exact fork_knows ah ai aN (h.Cs.above _ (kG _)) (C0.kE 0 Y b (by rw[upd_same];exact hb) z a hold aP aQ)
 have aT:∀k,k<K->upd (upd S 0 s₀) gs.size ⟨s₀.E,λ_=>none,false⟩ (B.N0+k)=S (B.N0+k):=λk aU=>by rw[upd_ne _ _ (by omega),upd_ne _ _ (by omega)]
 have aV:Dr F B.N0 B.t0 (gs.size+1) (K+1) φ' (upd (upd S 0 s₀) gs.size ⟨s₀.E,λ_=>none,false⟩) (t++ #[x,y]):=by
  refine h.Cs.spawn Y aA (λa ag=>?_) (by rw[ac];rfl) (by rw[V];rfl) (λk aU ap=>?_) (λa ag=>?_) (by rw[ac];exact λh=>h) ah ai;by_cases e:a=0;subst e;rw[f0,V,aK];rfl;rw[ae a e (by omega)];by_cases e:k=K;subst e;rw[show B.N0+k=gs.size by omega,ac] at ap;exact ap.elim;rw[ae _ (by omega) (by omega)] at ap;exact⟨by omega,ap,by rw[aT k (by omega)]⟩;by_cases e:a=0;subst e;rw[f0,V];exact⟨λh=>h.elim,λh=>by let⟨k,l,e⟩:=Kw h;exact absurd (Nx.ph.inj e) (aq k l)⟩;rw[ae a e (by omega)]
 obtain⟨aW,aX⟩:=h0;obtain⟨aY,aZ⟩:=aD;have an:∀{α:Type}(f:Nat->α) (a b:α),upd (upd f 0 a) gs.size b 0=a:=λf a b=>by rw[upd_ne _ _ (by omega),upd_same]
 have a2:∀s:St,loc (.ph (F.Cw K)) s=s:=λs=>by simp[loc,FN,x2]
 refine⟨_,_,_,_,ao,.inl ⟨φ',upd (upd r 0 aW) gs.size aY,upd (upd bt 0 true) gs.size true,upd (upd S 0 s₀) gs.size ⟨s₀.E,λ_=>none,false⟩,Sh,K+1,al,v,wt',sm,m,q,f,?_,?_⟩⟩
 .rw [aH];refine⟨by rw[aa];exact ar,by rw[aa];exact h.lock.push Y (λk p e=>by rw[V] at e;cases e) aq,by rw[aa];exact aV,λa o Z=>?_,by rw[aa];exact C2,h.Fy,h.FZ,h.Hd,h.K5,h.HG,h.HJ,h.F0,h.K6,h.K2,h.HN,h.MR,h.F3,(by rw[f0];unfold Fam.Cw;split<;>simp),h.wg,h.Hf,h.DD,λa ag hb=>?_,by rw[aa];exact h.Fi.spawn aA aE ac (λa h1 aj=>ae a aj (by omega)) (λk p e=>by rw[V] at e;cases e) (λk p e=>by rw[f0] at e;exact aq k p (Nx.ph.inj e)) (λl e=>by rw[f0] at e;exact aL l (Nx.ph.inj e)),?_,h.tape,h.os,h.output⟩
  .by_cases e:a=0;subst e;rw[Array.getElem?_push_lt (by simpa using Y)] at Z;simp at Z;subst Z;rw[f0,an,an,an,a2];exact .walk aJ.symm (λq=>by rw[x2] at q;cases q) aX
   .by_cases U:a=gs.size
    .subst U;have:child=o:=by
      rw[show gs.size=(gs.setIfInBounds 0 g').size by simp,Array.getElem?_push_size] at Z;exact d0 Z
     subst this;rw[ac,upd_same,upd_same,upd_same];have a3:(gs.size==0)=false:=by rw[beq_eq_false_iff_ne];omega
     rw[a3];exact .walk rfl (λq=>by cases q) aZ
    .rw [ae a e U,upd_ne _ _ U,upd_ne _ _ e,upd_ne _ _ U,upd_ne _ _ e,upd_ne _ _ U,upd_ne _ _ e];have:gs[a]?=some o:=by
      rw[mS] at Z;simp[U] at Z;simpa [f6 (kU e)] using Z
     exact h.IQ a o this
  rw[aa] at ag;by_cases e:a=0;subst e;rw[an] at hb;cases hb;by_cases U:a=gs.size;subst U;rw[upd_same] at hb;cases hb;rw[upd_ne _ _ U,upd_ne _ _ e] at hb;rcases h.blk a (by omega) hb with⟨ab,_⟩ | ⟨⟨k,sv,aj⟩,a4⟩;exact absurd ab e;exact .inr ⟨⟨k,sv,by rw[ae a e U];exact aj⟩,a4⟩;rw[an];exact h.le.trans λb o am=>ay.ext b o am
 .rw [aa];refine Xe ?_;simp only[sumTo];rw[ac];have a1:=sumTo_upd (upd φ gs.size (.ph (F.start K))) (.ph (F.Cw K)) (wt F.n) Y;rw[upd_ne _ _ (by omega),V] at a1;have a8:=sumTo_upd_out φ (.ph (F.start K)) (wt F.n) (i:=gs.size) (j:=gs.size) (kG _);have b1:wt F.n (.ph (F.start K))=10:=rfl;have a9:wt F.n (.ph (.En K))=5*F.n+85+50*(F.n - K):=rfl;have ba:wt F.n (.ph (F.Cw K))+30<=5*F.n+85+50*(F.n - K):=by
   unfold Fam.Cw;split<;>simp only[wt]<;>omega
  show(sumTo gs.size λi=>wt F.n (upd (upd φ gs.size (.ph (F.start K))) 0 (.ph (F.Cw K)) i))+_<_;omega
end
theorem Bh.final{t:Trace}{w:World}{N:Nat}{S:Nat->St}{Sh:Nat->Prop}(h:Bh t w N S Sh)(ac:0<N){fd:Nat}
  (Y:∀b o,s'.E b=some o->w.heap[b]?=some o/\¬Sh b/\∀x a,touchAt t x=some a->BK a.loc=some b->a.write=true->Knows t 0 x)
  (Z:∀b o,s'.H b=some o->w.heap[b]?=some o/\(¬Sh b∨b=fd)/\∀x a,touchAt t x=some a->BK a.loc=some b->Knows t 0 x)
  (hd:∀b,s'.E b≠none->s'.H b=none) (ae:s'.E fd=none):Bh t w N (lone s') (λb=>Sh b/\b≠fd):=by
 have l0:lone s' 0=s':=rfl;have ln:∀i,i≠0->lone s' i=.quiet:=λi hi=>by simp[lone,hi]
 have V:∀i b,i≠0->(lone s' i).E b=none:=λi b hi=>by rw[ln i hi];rfl
 have U:∀i b,i≠0->(lone s' i).H b=none:=λi b hi=>by rw[ln i hi];rfl
 refine⟨λi hi=>?_,λa b ag hb ab x O=>?_,λi hi b hb=>?_,λb hb=>h.ED b hb.1,h.clean,h.low,λi hi b hb x a O aa=>?_,λi hi b hb x a O aa hw=>?_⟩;by_cases e:i=0;subst e;rw[l0];exact⟨λb o K=>(Y b o K).1,λb o K=>(Z b o K).1,hd⟩;exact⟨λb o K=>(by rw[V i b e] at K;cases K),λb o K=>(by rw[U i b e] at K;cases K),λb hb=>U i b e⟩;by_cases e:b=0;subst e;rw[U a x ab] at O;exact absurd rfl O;exact⟨U b x e,V b x e⟩
 .by_cases e:i=0
  .subst e;rw[l0];constructor
   .cases O:s'.H b with
    | none=>rfl
    | some o=>rcases(Z b o O).2.1 with q | q;exact absurd hb.1 q;exact absurd q hb.2
   .cases O:s'.E b with
    | none=>rfl
    | some o=>exact absurd hb.1 (Y b o O).2.1
  .exact⟨U i b e,V i b e⟩
 by_cases e:i=0;subst e;let⟨o,K⟩:=Gv (x:=s'.H b) hb;exact(Z b o K).2.2 x a O aa;rw[U i b e] at hb;exact absurd rfl hb;by_cases e:i=0;subst e;let⟨o,K⟩:=Gv (x:=s'.E b) hb;exact(Y b o K).2.2 x a O aa hw;rw[V i b e] at hb;exact absurd rfl hb
section
variable {P:Program}{F:Fam}{B:Base}{gs gs':Array Goroutine}{w w':World}{sl:Option (Nat×Nat)}{t:Trace}{φ:Nat->Nx}{r:Nat->Rk}{bt:Nat->Bool}{S:Nat->St}{Sh:Nat->Prop}{j:Nat}{c:Bool}{v wt' sm v₁ wt₁ sm₁:Nat}{m m₁:M4}{q q₁:Nat}{f f₁:Obj×Nat}
theorem Inv.over(h:Inv P F B gs w t φ r bt S Sh j c v wt' sm m q f)(hi:gs[0]?=some g)(al:φ 0=.ph .EN)(aF:BA (S 0) s₀)(ab:Stop P F .EN g s₀)(aV:Mu):
  Gf P F B gs w sl t 0 aV:=by
 classical
 have aa:0<gs.size:=(f4.1 hi).1;have bb:=h.size;have be:=h.BB.pos;obtain rfl:c=true:=by
  obtain⟨p,aG,_,hh⟩:=h.main;rw[al] at aG;cases aG;rcases hh with⟨_,hm⟩ | ⟨e,_⟩;exact hm.elim;exact e
 have bf:j=F.n:=h.BB.cj rfl;have am:∀i,i≠0->i<gs.size->∃d,φ i=.gone d:=by
  intro i av an;rcases h.EO an with e | ⟨_,d,hd,_⟩ | ⟨k,V,aW,_,_⟩;exact absurd e av;exact⟨d,hd⟩
  .have:=h.BB.Uk rfl (.inr (.inr (.inl (by rw[show B.N0+F.n=gs.size by omega,Ic];exact al)))) k V;rw[← aW,GC av (by omega)] at this;cases U:φ i with
   | gone d=>exact⟨d,rfl⟩
   | ph p=>rw[U] at this;exact this.elim
 let⟨g',aX,aY⟩:=ab.law.fin rfl;have aH:=runT_crowd_go (P:=P) (sl:=sl) (i:=0) hi (show stepG P (0==0) g w=_ from aX w);have aI:Deaf t 0=0:=by rw[h.Cs.deaf 0 aa,al];rfl
 have aw:MemOp.ofEvents 0 g.frame.fn g.frame.place #[Fam.BJ (.acquire F.sA)]=#[{g:=0,fn:=g.frame.fn,pos:=g.frame.place,act:=.mark (.acquire F.sA)}]:=by rw[ofEvents_eq];simp[Fam.BJ,MemAct.ofEvent]
 generalize hu:MemOp.ofEvents 0 g.frame.fn g.frame.place #[Fam.BJ (.acquire F.sA)]=u at aH;have ac:∀op∈u,op.act.touch?=none/\op.g=0/\op.act.low w.heap.size:=by
  intro op ae;rw[← hu,aw] at ae;simp at ae;subst ae;exact⟨rfl,rfl,h.Bl.ED F.wg h.Fy⟩
 have ao:(t++u)[t.size]?=some {g:=0,fn:=g.frame.fn,pos:=g.frame.place,act:=.mark (.acquire F.sA)}:=by rw[← hu,aw];simp
 have aZ:(t++u).heard t.size:=⟨0,by simp[Trace.g?,ao],by rw[deaf_old (kG _)];exact aI⟩;have a2:(t++u).g? t.size=some 0:=by simp[Trace.g?,ao]
 have a3:∀x,B.t0<=x->(t++u).act? x≠some (.mark (.release F.sA)):=I2 h.Cs.norel λop ae e=>by rw[← hu,aw] at ae;simp at ae;subst ae;cases e
 have ay:∀k,k<F.n->∃ρ,ρ<t.size/\RelBy F.sA t (B.N0+k) ρ/\KE t (S (B.N0+k)).E ρ/\HappensBefore (t++u) ρ t.size:=by
  intro k V;obtain⟨d,hd⟩:=am (B.N0+k) (by omega) (by omega);obtain⟨ρ,a,b,e⟩:=h.Cs.rel k (by omega) (by rw[hd];trivial);have ap:ρ<t.size:=lt_of_act? b.act;refine⟨ρ,ap,b,e,.single (.inr ⟨.marked ap (.inr (by rw[act?_old ap];exact b.act)) (by rw[act?_of ao]) λz h1 Z=>a3 z (by omega),(heard_old ap).2 b.heard,aZ⟩)⟩
 have aJ:∀{x ρ},Before t x ρ->HappensBefore (t++u) ρ t.size->Knows (t++u) 0 x:=λh1 Z=>⟨t.size,_,ao,rfl,.inr ((h1.app u).hb Z)⟩;have aK:∀{x k},k<F.n->t.g? x=some (B.N0+k)->t.counts x->Knows (t++u) 0 x:=by
  intro x k V Y ag;let⟨ρ,h1,Z,_,ak⟩:=ay k V;have hle:x<=ρ:=Nat.le_of_not_lt λah=>Z.after x ah Y ag;refine aJ (ρ:=ρ) ?_ ak;rcases kC x ρ with U | U;exact .inr (.single (.inl ⟨U,_,Y,Z.g⟩));exact .inl (by omega)
 have hold:∀{y a},touchAt (t++u) y=some a->touchAt t y=some a:=by
  intro y a U;let⟨op,O,az⟩:=touch_of U;rcases getElem?_append_cases O with⟨ah,aA⟩ | ⟨_,aB⟩;rw[touchAt_of aA];exact az;rw[(ac op aB).1] at az;cases az
 have C0:Bh t w gs.size (upd S 0 s₀) Sh:=h.Bl.ghost aa aF;have C1:Bh (t++u) w gs.size (upd S 0 s₀) Sh:=C0.mute (g:=0) (λop O=>(ac op O).2.1) (λop O=>(ac op O).1) (λop O=>(ac op O).2.2) rfl;let K:Nat->Obj->Prop:=λb o=>s₀.E b=some o∨∃k,k<F.n/\(S (B.N0+k)).E b=some o;have aC:∀b o,K b o->w.heap[b]?=some o:=by
  rintro b o (h1 | ⟨k,V,h1⟩);exact(C0.fits 0 aa).e b o (by rw[upd_same];exact h1);exact(h.Bl.fits (B.N0+k) (by omega)).e b o h1
 let E':LH:=λb=>if hb:∃o,K b o then some (Classical.choose hb) else none
 have aD:∀b o,E' b=some o->K b o:=by
  intro b o O;simp only[E'] at O;split at O;rename_i hb;have:=lq hb;rw[d0 O] at this;exact this;cases O
 have aL:∀b o,K b o->E' b=some o:=by
  intro b o O;have hb:∃o,K b o:=⟨o,O⟩;have a4:E' b=some (Classical.choose hb):=by simp only[E'];rw[dif_pos hb]
  have e2:=aC b _ (lq hb);rw[aC b o O] at e2;rw[a4,← d0 e2]
 have aM:Le s₀.E E':=λb o O=>aL b o (.inl O);have bg:∀k,k<F.n->Le (S (B.N0+k)).E E':=λk V b o O=>aL b o (.inr ⟨k,V,O⟩);have aN:∀b o,K b o->¬Sh b:=by
  rintro b o (h1 | ⟨k,V,h1⟩) hb;have:=(C0.sh 0 aa b hb).2;rw[upd_same,h1] at this;cases this;have:=(h.Bl.sh (B.N0+k) (by omega) b hb).2;rw[h1] at this;cases this
 have aE:E' F.fd=none:=by
  cases U:E' F.fd with
  | none=>rfl
  | some o=>exact absurd h.Hd (aN _ _ (aD _ _ U))
 have aO:∀b,E' b≠none->s₀.H b=none:=by
  intro b hb;let⟨o,O⟩:=Gv hb;rcases aD b o O with h1 | ⟨k,V,h1⟩
  .have:=(C0.fits 0 aa).d b (by rw[upd_same,h1];simp)
   rwa[upd_same] at this
  .cases U:s₀.H b with
   | none=>rfl
   | some o'=>
    have:=(C0.hh 0 (B.N0+k) aa (by omega) (by omega) b (by rw[upd_same,U];simp)).2;rw[upd_ne _ _ (by omega),h1] at this;cases this
 have a5:F.rel (λi=>i<F.N/\F.bad i=true) f.1:=by
  obtain⟨D,d1,d2,d3⟩:=h.Fi.rel;have bh:=h.BB.n1;have bi:F.N<=f.2:=by
   rcases h.Fi.ex 0 (by omega) with e | e;obtain⟨d,hd⟩:=am (B.N0+0) (by omega) (by omega);rw[hd] at e;cases e;exact e
  have e:D=λi=>i<F.N/\F.bad i=true:=by
   funext i;refine propext ⟨d2 i,λ⟨h1,Z⟩=>?_⟩;rcases d3 i (by omega) h1 Z with x | ⟨a,p,a6,x2,_⟩;exact x;by_cases aP:a=0;subst aP;rw[al] at x2;cases x2;let⟨d,hd⟩:=am a aP a6;rw[hd] at x2;cases x2
  rw[← e];exact d1
 have a7:=aY E' f.1 aM aE aO a5;have aQ:((gs.map (woken P g g' w)).setIfInBounds 0 g').size=gs.size:=by simp
 have a8:Bh (t++u) w gs.size (lone ⟨E',F.H4 s₀.H f.1,false⟩) (λb=>Sh b/\b≠F.fd):=by
  refine C1.final aa (λb o O=>?_) (λb o O=>?_) (λb hb=>?_) aE;have V:=aD b o O;refine⟨aC b o V,aN b o V,λx a U ai hw=>?_⟩;rcases V with h1 | ⟨k,V,h1⟩;exact C1.kE 0 aa b (by rw[upd_same,h1];simp) x a U ai hw;let⟨ρ,_,_,a9,ak⟩:=ay k V;exact aJ (a9 b (by rw[h1];simp) x a (hold U) ai hw) ak;simp only[Fam.H4] at O;split at O;rename_i e;subst e;cases O;refine⟨h.DD.1,.inr rfl,λx a U ai=>?_⟩;rcases h.Cs.DD x a (hold U) ai with z | ⟨k,V,Y,ag⟩;exact(z 0 aa (.inl rfl)).app u;exact aK (by omega) Y ag;refine⟨(C0.fits 0 aa).h b o (by rw[upd_same];exact O),.inl λhb=>?_,λx a U ai=>C1.kH 0 aa b (by rw[upd_same,O];simp) x a U ai⟩;have:=(C0.sh 0 aa b hb).1;rw[upd_same,O] at this;cases this;simp only[Fam.H4];rw[d7 (λe=>by subst e;exact hb aE)];exact aO b hb
 have ba:∀i g,i≠0->gs[i]?=some g->∃q d,φ i=.gone d/\QuitsD P q d g:=by
  intro i g hi Y;let⟨d,hd⟩:=am i hi (f4.1 Y).1;have ab:=h.IQ i g Y;rw[hd] at ab;generalize U:Nx.gone d=x at ab;generalize loc x (S i)=s at ab;generalize r i=ρ at ab;generalize bt i=bj at ab;cases ab with
  | gone _ aq=>cases U;exact⟨_,_,hd,aq⟩
  | _=>cases U
 have aq:∀i,∃q,∀g,i≠0->gs[i]?=some g->QuitsD P q (Deaf t i) g:=by
  intro i;by_cases hi:i≠0/\i<gs.size;let⟨q,d,h1,Z⟩:=ba i _ hi.1 (kS hi.2);refine⟨q,λg _ Y=>?_⟩;rw[kS hi.2] at Y;obtain rfl:=d0 Y;rw[h.Cs.deaf i hi.2,h1];exact Z;exact⟨0,λg h1 Z=>absurd ⟨h1,(f4.1 Z).1⟩ hi⟩
 have aR:∀i,i≠0->Deaf (t++u) i=Deaf t i:=λi hi=>Deaf_other t (kU hi) u λop O=>(ac op O).2.1;refine⟨_,_,_,_,aH,.inr ⟨λi=>Classical.choose (aq i),λb=>Sh b/\b≠F.fd,g',⟨E',F.H4 s₀.H f.1,false⟩,⟨by simp[aa],⟨λi x av U=>?_,λi an=>?_⟩,by rw[aQ];exact a8,λx ar Y aj ag=>?_,?_⟩,a7,?_,h.tape,h.os,h.output⟩⟩
 .have aj:i≠0:=by omega
  rw[f6 (kU aj),lV] at U;obtain⟨o',aA,rfl⟩:=lg.1 U;have aS:=lq (aq i) o' aj aA;rw[woken_quitsD aS,aR i aj];exact aS
 .rw [aQ] at an;rw[aR i (by omega)];exact h.Cs.above i an
 .have:=NK h.Cs.over (u:=u) (N0:=B.N0) (N:=gs.size) (λop O=>.inl (ac op O).2.1) x ar Y aj ag;rcases this with z | ⟨z1,bl⟩;exact z
  .have au:x<t.size:=by
    rcases kC x t.size with z | z;exact z;let⟨op,O,aT⟩:=lg.1 Y;rcases getElem?_append_cases O with⟨ah,_⟩ | ⟨_,aB⟩;exact ah;rw[(ac op aB).2.1] at aT;exact absurd aT.symm aj
   obtain⟨bm,z,bn,bo,bp⟩:=aK (k:=ar - B.N0) (by omega) (by rw[← g?_old (u:=u) au,Y];congr 1;omega) ((counts_old au).1 ag);refine⟨t.size,a2,?_⟩;obtain⟨ρ,h1,Z,_,ak⟩:=ay (ar - B.N0) (by omega);have aU:t.g? x=some (B.N0+(ar - B.N0)):=by rw[← g?_old (u:=u) au,Y];congr 1;omega
   have hle:x<=ρ:=Nat.le_of_not_lt λah=>Z.after x ah aU ((counts_old au).1 ag);have hb:Before t x ρ:=by
    rcases kC x ρ with U | U;exact .inr (.single (.inl ⟨U,_,aU,Z.g⟩));exact .inl (by omega)
   exact(hb.app u).hb ak
 have:=Deaf_own t 0 g.frame.fn g.frame.place #[Fam.BJ (.acquire F.sA)];rw[hu] at this;rw[this,aI];rfl;exact(h.le.trans λb o O=>aF.ext b o O).trans aM
end
theorem LN.busy{m:M4}{h rn rs v t s d x:Nat}(V:LN m 0 h rn rs v t s d x)(ab:1<=s):1<=h+rn+rs+v+t+d+x:=by
 obtain⟨h1,Y,Z⟩:=V;cases hm:m.s with
 | true=>have:=(Z hm).2.2.2.1;rw[← h1] at this;omega
 | false=>
  let⟨a1,ac,K,ae,aa⟩:=Y hm;cases U:m.l with
  | true=>rw[U] at h1;simp at h1;omega
  | false=>
   cases O:m.k with
   | true=>rw[O] at K;simp at K;omega
   | false=>
    rw[O] at K;simp at K;have:=aa U O (by omega);omega
section
variable {P:Program}{F:Fam}{B:Base}{gs gs':Array Goroutine}{w w':World}{sl:Option (Nat×Nat)}{t:Trace}{φ:Nat->Nx}{r:Nat->Rk}{bt:Nat->Bool}{S:Nat->St}{Sh:Nat->Prop}{j:Nat}{c:Bool}{v wt' sm v₁ wt₁ sm₁:Nat}{m m₁:M4}{q q₁:Nat}{f f₁:Obj×Nat}
theorem SC{N:Nat}{f:Nat->Nat}(h:1<=sumTo N f):∃i,i<N/\1<=f i:=by
 induction N with
 | zero=>simp[sumTo] at h
 | succ N K=>
  simp only[sumTo] at h;by_cases e:1<=f N;exact⟨N,by omega,e⟩;obtain⟨i,hi,O⟩:=K (by omega);exact⟨i,by omega,O⟩
theorem Inv.runs(h:Inv P F B gs w t φ r bt S Sh j c v wt' sm m q f):∃(i:Nat) (g:Goroutine),gs[i]?=some g/\g.status=.running:=by
 have aG:=h.BB.pos;have aH:=h.size;have ag:0<gs.size:=by omega
 have aa:∀i (hi:i<gs.size) p,φ i=.ph p->bt i=true->∃(i:Nat) (g:Goroutine),gs[i]?=some g/\g.status=.running:=by
  intro i hi p U hb;refine⟨i,_,kS hi,?_⟩;have K:=h.IQ i _ (kS hi);rw[U,hb] at K;generalize loc (Nx.ph p) (S i)=s at K;generalize ar:Nx.ph p=x at K;generalize au:true=b at K;generalize gs[i]=o at K ⊢;generalize r i=ρ at K;cases K with
  | walk _ _ ah=>exact ah.running
  | blk _ _ _=>cases au
  | gone _ _=>cases ar
 obtain⟨p0,Z,av,hh⟩:=h.main;cases ai:bt 0 with
 | true=>exact aa 0 ag p0 Z ai
 | false=>
  obtain⟨U,aI⟩:φ 0=.ph .D6/\sm=0:=by
   rcases h.blk 0 ag ai with⟨_,a,b⟩ | ⟨⟨k,sv,a⟩,_⟩;exact⟨a,b⟩;rw[Z] at a;cases a;cases av
  rw[U] at Z;cases Z;obtain⟨rfl⟩:c=true:=by
   rcases hh with⟨_,hm⟩ | ⟨e,_⟩;exact hm.elim;exact e
  have ah:j=F.n:=h.BB.cj rfl;have aj:=h.BB.mode;rw[d5 rfl,show B.N0+F.n=gs.size by omega,Ic,U] at aj;obtain⟨aw,_,_⟩:=aj;have ab:=h.BB.cnt;have ak:BM true gs.size φ 0=.ph (.Eh [] []):=by simp[BM];omega
  rw[ak] at ab;simp only[pend,k6] at ab;have hex:∃i,i<gs.size+1/\1<=cU (BM true gs.size φ i)+cL (BM true gs.size φ i)+cS (BM true gs.size φ i):=by
   apply m0;intro ay;have ac:∀i,i<gs.size+1->cU (BM true gs.size φ i)=0/\cL (BM true gs.size φ i)=0/\cS (BM true gs.size φ i)=0:=λi hi=>by
    have:¬1<=cU (BM true gs.size φ i)+cL (BM true gs.size φ i)+cS (BM true gs.size φ i):=λq=>ay ⟨i,hi,q⟩;omega
   have zero:∀f:Nat->Nat,(∀i,i<gs.size+1->f i=0)->sumTo (gs.size+1) f=0:=λf az=>by
    have:=sumTo_le (f:=f) (c:=0) (j:=gs.size+1) (λi hi=>by rw[az i hi];exact kG _);omega
   have z1:=zero (λi=>cU (BM true gs.size φ i)) λi hi=>(ac i hi).1;have aJ:=zero (λi=>cL (BM true gs.size φ i)) λi hi=>(ac i hi).2.1;have aK:=zero (λi=>cS (BM true gs.size φ i)) λi hi=>(ac i hi).2.2;simp only[kP] at aw ab;omega
  obtain⟨i,hi,O⟩:=hex;have al:i≠0:=by rintro rfl;rw[ak] at O;simp[cU,cL,cS] at O
  have aA:i≠gs.size:=by rintro rfl;rw[Ic,U] at O;simp[cU,cL,cS] at O
  rw[GC al aA] at O;have ae:i<gs.size:=by omega
  cases am:φ i with
  | gone d=>rw[am] at O;simp[cU,cL,cS] at O
  | ph pi=>
   cases an:bt i with
   | true=>exact aa i ae pi am an
   | false=>
    obtain⟨⟨k,sv,aB⟩,aC⟩:(∃k sv,φ i=.ph (.lk k (.BL sv)))/\q=0:=by
     rcases h.blk i ae an with⟨e,_⟩ | e;exact absurd e al;exact e
    subst aC;have aD:1<=Sg pQ gs.size φ:=by
     have:=le_sumTo (f:=λa=>BT pQ (φ a)) ae;have e:BT pQ (φ i)=1:=by rw[aB];rfl
     simp only[e] at this;exact this
    have hb:=h.lock.ln.busy aD;have aE:1<=Sg (λp=>(((((pH p+pN p)+pZ p)+pV p)+pT p)+pD p)+pX p) gs.size φ:=by
     rw[H7,H7,H7,H7,H7,H7];exact hb
    obtain⟨a,ao,V⟩:=SC aE;cases Y:φ a with
    | gone d=>rw[Y] at V;simp[BT] at V
    | ph aF=>
     rw[Y] at V;cases aF<;>(try (simp[BT] at V;done))
     rename_i k' l;cases ap:bt a with
     | true=>exact aa a ao _ Y ap
     | false=>
      rcases h.blk a ao ap with⟨e,aq,_⟩ | ⟨⟨aL,aM,e⟩,_⟩;subst e;rw[Y] at aq;cases aq;rw[Y] at e;cases e;simp[BT,pH,pN,pZ,pV,pT,pD,pX] at V
theorem Inv.step(h:Inv P F B gs w t φ r bt S Sh j c v wt' sm m q f):
  ∃gs' w' ag u,stepT P (crowd gs w sl)=(.next (crowd gs' w' ag),u)/\
  ((∃φ' r' ao S' aB ac aC v' aD sm' m' q' ap,Inv P F B gs' w' (t++u) φ' r' ao S' aB ac aC v' aD sm' m' q' ap/\Mu.lt (mu F gs'.size φ' ap.2 m' q' r' ao) (mu F gs.size φ f.2 m q r bt))∨Ou P F B gs' w' (t++u)):=by
 have aS:=h.size;have aE:∀x∈gs,awake x:=by
  intro x K;obtain⟨i,hi,rfl⟩:=mM.1 K;exact(h.IQ i _ (kS hi)).awake
 let⟨i,g,d,ag,hi,aq,aF⟩:=crowd_pick (P:=P) (w:=w) (sl:=sl) aE h.runs
 suffices Gf P F B gs (w.at d) ag t i (mu F gs.size φ f.2 m q r bt) by
  obtain⟨gs',w',aG,u,h1,ah⟩:=this;exact⟨gs',w',aG,u,aF.trans h1,ah⟩
 have O:=h.at_ d;have ar:i<gs.size:=(f4.1 hi).1;have Z:=h.IQ i g hi;generalize K:φ i=x at Z;generalize au:r i=ρ at Z;generalize hb:bt i=b at Z;generalize av:loc x (S i)=s at Z;cases Z with
 | blk _ _ _=>cases aq
 | gone hm aw=>exact O.slip hi aq K au hm aw
 | @walk p _ _ _ hm aw ai=>
  have aH:JQ (Stop P F p) g s∨∃f,ρ=.node f/\(∀w,Fits s w->∃g' s' w' es,stepG P (i==0) g w=.go g' w' es/\Jr P (i==0) (JQ (Stop P F p)) (f w) g' s'/\Fits s' w'/\Fr s w s' w'/\(∀e∈es,Ev s w w' e)/\(s=.quiet->s'=.quiet/\w'=w/\es=#[])):=by
   cases ρ with
   | leaf=>exact .inl ai
   | node f=>
    rcases ai with q | ⟨_,q⟩;exact .inl q;exact .inr ⟨f,rfl,q⟩
  rcases aH with⟨s₀,ay,U⟩ | ⟨f0,rfl,hgo⟩
  .subst av;have V:Fam.BW p=false->BA (S i) s₀:=λe=>by simpa [loc,FN,e] using ay
   by_cases az:∃l,p=.B3 l;obtain⟨l,rfl⟩:=az;exact O.take hi K hm (V rfl) U
   by_cases c1:∃k l,p=.lk k l
   .obtain⟨k,l,rfl⟩:=c1;by_cases c2:l=.DF;subst c2;exact O.store hi K hm (V rfl) U
    by_cases c3:(∃sv,l=.BL sv)/\q=0;obtain⟨⟨sv,rfl⟩,c3⟩:=c3;exact O.block hi K hb hm (V rfl) U (.inr ⟨⟨k,sv,rfl⟩,c3⟩)
    exact O.Bn hi K c2 hm (V rfl) U λsv e aj=>c3 ⟨⟨sv,e⟩,aj⟩
   by_cases c2:∃ac,p=.En ac
   .obtain⟨ac,rfl⟩:=c2;have aa:i=0:=by simpa [Fam.B2] using hm
    subst aa;exact O.spawn hi K (V rfl) U
   by_cases c3:p=.EN
   .subst c3;have aa:i=0:=by simpa [Fam.B2] using hm
    subst aa;exact O.over hi K (V rfl) U _
   by_cases c4:p=.D6/\sm=0;obtain⟨rfl,c4⟩:=c4;exact O.block hi K hb hm (V rfl) U (.inl ⟨rfl,c4⟩)
   have aI:∃ak,ak<gs.size+c.toNat/\BM c gs.size φ ak=.ph p:=by
    by_cases e:i=0
    .subst e;cases c with
     | false=>exact⟨0,by omega,by rw[HA];exact K⟩
     | true=>exact⟨gs.size,by simp,by rw[Ic];exact K⟩
    .exact⟨i,by omega,by rw[GC e (by omega)];exact K⟩
   have aJ:p=.D6->sm=1:=by
    rintro rfl;have aa:i=0:=by simpa [Fam.B2] using hm
    subst aa;obtain⟨p0,ab,_,hh⟩:=h.main;rw[K] at ab;cases ab;obtain rfl:c=true:=by
     rcases hh with⟨_,hm⟩ | ⟨e,_⟩;exact hm.elim;exact e
    have ai:=h.BB.cj rfl;have aA:=h.BB.mode;rw[d5 rfl,show B.N0+F.n=gs.size by omega,Ic,K] at aA;obtain⟨aT,_⟩:=aA;have:sm≠0:=λq=>c4 ⟨rfl,q⟩;omega
   obtain⟨ak,aK,aL⟩:=aI;have ae:(∀k,p≠ .Fo k)/\p≠ .Fs/\(∀al vs,p≠ .Eh al vs)/\p≠ .Ge:=by
    by_cases e:i=0;subst e;have am:=h.mn;rw[K] at am;obtain⟨p0,ab,_,hh⟩:=h.main;rw[K] at ab;cases ab;refine⟨λk e=>?_,λe=>?_,λal vs e=>?_,λe=>?_⟩;subst e;rcases hh with⟨_,Y⟩ | ⟨_,Y⟩<;>exact Y.elim;subst e;exact am.1 rfl;subst e;rcases hh with⟨e,Y⟩ | ⟨_,Y⟩;have:=Y.2;rw[e] at this;cases this;exact Y.elim;subst e;exact am.2 rfl
    .rcases h.EO ar with aj | ⟨_,d,hd,_⟩ | ⟨k',aU,aV,_,hw⟩;exact absurd aj e;rw[K] at hd;cases hd
     .rw [K] at hw;refine⟨λk e=>?_,λe=>?_,λal vs e=>?_,λe=>?_⟩<;>subst e;exact absurd hw.2 f8
      all_goals exact hw.elim
   let⟨v',w',sm',es,nx,aM⟩:=h.BB.enabled aK aL ae.1 (λk e=>c2 ⟨k,e⟩) ae.2.1 ae.2.2.1 ae.2.2.2 aJ c3 (λk l e=>c1 ⟨k,l,e⟩) (λl e=>az ⟨l,e⟩);exact O.act hi K hm ay U aM
  .subst av;have aN:Fits (loc (.ph p) (S i)) (w.at d):=by
    have:=O.Bl.fits i ar;unfold loc;split;exact⟨λb o an=>(by cases an),λb o an=>(by cases an),λb hb=>rfl⟩;exact this
   let⟨g',s',w',es,h1,ah,aO,aP,aQ,aR⟩:=hgo (w.at d) aN;exact O.own hi K hm h1 ah aO aP aQ aR (by rw[au];exact⟨f0,_,rfl,rfl⟩)
theorem Inv.run:∀(K:Mu) (gs:Array Goroutine) (w:World) (sl:Option (Nat×Nat)) (t:Trace) (φ:Nat->Nx) (r:Nat->Rk) (bt:Nat->Bool) (S:Nat->St) (Sh:Nat->Prop) (j:Nat) (c:Bool) (v wt' sm:Nat) (m:M4) (q:Nat) (f:Obj×Nat),
  mu F gs.size φ f.2 m q r bt=K->Inv P F B gs w t φ r bt S Sh j c v wt' sm m q f->∃n gs' w' O U,runNT P n (crowd gs w sl) t=(.next (crowd gs' w' O),U)/\Ou P F B gs' w' U:=by
 intro K
 induction K using Mu.wf.induction with
 | _ K Y=>
  intro gs w sl t φ r bt S Sh j c v wt' sm m q f Z h;obtain⟨gs',w',O,u,V,hh⟩:=h.step (sl:=sl);rcases hh with⟨φ',r',aa,S',ab,ac,ae,v',ag,sm',m',q',ah,ai,aj⟩ | ak;let⟨n,al,am,an,ao,h1,ap⟩:=Y _ (Z▸aj) gs' w' O (t++u) φ' r' aa S' ab ac ae v' ag sm' m' q' ah rfl ai;exact⟨n+1,al,am,an,ao,Lu V h1,ap⟩;exact⟨1,gs',w',O,t++u,Lu V rfl,ak⟩
end
def H0(H:LH)(a b c d:Nat):LH:=λx=>if x=d then none else if x=c then none else if x=b then none else if x=a then none else H x
theorem Up{P:Program}(F:Fam){s:St}{f₀:Obj}(am:1<=F.n)(ay:F.n<134217728)(az:F.N<2305843009213693952)
  (an:F.mu≠F.wg) (ao:F.fd≠F.wg) (ap:F.fd≠F.mu) (aq:F.nx≠F.wg) (ar:F.nx≠F.mu) (au:F.fd≠F.nx) (ab:s.H F.wg=some (F.Gr 0 0)) (ac:s.H F.mu=some (F.Gp 0 0)) (ae:s.H F.nx=some (F.IS 0)) (ag:s.H F.fd=some f₀) (aA:F.rel (λ_=>False) f₀)
  (aB:Way P true (Stop P F (.El 0)) g ⟨s.E,H0 s.H F.wg F.mu F.nx F.fd,false⟩) (aC:∀g s,F.fin g s->(Dv P).ok Q g s):(Dv P).ok Q g s:=by
 intro gs w sl t q Sh hC;have Y:0<gs.size:=(f4.1 hC.main).1;let s1:St:={s with H:=λb=>if b=F.wg then none else s.H b}
 let s2:St:={s with H:=λb=>if b=F.mu then none else s1.H b}
 let aa:St:={s with H:=λb=>if b=F.nx then none else s2.H b}
 have av:lone s 0=s:=rfl;have bb:∀(f:Nat->St) (x y:St) (i:Nat),upd (upd f 0 x) 0 y i=upd f 0 y i:=λf x y i=>by
  by_cases e:i=0;subst e;rw[upd_same,upd_same];rw[upd_ne _ _ e,upd_ne _ _ e,upd_ne _ _ e]
 have c1:Bh t w gs.size (upd (lone s) 0 s1) (λb=>Sh b∨b=F.wg):=by
  have:=hC.Bl.share (i:=0) Y (b₀:=F.wg) (o₀:=F.Gr 0 0) (by rw[av];exact ab);exact this
 have c2:Bh t w gs.size (upd (upd (lone s) 0 s1) 0 s2) (λb=>(Sh b∨b=F.wg)∨b=F.mu):=by
  have:=c1.share (i:=0) Y (b₀:=F.mu) (o₀:=F.Gp 0 0) (by rw[upd_same];simp[s1,an,ac]);refine this.congr λi hi=>?_;by_cases e:i=0;subst e;simp only[upd_same];exact⟨rfl,rfl⟩;have h:∀(f:Nat->St) (x:St),upd f 0 x i=f i:=λf x=>upd_ne f x e;constructor<;>simp only[h]
 have c3:Bh t w gs.size (upd (upd (upd (lone s) 0 s1) 0 s2) 0 aa) (λb=>((Sh b∨b=F.wg)∨b=F.mu)∨b=F.nx):=by
  have:=c2.share (i:=0) Y (b₀:=F.nx) (o₀:=F.IS 0) (by rw[upd_same];simp[s2,s1,aq,ar,ae]);refine this.congr λi hi=>?_;by_cases e:i=0;subst e;simp only[upd_same];exact⟨rfl,rfl⟩;have h:∀(f:Nat->St) (x:St),upd f 0 x i=f i:=λf x=>upd_ne f x e;constructor<;>simp only[h]
 have c4:Bh t w gs.size (upd (upd (upd (upd (lone s) 0 s1) 0 s2) 0 aa) 0 ⟨s.E,H0 s.H F.wg F.mu F.nx F.fd,false⟩) (λb=>(((Sh b∨b=F.wg)∨b=F.mu)∨b=F.nx)∨b=F.fd):=by
  have:=c3.share (i:=0) Y (b₀:=F.fd) (o₀:=f₀) (by rw[upd_same];simp[aa,s2,s1,ao,ap,au,ag]);refine this.congr λi hi=>?_;by_cases e:i=0;subst e;simp only[upd_same];exact⟨rfl,rfl⟩;have h:∀(f:Nat->St) (x:St),upd f 0 x i=f i:=λf x=>upd_ne f x e;constructor<;>simp only[h]
 have O:∀b,s.H b≠none->∀x a,touchAt t x=some a->BK a.loc=some b->Knows t 0 x:=λb hb=>hC.Bl.kH 0 Y b (by rw[av];exact hb);have ah:=hC.Bl.fits 0 Y;obtain⟨ρ,aD⟩:=aB;let φ:Nat->Nx:=λi=>if i=0 then .ph (.El 0) else .gone (Deaf t i)
 have z:∀f:Nx->Nat,(∀d,f (.gone d)=0)->f (.ph (.El 0))=0->(sumTo gs.size λi=>f (φ i))=0:=by
  intro f h1 aw;have:=sumTo_le (f:=λi=>f (φ i)) (c:=0) (j:=gs.size) λi _=>by
   show f (φ i)<=0;by_cases e:i=0;simp[φ,e,aw];simp[φ,e,h1]
  omega
 have U:∀f:LP->Nat,Sg f gs.size φ=0:=λf=>z (BT f) (λ_=>rfl) rfl;have aE:∀i,(upd (upd (upd (upd (lone s) 0 s1) 0 s2) 0 aa) 0 ⟨s.E,H0 s.H F.wg F.mu F.nx F.fd,false⟩) i=if i=0 then⟨s.E,H0 s.H F.wg F.mu F.nx F.fd,false⟩ else .quiet:=by
  intro i;by_cases e:i=0;subst e;rw[upd_same];rfl;rw[upd_ne _ _ e,upd_ne _ _ e,upd_ne _ _ e,upd_ne _ _ e];simp[lone,e]
 have aF:F.Gr (Fam.word 0 0) (0:Nat)=F.Gr 0 0:=by simp[Fam.word]
 have aG:F.Gp M4.zero.num (0:Nat)=F.Gp 0 0:=by simp[M4.num,M4.zero]
 have ai:∀i,i<gs.size->(i=0∨gs.size<=i)->i=0:=λi hi Z=>by omega
 have aH:∀i,¬ins (φ i):=λi h=>by
  by_cases e:i=0;simp[φ,e,ins] at h;simp[φ,e,ins] at h
 have aI:∀i k p,φ i≠ .ph (.lk k p):=λi k p h=>by
  by_cases e:i=0;simp[φ,e] at h;simp[φ,e] at h
 have aJ:∀i l,φ i≠ .ph (.B3 l):=λi l h=>by
  by_cases e:i=0;simp[φ,e] at h;simp[φ,e] at h
 have aj:Inv P F ⟨gs.size,t.size,s.E,w⟩ gs w t φ (λi=>if i=0 then ρ else chain (q i)) (λ_=>true) (upd (upd (upd (upd (lone s) 0 s1) 0 s2) 0 aa) 0 ⟨s.E,H0 s.H F.wg F.mu F.nx F.fd,false⟩) (λb=>(((Sh b∨b=F.wg)∨b=F.mu)∨b=F.nx)∨b=F.fd) 0 false 0 0 0 M4.zero 0 (f₀,0):=by
  refine⟨?_,⟨?_,λi hi=>?_⟩,⟨λi hi=>?_,λi hi=>hC.lv.above i hi,λx a b K hb ak V i hi Z=>?_,λx a b K hb ak V=>?_,λx a K hb=>.inl λi hi Z=>?_,λx a K hb=>.inl λi hi Z=>?_,λi _ aj=>absurd aj (aH i),λx g aK aL aM=>.inl (hC.over x g aK aL aM),λx K e=>?_,λx K e=>?_,kG _,λk V=>by omega⟩,λi g' al=>?_,c4,.inl (.inl (.inl (.inr rfl))),.inl (.inl (.inr rfl)),.inr rfl,an,ao,ap,.inl (.inr rfl),aq,ar,au,az,ay,by simp[φ],?_,?_,⟨ah.h _ _ ag,ah.h _ _ ae⟩,λi hi h=>(by cases h),⟨⟨_,aA,λ_ h=>h.elim,λi hi=>absurd hi (mP _)⟩,λa i p _ h=>absurd h (aI a i p),λa l _ h=>absurd h (aJ a l),λk V=>absurd V (mP _),lz _⟩,?_,rfl,.refl _,rfl⟩
  .rw [HA];refine⟨Y,am,by omega,by simp,lz _,by simp,⟨.El 0,rfl,rfl,am,rfl⟩,λi h1 aw=>?_,λk V=>by omega,by simp,?_,by simp[φ,pend],?_,λk V=>by omega,.nil,λk V=>by cases V⟩
   .have:i≠0:=by omega
    simp[φ,this,Mf]
   have:=z cU (λ_=>rfl) rfl;simp only[kF,k6];rw[this];simp[φ,pend];simp only[kV,lE,Ct];exact⟨z cL (λ_=>rfl) rfl,z cS (λ_=>rfl) rfl,trivial,trivial,trivial⟩
  rw[U,U,U,U,U,U,U,U];simp[LN,M4.zero];by_cases e:i=0;simp[φ,e,KW];simp[φ,e,KW];by_cases e:i=0;subst e;simp[φ,D9];exact hC.hears;simp[φ,e,D9];obtain rfl:=ai i hi Z;rcases ak with rfl | rfl | rfl;exact O _ (by rw[ab];simp) x a K hb;exact O _ (by rw[ac];simp) x a K hb;exact O _ (by rw[ae];simp) x a K hb;rcases ak with rfl | rfl | rfl;exact O _ (by rw[ab];simp) x a K hb;exact O _ (by rw[ac];simp) x a K hb;exact O _ (by rw[ae];simp) x a K hb;obtain rfl:=ai i hi Z;exact O _ (by rw[ag];simp) x a K hb;obtain rfl:=ai i hi Z;exact O _ (by rw[ag];simp) x a K hb;have:=lt_of_act? e;have aN:t.size<=x:=K;omega;have:=lt_of_act? e;have aN:t.size<=x:=K;omega
  .rw [aE];by_cases e:i=0;subst e;rw[hC.main] at al;obtain rfl:=d0 al;simp only[lL,φ];exact .walk rfl (λh=>by cases h) aD
   .have hm:(i==0)=false:=by rw[beq_eq_false_iff_ne];exact e
    simp only[e,lE,φ];exact .gone hm (hC.lv.old i g' (by omega) al)
  show w.heap[F.wg]?=_;rw[aF];exact ah.h _ _ ab;show w.heap[F.mu]?=_;rw[aG];exact ah.h _ _ ac;rw[upd_same];exact Le.refl _
 obtain⟨n,gs',w',aO,aP,aQ,q',aR,g',s',aS,aT,hle,aU,aV,aW⟩:=Inv.run _ _ _ sl _ _ _ _ _ _ _ _ _ _ _ _ _ _ rfl aj;let⟨aX,aY,w2,aZ,t2,a2,a3,g2,a4,k1,a5,a6,a7,a8,a9,ba⟩:=aC g' s' aT gs' w' aO aP q' aR aS;refine⟨n+aX,aY,w2,aZ,t2,a2,a3,g2,a4,?_,a5,a6,λb o h=>a7 b o (hle b o h),a8.trans aU,aV.trans a9,ba.trans aW⟩;rw[runNT_add,aQ];exact k1
end Pal
namespace Pal
open Go Go.Conc
variable {ops:Ao_}{i:Nat}{rest:List Nat}{d:Option Tmp}{f:FuncId}{args:Array Operand}{ats:Array TypeId}{ty:TypeId}{pp:String}{af:Ae_}{g:On_}{vs:Lv_}{p q:Ph}
variable{fn:Func}{w:World}{sm v':Nat}{T:Av_}{ad:Addr}
section
variable {P:Program}{F:Fam}{J:Judge P}{Q:GP}{n:Nat}{L L':Env}{ds:Ld_}{k:Li_}{cs:Lf_}{s s':St}{b:Frame}{main:Bool}
theorem Be(hb:b.roundOf=none)(T:Av_)(todo:Li_):fr b T ds todo=b.at ⟨T,ds⟩ todo:=by simp[fr,Frame.at,hb]
theorem I6(hb:b.roundOf=none)(T:Av_)(todo:Li_):Dw b T ds todo={b.at ⟨T,ds⟩ todo with mode:=.returning}:=by simp[Dw,Frame.at,hb]
theorem CQ(T:Av_)(ds:Ld_)(x:Operand):(⟨T,ds⟩:Act).eval x=Bc T x:=by cases x<;>rfl
theorem CH(T:Av_)(ds:Ld_)(d:Option Tmp)(v:Value):(⟨T,ds⟩:Act).put d v=⟨B6 T d v,ds⟩:=by cases d<;>rfl
def JO(J:Judge P)(Q:GP)(b:Frame)(n:Nat)(L:Env)(ds:Ld_)(cs:Lf_)(s:St):Prop:=
 ∀T,Has n L T->∀todo,J.ok Q (G (Dw b T ds todo) cs) s
theorem JL.out(K:b.roundOf=none)(h:JO J Q b n L ds cs s):JL J Q b n L ds [] cs s:=λT O=>
 Judge.CM V (λw=>by simp[G,stepG,stepG.exec,fr,Dw,K]) (h T O [])
theorem Hm(K:b.roundOf=none)(h:JO J Q b n L ds cs s):JL J Q b n L ds (.code .ret::k) cs s:=λT O=>
 Judge.CM V (λw=>by simp[G,stepG,stepG.exec,fr,Dw,K]) (h T O (.code .ret::k))
theorem JO.leave{c:Frame}{v:Value}(O:b.kind=.normal)(K:Ay P b.fn L n s v)(h:J.ok Q (G (c.finish v) cs) s):JO J Q b n L [] (c::cs) s:=λT U todo=>by
 obtain⟨fn,V,K⟩:=K
 exact Judge.leave O V (K T U) h
theorem JO.leaveD{c:Frame}(O:b.kind=.deferred)(U:P.funcs[b.fn]?=some fn)(K:fn.results=#[])(V:c.mode=.returning∨c.mode=.panicking [goexitEntry])(h:J.ok Q (G c cs) s):JO J Q b n L [] (c::cs) s:=λT Z todo=>by
 refine Judge.CM rfl (λw=>?_) h
 have Y:=results_none K T P w
 have e2:=λ(x:Array Event)=>events_results_none (P:=P) (w:=w) K T x
 rcases V with e | e<;>simp[G,stepG,unwind,Dw,U,Y,e2,doReturn,O,GStep.after,seen_none,e,goexitEntry]
theorem JO.enter{f:FuncId}{c:Code}{vs:Lv_}(O:b.roundOf=none)(V:P.funcs[f]?=some fn)(Y:(fn.name== "runtime.NumGoroutine")=false)(hb:fn.body=some c)(ac:vs.length<=fn.ntmps)
  (h:∀T,Has n L T->∀todo,JL J Q (baseD f) fn.ntmps (Gh 0 vs) [] [.code c] (Dw b T ds todo::cs) s):JO J Q b n L (dcall f vs.toArray::ds) cs s:=λT Z todo=>by
 refine Judge.CM rfl (λw=>?_) (h T Z todo (vs.toArray++Array.replicate (fn.ntmps - vs.length) undef) ⟨by simp;omega,λt v aa=>?_⟩)
 .rw [I6 O,stepG_unwind_enter (a:=⟨T,dcall f vs.toArray::ds⟩) rfl V Y hb,I6 O]
  rw[Be (b:=baseD f) rfl];simp
 .let⟨_,K⟩:=Kd aa;have ab:t<vs.length:=by
   rcases kC t vs.length with U | U;exact U;simp at K;have:=(d8.1 K).1;omega
  rw[kA,lT (by simpa using ab)];simp at K;simp[K]
theorem JL.defer{ops:Ao_}{i:Nat}{rest:List Nat}{d:Option Tmp}{f:FuncId}{args:Array Operand}{ats:Array TypeId}{ty:TypeId}{p:String}{af:Ae_}{g:On_}{vs:Lv_}
  (U:ops[i]?=some ⟨d,.defer ⟨.value (.func f),args,ats⟩,ty,p,af,g⟩) (V:b.roundOf=none) (hw:AO L ops ⟨d,.defer ⟨.value (.func f),args,ats⟩,ty,p,af,g⟩=some true) (K:((b.kind != .early)&&A5 n d)=true)
  (Y:evs L args.toList=some vs) (h:JL J Q b n (Az L d undef) (dcall f vs.toArray::ds) (.inRegion ops rest::k) cs s):
  JL J Q b n L ds (.inRegion ops (i::rest)::k) cs s:=λT O=>by
 simp only[f5] at K
 have Z:args.map (Bc T)=vs.toArray:=by
  rw[← F6 O.Gi Y];apply lJ;simp
 refine Judge.oper U (BF O hw) (by simpa using K.1) (.inl V) ?_;have hd:execOp (Bc T) ⟨d,.defer ⟨.value (.func f),args,ats⟩,ty,p,af,g⟩=.pure (.defer (dcall f vs.toArray)):=by
  simp only[execOp,resolve,bind,Sem.bind,Deferred.ofValue,Bc,pure,dcall];rw[Z];simp
 rw[hd];exact h _ (O.put K.2 undef)
def Jf:Ph->Bool
 | .Fo _ | .En _ | .Fs | .Eh _ _ | .Ge | .D6 | .EN | .lk _ _ | .B3 _=>false
 | _=>true
theorem GY{p:Ph}{g:Goroutine}(h1:Jf p=true)(O:g.status=.running)(U:g.offers=none)(K:if Fam.BW p=true then s=.quiet else s.q=false)(V:p=.D5->mayWake P g=true)
  (h:∀v wt sm v' wt' sm' es nx,F.act p v wt sm=some ((v',wt',sm'),es,nx)->∃g',(∀w,F.WG w v wt sm->stepG P (Fam.B2 p) g w=.go g' (F.put w v' wt' sm') es)/\g'.status=.running/\K3 P (Stop P F) (Fam.B2 p) nx g' (Fam.HL p s)):Stop P F p g s:=
 ER.stop {
  run:=O
  offers:=U
  quiet:=λe=>by rw[d5 e] at K;exact K
  live:=λe=>by rw[d7 (by rw[e];simp)] at K;exact K
  act:=h
  GK:=λe=>by rcases e with e | ⟨k,b,e⟩;exact V e;subst e;cases h1
  Ds:=λe=>by subst e;cases h1
  go:=λj e=>by subst e;cases h1
  lk:=λk l e=>by subst e;cases h1
  BL:=λk sv e=>by subst e;cases h1
  store:=λk e=>by subst e;cases h1
  take:=λlo e=>by subst e;cases h1
  fin:=λe=>by subst e;cases h1}
theorem I8{v wt:Nat}(h:F.WG w v wt sm):F.put w v wt sm=w:=by
 unfold Fam.put;have:w.heap.setIfInBounds F.wg (F.Gr (Fam.word v wt) sm)=w.heap:=by
  apply lf;intro i;by_cases e:F.wg=i
  .subst e;unfold Fam.WG at h;have O:F.wg<w.heap.size:=by
    rcases kC F.wg w.heap.size with K | K;exact K;simp[kJ K] at h
   rw[kD O,h]
  .rw [f6 e]
 rw[this]
theorem G1{v wt:Nat}(h:F.WG w v wt sm):w.cell? F.sA=some (.int .u64 (Fam.word v wt))/\w.cell? F.mA=some (.int .u32 sm)/\w.frozen? F.sA=false/\w.frozen? F.mA=false:=by
 unfold Fam.WG Fam.Gr at h;refine⟨?_,?_,?_,?_⟩;simp[World.cell?,Fam.sA,h];simp[World.cell?,Fam.mA,h];simp[World.frozen?,Fam.sA,h];simp[World.frozen?,Fam.mA,h]
theorem Lw{v wt wt':Nat}(h:F.WG w v wt sm):w.setCell F.sA (.int .u64 (Fam.word v' wt'))=F.put w v' wt' sm:=by
 unfold Fam.put World.setCell;congr 1;apply lf;intro i;unfold Fam.WG Fam.Gr at h;rw[lK];have O:F.wg<w.heap.size:=by
  rcases kC F.wg w.heap.size with K | K;exact K;simp[kJ K] at h
 by_cases e:F.wg=i;subst e;rw[kD O,h];simp[Fam.sA,Fam.Gr];rw[f6 e];simp[Fam.sA,e]
theorem O5{v wt sm':Nat}(h:F.WG w v wt sm):w.setCell F.mA (.int .u32 sm')=F.put w v wt sm':=by
 unfold Fam.put World.setCell;congr 1;apply lf;intro i;unfold Fam.WG Fam.Gr at h;rw[lK];have O:F.wg<w.heap.size:=by
  rcases kC F.wg w.heap.size with K | K;exact K;simp[kJ K] at h
 by_cases e:F.wg=i;subst e;rw[kD O,h];simp[Fam.mA,Fam.Gr];rw[f6 e];simp[Fam.mA,e]
structure Bq (P:Program) (f:FuncId) (e:Av_->Sem Value):Prop where
 h:∃fn,P.funcs[f]?=some fn/\(fn.name== "runtime.NumGoroutine")=false/\fn.body.isNone=true/\Extern.findNext fn=none/\Extern.find fn=some e
theorem Im(K:Has n L T)(O:evs L args.toList=some vs):args.map (⟨T,ds⟩:Act).eval=vs.toArray:=by
 have:(⟨T,ds⟩:Act).eval=Bc T:=funext λx=>CQ T ds x;rw[this,← F6 K.Gi O];apply lJ;simp
theorem Km{m:Mark}(Y:Jf p=true)(Z:if Fam.BW p=true then s=.quiet else s.q=false)(aa:p≠ .D5)(ab:∀v wt sm,F.act p v wt sm=some ((v,wt,sm),#[Fam.BJ m],.ph q))(ac:Fam.HL p s=s)
  (ae:ops[i]?=some ⟨d,.call ⟨.value (.func f),args,ats⟩,ty,pp,af,g⟩) (O:b.roundOf=none) (hw:AO L ops ⟨d,.call ⟨.value (.func f),args,ats⟩,ty,pp,af,g⟩=some true) (K:((b.kind != .early)&&A5 n d)=true)
  (hm:∀x,m≠ .extern x) (he:Bq P f (λ_=>do mark m;pure Extern.Race.none_))
  (h:JL (AF P (Fam.B2 p)) (Stop P F q) b n (Az L d (.tuple #[])) ds (.inRegion ops rest::k) cs s):
  JL (AF P (Fam.B2 p)) (Stop P F p) b n L ds (.inRegion ops (i::rest)::k) cs s:=λT U=>by
 simp only[f5] at K
 obtain⟨fn,ag,ah,hb,ai,he⟩:=he.h
 refine(AF P _).stop (GY Y rfl rfl Z (λe=>absurd e aa) λv wt sm v' wt' sm' es nx V=>?_)
 rw[ab] at V;cases V
 refine⟨_,λw aj=>?_,rfl,by rw[ac];exact h _ (U.put K.2 _)⟩
 rw[Be O,Be O,stepG_mark0 (a:=⟨T,ds⟩) m hm ae (BF U hw) (by simpa using K.1) rfl ag ah hb ai he,I8 aj,CH]
 rfl
theorem Nw{mk:Addr->Mark}(Y:Jf p=true)(Z:if Fam.BW p=true then s=.quiet else s.q=false)(aa:p≠ .D5)(ab:∀v wt sm,F.act p v wt sm=some ((v,wt,sm),#[Fam.BJ (mk ad)],.ph q))
  (ac:ops[i]?=some ⟨d,.call ⟨.value (.func f),args,ats⟩,ty,pp,af,g⟩) (U:b.roundOf=none) (hw:AO L ops ⟨d,.call ⟨.value (.func f),args,ats⟩,ty,pp,af,g⟩=some true) (K:((b.kind != .early)&&A5 n d)=true)
  (hm:∀ad x,mk ad≠ .extern x) (he:Bq P f (Extern.Race.marked mk)) (ae:evs L args.toList=some vs) (ag:vs[0]?=some (.pointer (some ad)))
  (h:JL (AF P (Fam.B2 p)) (Stop P F q) b n (Az L d (.tuple #[])) ds (.inRegion ops rest::k) cs (Fam.HL p s)):
  JL (AF P (Fam.B2 p)) (Stop P F p) b n L ds (.inRegion ops (i::rest)::k) cs s:=λT O=>by
 simp only[f5] at K
 obtain⟨fn,ah,ai,hb,aj,he⟩:=he.h
 refine(AF P _).stop (GY Y rfl rfl Z (λe=>absurd e aa) λv wt sm v' wt' sm' es nx V=>?_)
 rw[ab] at V;cases V
 refine⟨_,λw ak=>?_,rfl,h _ (O.put K.2 _)⟩
 rw[Be U,Be U,stepG_markAt (a:=⟨T,ds⟩) mk hm ac (BF O hw) (by simpa using K.1) rfl ah ai hb aj he (ad:=ad) (by rw[Im O ae];simpa using ag),I8 ak,CH]
 rfl
end
variable {E:LH}{S:List Seg}{j l:Nat}{o':Obj}
section
variable {H:LH}{o:Obj}
theorem Jd(ab:Ak E H S)(U:S[j]?=some [(l,o)])(o':Obj):(Ae E H S).upd l o'=Ae E H (S.set j [(l,o')])/\Ak E H (S.set j [(l,o')]):=by
 obtain⟨h1,V⟩:=FJ ab U;have O:=Nd.iff.1 V;have Y:E l=none:=(O.2 (l,o) (by simp)).1;have ac:H l=none:=(O.2 (l,o) (by simp)).2;have Z:Nd E H (S.set j []).flatten:=HU.Nd.left V;have ae:∀q∈(S.set j []).flatten,q.1≠l:=λq K e=>by
  have:=O.1;rw[k7,ls] at this;exact this.2.2 q.1 (mw K) l (by simp) e
 have aa:AS (S.set j []).flatten H l=none:=by
  have key:∀(B:List (Nat×Obj)),(∀q∈B,q.1≠l)->AS B H l=none:=by
   intro B
   induction B with
   | nil=>intro _;exact ac
   | cons q B ag=>
    intro K;obtain⟨c,ah⟩:=q;have h0:l≠c:=λe=>K (c,ah) (by simp) e.symm;have h1:=ag λq' ai=>K q' (kO _ ai);simp only[AS]
    first
    | rw[d7 h0];exact h1
    | rw[d7 (kU h0)];exact h1
  exact key _ ae
 have f1:=IB (E:=E) (H:=H) (B:=(S.set j []).flatten) (r:=l) Y aa o Z;have f2:=IB (E:=E) (H:=H) (B:=(S.set j []).flatten) (r:=l) Y aa o' Z;let⟨aj,g2⟩:=Hu (seg:=[(l,o)]) U f2.1;refine⟨?_,g2⟩;rw[h1,← aj,← f1.2,← f2.2];unfold St.upd;congr 1;funext x;by_cases ak:x=l<;>simp[ak]
end
variable {P:Program}{J:Judge P}{Q:Gs_}{L:Env}{ds:Ld_}{k:Li_}{cs:Lf_}
variable{r:Loop}
section
variable {b:Frame}{n:Nat}{H:LH}
theorem Judge.Ds{α:Type}{g:Goroutine}{g':α->Goroutine}{s:St}(x:Sem α)(Y:s.q=false)(Z:g.status=.running)
  (aa:∀w a w',x.run P w=.ok a w'->∃es,stepG P J.main g w=.go (g' a) w' es/\∀e∈es,e∈x.events P w #[])
  (h:lp P x s (λa s'=>J.ok Q (g' a) s') (λ_ _=>False)):J.ok Q g s:=by
 refine J.step ⟨Z,λw f=>?_,λe=>by subst e;cases Y⟩;let⟨s',h1,O,U,K⟩:=LJ _ h f;cases V:x.run P w with
 | ok a w'=>
  rw[V] at h1 O U K;simp only[IL] at h1 O U;let⟨es,he,hm⟩:=aa w a w' V;exact⟨g' a,s',w',es,he,K,h1,O,λe ab=>U e (hm e ab)⟩
 | halt a w'=>rw[V] at K;exact K.elim
theorem Lt{s:St}{K:Loop->St->Prop}{X:Halt->St->Prop}(h:s.get l=some (.loop r))(k:K r s):lp P (Instr.getLoop l) s K X:=by
 unfold Instr.getLoop getObj;simp only[bind,Sem.bind,lp];exact⟨_,h,V,k⟩
theorem RA(j:Nat)(K:Ak E H S)(O:S[j]?=some [(l,.loop r)])(U:(r.state== .busy)=false)(V:r.pending=none)
  (h:Ak E H (S.set j [(l,.loop {r with state:=.exhausted})])->J.ok Q (G (fr b T ds k) cs) (Ae E H (S.set j [(l,.loop {r with state:=.exhausted})]))):
  J.ok Q (G (fr b T ds (.endRangeFunc l::k)) cs) (Ae E H S):=by
 let⟨Y,Z⟩:=Jd K O (.loop {r with state:=.exhausted});have aa:lp P (Instr.endLoop l) (Ae E H S) (λa s'=>a=none/\s'=Ae E H (S.set j [(l,.loop {r with state:=.exhausted})])) (λ_ _=>False):=by
  unfold Instr.endLoop;refine AG _ _ (Lt (Dp (i:=0) K O rfl) ?_);rw[d7 (by rw[U];simp)];have ab:(Ae E H S).H l=some (.loop r):=by
   have:=Dp (i:=0) K O rfl;have ac:E l=none:=Ml K O;unfold St.get at this;rw[show(Ae E H S).E l=none from ac] at this;exact this
  simp only[bind,Sem.bind,lp,setObj,pure];refine⟨⟨_,ab,rfl⟩,rfl,V,?_⟩;exact Y
 refine Judge.Ds (g':=λae=>G (fr b T ds ((ae.map Item.code).toList++k)) cs) (Instr.endLoop l) rfl rfl (λw a w' ag=>?_) (CL _ aa (λa s' ⟨h1,ah⟩=>by subst h1 ah;exact h Z) (λ_ _ h=>h));refine⟨seen P b.fn ((Instr.endLoop l).events P w #[])++ #[],?_,λe he=>?_⟩;simp[G,stepG,stepG.exec,fr,ag,GStep.after];exact mem_seen (by simpa using he)
def QT(l:Nat)(f:FuncId):Frame:={(default:Frame) with fn:=f,kind:=.normal,roundOf:=some l}
theorem He.yield{t:Tmp}{v:Value}{B:Seg}{R:Value->LH->Seg->Prop}{i:Nat}(K:B[i]?=some (l,.loop r))(O:r.params=#[t])
  (h:∀(Q:Gs_) (U:Frame) (cs:Lf_) (H:LH),Ak E H [B]->(∀w E' S' B',Le E E'->S'.flatten=B'->R w E' B'->Ak E' H S'->J.ok Q (G (U.finish w) cs) (Ae E' H S'))->
   J.ok Q (G (fr (QT l r.fn) (r.tmps.setIfInBounds t v) [] [.code r.assign,.beginRound,.code r.body]) (U::cs)) (Ae E H [B])):
  He J (.func (.yield l) #[] #[]) [v] E B R:=λH V Q c cs Y=>by
 have Z:(mk E H B).get l=some (.loop r):=Nn V K
 simp only[Deferred.ofValue,bind,Sem.bind,pure,invoke]
 unfold Instr.yield
 refine AG _ _ (Lt Z ?_)
 have aa:¬((#[]:Av_)++ [v].toArray).size≠r.params.size:=by rw[O];simp
 rw[d7 aa];have e2:((r.params.zip ((#[]:Av_)++ [v].toArray)).foldl (λtmps (t,a)=>tmps.setIfInBounds t a) r.tmps)=r.tmps.setIfInBounds t v:=by rw[O];simp[Array.zip,Array.zipWith,Array.zipWithMAux]
 simp only[lp,pure];have ab:mk E H B=Ae E H [B]:=by unfold Ae;simp
 rw[e2,ab];exact h Q c cs H (by unfold Ak;simpa using V) λw E' S' B' hle K ac ae=>by
  subst K;exact Y w _ ⟨E',S'.flatten,hle,ac,ae,rfl⟩
theorem JL.beginRound(j:Nat)(U:b.roundOf=some l)(V:b.kind=.normal)(K:Ak E H S)(O:S[j]?=some [(l,.loop r)])(Y:r.state=.ready)
  (h:Ak E H (S.set j [(l,.loop {r with state:=.busy})])->JL J Q b n L ds k cs (Ae E H (S.set j [(l,.loop {r with state:=.busy})]))):
  JL J Q b n L ds (.beginRound::k) cs (Ae E H S):=λT Z=>by
 let⟨aa,ab⟩:=Jd K O (.loop {r with state:=.busy})
 have ac:lp P (Instr.beginRound l) (Ae E H S) (λ_ s'=>s'=Ae E H (S.set j [(l,.loop {r with state:=.busy})])) (λ_ _=>False):=by
  unfold Instr.beginRound;refine AG _ _ (Lt (Dp (i:=0) K O rfl) ?_);have ae:(Ae E H S).H l=some (.loop r):=by
   have:=Dp (i:=0) K O rfl;have ag:E l=none:=Ml K O;unfold St.get at this;rw[show(Ae E H S).E l=none from ag] at this;exact this
  simp only[bind,Sem.bind,lp,setObj,pure,Y];exact⟨⟨_,ae,rfl⟩,rfl,aa⟩
 refine Judge.Ds (g':=λ_=>G (fr b T ds k) cs) (Instr.beginRound l) rfl rfl (λw a w' ah=>?_) (CL _ ac (λa s' ai=>by subst ai;exact h ab T Z) (λ_ _ h=>h));refine⟨seen P b.fn ((Instr.beginRound l).events P w #[])++ #[],?_,λe he=>?_⟩;simp[G,stepG,stepG.exec,fr,stepG.apply,U,V,ah,GStep.after,Frame.finish];exact mem_seen (by simpa using he)
theorem Il{o:Obj}{seg:Seg}(K:Ak E H S)(O:S[j]?=some ((l,o)::seg)):(Ae E H S).H l=some o:=by
 have:=Dp (i:=0) K O V;have U:E l=none:=Ml K O;unfold St.get at this;rw[show(Ae E H S).E l=none from U] at this;exact this
theorem JL.endRound{c:Frame}(j:Nat)(U:b.roundOf=some l)(V:b.kind=.normal)(K:Ak E H S)(O:S[j]?=some [(l,.loop r)])
  (h:Ak E H (S.set j [(l,.loop {r with state:=.ready,pending:=none})])->J.ok Q (G (c.finish (.bool true)) cs) (Ae E H (S.set j [(l,.loop {r with state:=.ready,pending:=none})]))):
  JL J Q b n L [] [] (c::cs) (Ae E H S):=λT ae=>by
 let⟨Y,Z⟩:=Jd K O (.loop {r with state:=.ready,pending:=none})
 have aa:lp P (Instr.endRound l none) (Ae E H S) (λa s'=>a=.bool true/\s'=Ae E H (S.set j [(l,.loop {r with state:=.ready,pending:=none})])) (λ_ _=>False):=by
  unfold Instr.endRound;refine AG _ _ (Lt (Dp (i:=0) K O rfl) ?_);simp only[bind,Sem.bind,lp,setObj,pure];exact⟨⟨_,Il K O,rfl⟩,rfl,rfl,Y⟩
 refine Judge.Ds (g':=λv=>G (c.finish v) cs) (Instr.endRound l none) rfl rfl (λw a w' ab=>?_) (CL _ aa (λa s' ⟨h1,ac⟩=>by subst h1 ac;exact h Z) (λ_ _ h=>h));refine⟨seen P b.fn ((Instr.endRound l none).events P w #[])++ #[],?_,λe he=>?_⟩;simp[G,stepG,stepG.exec,fr,U,V,ab,GStep.after,doReturn];exact mem_seen (by simpa using he)
theorem JL.rangeFunc{x:Operand}{params:Array Tmp}{as O:Code}{f:FuncId}{caps:Lv_}(ae:b.roundOf=none)(ag:b.kind≠ .early)(Z:ev L x=some (.func (.func f) #[] caps.toArray))(hb:Dd P f=true)(ah:Ak E H S)
  (h:∀K l T,Has n L T->Ak E H (S++ [[(K,.deferred (some []))]]++ [[(l,.loop ⟨.ready,none,b.fn,T,params,as,O,K⟩)]])->
   J.ok Q (G (Frame.enter P f (.func (.yield l) #[] #[]::caps).toArray .normal) (fr b T (⟨.collected K,#[]⟩::ds) (.inRangeFunc l::k)::cs)) (Ae E H (S++ [[(K,.deferred (some []))]]++ [[(l,.loop ⟨.ready,none,b.fn,T,params,as,O,K⟩)]]))):
  JL J Q b n L ds (.code (.rangeFunc x params as O)::k) cs (Ae E H S):=λT aa=>by
 have ai:lp P (Instr.enterLoop b.fn T params as O b.roundOf) (Ae E H S) (λq s'=>∃K,q.2=[⟨.collected K,#[]⟩]/\Ak E H (S++ [[(K,.deferred (some []))]]++ [[(q.1,.loop ⟨.ready,none,b.fn,T,params,as,O,K⟩)]])/\s'=Ae E H (S++ [[(K,.deferred (some []))]]++ [[(q.1,.loop ⟨.ready,none,b.fn,T,params,as,O,K⟩)]])) (λ_ _=>False):=by
  unfold Instr.enterLoop;rw[ae];simp only[newObj,bind,Sem.bind,lp,pure];refine⟨rfl,λK h1 V=>?_⟩;let⟨Y,aj⟩:=IB h1 V (.deferred (some [])) ah;let⟨p1,p2⟩:=F8 Y;have ak:(Ae E H S).upd K (.deferred (some []))=Ae E H (S++ [[(K,.deferred (some []))]]):=by rw[← p1,← aj];rfl
  rw[ak];refine⟨rfl,λl al am=>?_⟩;let⟨an,ao⟩:=IB al am (.loop ⟨.ready,none,b.fn,T,params,as,O,K⟩) p2;let⟨p3,p4⟩:=F8 an;exact⟨K,rfl,p4,by rw[← p3,← ao];rfl⟩
 refine Judge.Ds (g':=λq=>G (Frame.enter P f (.func (.yield q.1) #[] #[]::caps).toArray .normal) (fr b T (q.2++ds) (.inRangeFunc q.1::k)::cs)) (Instr.enterLoop b.fn T params as O b.roundOf) rfl rfl (λw a w' ap=>?_) (CL _ ai (λa s' ⟨K,h1,V,Y⟩=>by subst Y;simp only[h1];exact h K a.1 T aa V) (λ_ _ h=>h));obtain⟨l,mk⟩:=a;have aq:Bc T x=.func (.func f) #[] caps.toArray:=aa.ev Z;obtain⟨fn,U,ar,ab⟩:∃fn,P.funcs[f]?=some fn/\(fn.name== "runtime.NumGoroutine")=false/\fn.body.isNone=false:=by
  unfold Dd at hb;cases U:P.funcs[f]? with
  | none=>rw[U] at hb;cases hb
  | some fn=>
   rw[U] at hb;simp only[f5,l3] at hb;exact⟨fn,rfl,hb.1,by cases Z:fn.body<;>simp_all⟩
 refine⟨seen P b.fn ((Instr.enterLoop b.fn T params as O b.roundOf).events P w #[])++ #[],?_,λe he=>?_⟩
 .have ac:=PN (b:=b) (ds:=mk++ds) T (.inRangeFunc l::k);simp only[fr] at ac;have au:¬fn.name= "runtime.NumGoroutine" :=by simpa using ar
  have av:¬fn.body=none:=by intro e;rw[e] at ab;cases ab
  have aw:Bc T (.const (.func (.yield l) #[] #[]))=.func (.yield l) #[] #[]:=rfl;simp[G,stepG,stepG.exec,fr,ap,GStep.after,stepG.apply,resolve,ac,aq,Deferred.ofValue,invoke,callFunc,U,au,av,ag,aw,seen_none]
 .exact mem_seen (by simpa using he)
theorem JO.collected{K:Nat}(j:Nat)(ae:b.roundOf=none)(O:Ak E H S)(U:S[j]?=some [(K,.deferred (some []))])
  (h:Ak E H (S.set j [(K,.deferred none)])->JO J Q b n L ds cs (Ae E H (S.set j [(K,.deferred none)]))):JO J Q b n L (⟨.collected K,#[]⟩::ds) cs (Ae E H S):=λT V todo=>by
 let⟨Y,Z⟩:=Jd O U (.deferred none)
 have aa:lp P (Instr.takeDeferred K) (Ae E H S) (λa s'=>a=[]/\s'=Ae E H (S.set j [(K,.deferred none)])) (λ_ _=>False):=by
  unfold Instr.takeDeferred getObj;simp only[bind,Sem.bind,lp,setObj,pure];exact⟨_,Dp (i:=0) O U rfl,rfl,⟨_,Il O U,rfl⟩,rfl,rfl,Y⟩
 refine Judge.Ds (g':=λl=>G (Dw b T (l++ds) todo) cs) (Instr.takeDeferred K) rfl rfl (λw a w' ab=>?_) (CL _ aa (λa s' ⟨h1,ac⟩=>by subst h1 ac;exact h Z T V todo) (λ_ _ h=>h));refine⟨seen P b.fn ((Instr.takeDeferred K).events P w #[])++ #[],?_,λe he=>?_⟩;simp[G,stepG,unwind,Dw,ab,GStep.after];exact mem_seen (by simpa using he)
end
variable {s:St}{ρ:Operand->Value}{x y z:Operand}{t u e:TypeId}{a:Option Addr}{c:Nat}
section
variable {p:String}
end
section
variable {b:Frame}{n:Nat}
end
variable {listed:Array Bool}
variable {v:Value}
section
variable {b:Frame}{n m fuel:Nat}{H:LH}
variable {p:String}
end
def Ha(P:Program)(d:Nat):GP:=λg _=>∃q,QuitsD P q d g
def IH(P:Program):Frame:={(default:Frame) with fn:=P.funcs.size,defers:=[],mode:=.panicking [goexitEntry]}
section
variable {P:Program}{F:Fam}{J:Judge P}{Q:GP}{n:Nat}{L L':Env}{ds:Ld_}{k:Li_}{cs:Lf_}{s s':St}{b:Frame}{main:Bool}
theorem Lv.quits{d:Nat}:∀{m:Nat}{g:Goroutine},Lv P (Ha P d) m g->∃q,QuitsD P q d g
 | 0,_,h=>h
 | m+1,_,h=>by
  rcases h with h | ⟨K,g',O,h⟩;exact h;obtain⟨q,U⟩:=h.quits;exact⟨q+1,.ctl K O U⟩
theorem Nb{d:Nat}{g:Goroutine}(h:(Gx P).ok (Ha P d) g .quiet):∃q,QuitsD P q d g:=by
 let⟨m,hm⟩:=h V;exact hm.quits
theorem OX:(Gx P).ok (Ha P 0) (G (IH P) []) .quiet:=by
 refine Judge.CM (g':={frame:=IH P,callers:=[],status:=.finished,dying:=none}) V (λw=>?_) ((Gx P).stop ⟨0,V,V⟩);have h0:(default:Frame).todo=[]:=V;have h1:∀(m:FrameMode),Frame.catches P {fn:=P.funcs.size,tmps:=(default:Frame).tmps,todo:=[],defers:=[],mode:=m,kind:=(default:Frame).kind,roundOf:=(default:Frame).roundOf}=false:=λm=>by simp[Frame.catches]
 simp[G,stepG,unwind,IH,goexitEntry,h0,h1]
theorem PR{ops:Ao_}{i:Nat}{rest:List Nat}{d:Option Tmp}{f:FuncId}{args:Array Operand}{ats:Array TypeId}{ty:TypeId}{pp:String}{af:Ae_}{g:On_}{e:Av_->Sem Value}
  (K:ops[i]?=some ⟨d,.call ⟨.value (.func f),args,ats⟩,ty,pp,af,g⟩) (he:Bq P f e):mayWake P (G (fr b T ds (.inRegion ops (i::rest)::k)) cs)=true:=by
 obtain⟨fn,O,_,hb,_⟩:=he.h;have U:fn.body.isSome=false:=by cases h:fn.body<;>simp_all
 simp[mayWake,G,fr,K,Frame.eval,O,U]
theorem Tb{v wt:Nat}(h1:1<=v)(K:v<2147483648)(O:wt<=1):IntKind.u64.wrap (Fam.word v wt+18446744069414584320)=Fam.word (v - 1) wt:=by
 simp only[Fam.word,Fam.KK,IntKind.wrap,IntKind.bits,IntKind.signed];simp;omega
theorem TH{v:Nat}(h:v<2147483647):IntKind.u64.wrap (Fam.word v 0+4294967296)=Fam.word (v+1) 0:=by
 simp only[Fam.word,Fam.KK,IntKind.wrap,IntKind.bits,IntKind.signed];simp;omega
theorem word_inj{v wt:Nat}(h:Fam.word v wt=Fam.word v' wt):v=v':=by
 simp only[Fam.word,Fam.KK] at h;omega
theorem Vh(aa:ops[i]?=some ⟨d,.call ⟨.value (.func f),#[x,y],ats⟩,ty,pp,af,g⟩)(Y:b.roundOf=none)(hw:AO L ops ⟨d,.call ⟨.value (.func f),#[x,y],ats⟩,ty,pp,af,g⟩=some true)(O:((b.kind != .early)&&A5 n d)=true)
  (he:Bq P f (Extern.Atomic.update (Op.intArith .add) .u64 true)) (ab:ev L x=some (.pointer (some F.sA))) (ac:ev L y=some (.int .u64 18446744069414584320))
  (h1:JL (AF P false) (Stop P F .FQ) b n (Az L d (.int .u64 (Fam.word 0 1))) ds (.inRegion ops rest::k) cs .quiet)
  (ae:∀v wt:Nat,v<2147483647->wt<=1->¬(v=0/\wt=1)->JL (Gx P) (Ha P 1) b n (Az L d (.int .u64 (Fam.word v wt))) ds (.inRegion ops rest::k) cs .quiet):
  JL (AF P false) (Stop P F .Gk) b n L ds (.inRegion ops (i::rest)::k) cs .quiet:=λT K=>by
 simp only[f5] at O
 obtain⟨fn,ag,ah,hb,ai,he⟩:=he.h
 refine(AF P _).stop (GY rfl rfl rfl rfl (by simp) λv wt sm v' wt' sm' es nx U=>?_)
 simp only[Fam.act] at U
 split at U
 .rename_i V
  cases U;refine⟨G (fr b (B6 T d (.int .u64 (Fam.word (v - 1) wt))) ds (.inRegion ops rest::k)) cs,λw Z=>?_,rfl,?_⟩
  .let⟨c1,_,c3,_⟩:=G1 Z;rw[Be Y,Be Y];show stepG P false _ w=_;rw[stepG_add_atomic (a:=⟨T,ds⟩) aa (BF K hw) (by simpa using O.1) rfl ag ah hb ai .u64 he (by rw[CQ];exact K.ev ab) (by rw[CQ];exact K.ev ac) c1 c3,Tb V.1 V.2.1 V.2.2,Lw Z,CH]
   rfl
  .split;rename_i e;obtain⟨rfl,rfl⟩:=e;exact h1 _ (K.put O.2 _);rename_i e;exact Nb (ae (v - 1) wt (by omega) V.2.2 (by omega) _ (K.put O.2 _))
 .cases U
theorem VC{j:Nat}(aa:s.q=false)(ab:ops[i]?=some ⟨d,.call ⟨.value (.func f),#[x,y],ats⟩,ty,pp,af,g⟩)(Y:b.roundOf=none)(hw:AO L ops ⟨d,.call ⟨.value (.func f),#[x,y],ats⟩,ty,pp,af,g⟩=some true)(O:((b.kind != .early)&&A5 n d)=true)
  (he:Bq P f (Extern.Atomic.update (Op.intArith .add) .u64 true)) (ac:ev L x=some (.pointer (some F.sA))) (ae:ev L y=some (.int .u64 4294967296))
  (h1:JL (AF P true) (Stop P F (.GQ j)) b n (Az L d (.int .u64 (Fam.word 1 0))) ds (.inRegion ops rest::k) cs s)
  (ag:∀v:Nat,1<=v->v<2147483647->JL (AF P true) (Stop P F (.Fz j)) b n (Az L d (.int .u64 (Fam.word (v+1) 0))) ds (.inRegion ops rest::k) cs s):
  JL (AF P true) (Stop P F (.GH j)) b n L ds (.inRegion ops (i::rest)::k) cs s:=λT K=>by
 simp only[f5] at O
 obtain⟨fn,ah,ai,hb,aj,he⟩:=he.h
 refine(AF P _).stop (GY rfl rfl rfl aa (by simp) λv wt sm v' wt' sm' es nx U=>?_)
 simp only[Fam.act] at U
 split at U
 .rename_i V
  obtain⟨V,rfl⟩:=V;cases U;refine⟨G (fr b (B6 T d (.int .u64 (Fam.word (v+1) 0))) ds (.inRegion ops rest::k)) cs,λw Z=>?_,rfl,?_⟩
  .let⟨c1,_,c3,_⟩:=G1 Z;rw[Be Y,Be Y];show stepG P true _ w=_;rw[stepG_add_atomic (a:=⟨T,ds⟩) ab (BF K hw) (by simpa using O.1) rfl ah ai hb aj .u64 he (by rw[CQ];exact K.ev ac) (by rw[CQ];exact K.ev ae) c1 c3,TH V,Lw Z,CH]
   rfl
  .split;rename_i e;subst e;exact h1 _ (K.put O.2 _);rename_i e;exact ag v (by omega) V _ (K.put O.2 _)
 .cases U
theorem Wo(ab:Jf p=true)(ac:if Fam.BW p=true then s=.quiet else s.q=false)(ae:p≠ .D5)(ag:Fam.HL p s=s)(ah:∀v wt sm r,F.act p v wt sm=some r->r.1=(v,wt,sm)/\r.2.1=#[Fam.Br F.sA])
  (ai:ops[i]?=some ⟨d,.call ⟨.value (.func f),#[x],ats⟩,ty,pp,af,g⟩) (U:b.roundOf=none) (hw:AO L ops ⟨d,.call ⟨.value (.func f),#[x],ats⟩,ty,pp,af,g⟩=some true) (K:((b.kind != .early)&&A5 n d)=true)
  (he:Bq P f (Extern.Atomic.loadT (.int .u64))) (aj:ev L x=some (.pointer (some F.sA)))
  (h:∀v wt sm r,F.act p v wt sm=some r->∃q,r.2.2=.ph q/\JL (AF P (Fam.B2 p)) (Stop P F q) b n (Az L d (.int .u64 (Fam.word v wt))) ds (.inRegion ops rest::k) cs s):
  JL (AF P (Fam.B2 p)) (Stop P F p) b n L ds (.inRegion ops (i::rest)::k) cs s:=λT O=>by
 simp only[f5] at K
 obtain⟨fn,ak,al,hb,am,he⟩:=he.h
 refine(AF P _).stop (GY ab rfl rfl ac (λe=>absurd e ae) λv wt sm v' wt' sm' es nx V=>?_)
 let⟨Y,e2⟩:=ah _ _ _ _ V
 let⟨q,Z,an⟩:=h _ _ _ _ V
 simp only at Y e2 Z
 cases Y
 subst e2 Z
 refine⟨_,λw aa=>?_,rfl,by rw[ag];exact an _ (O.put K.2 _)⟩
 let⟨c1,_,_,_⟩:=G1 aa
 rw[Be U,Be U,stepG_load_atomic (a:=⟨T,ds⟩) ai (BF O hw) (by simpa using K.1) rfl ak al hb am .u64 he (by rw[CQ];exact O.ev aj) c1,I8 aa,CH]
 rfl
theorem Ws(Z:ops[i]?=some ⟨d,.call ⟨.value (.func f),#[x,y],ats⟩,ty,pp,af,g⟩)(V:b.roundOf=none)(hw:AO L ops ⟨d,.call ⟨.value (.func f),#[x,y],ats⟩,ty,pp,af,g⟩=some true)(U:((b.kind != .early)&&A5 n d)=true)
  (he:Bq P f Extern.Atomic.storeT) (aa:ev L x=some (.pointer (some F.sA))) (ab:ev L y=some (.int .u64 0))
  (h:JL (AF P false) (Stop P F .D5) b n (Az L d (.tuple #[])) ds (.inRegion ops rest::k) cs .quiet):
  JL (AF P false) (Stop P F .Gd) b n L ds (.inRegion ops (i::rest)::k) cs .quiet:=λT K=>by
 simp only[f5] at U
 obtain⟨fn,ac,ae,hb,ag,he⟩:=he.h
 refine(AF P _).stop (GY rfl rfl rfl rfl (by simp) λv wt sm v' wt' sm' es nx O=>?_)
 simp only[Fam.act] at O
 split at O
 .rename_i ah
  obtain⟨rfl,rfl⟩:=ah;cases O;refine⟨_,λw Y=>?_,rfl,h _ (K.put U.2 _)⟩;let⟨c1,_,c3,_⟩:=G1 Y;have ai:(.int .u64 0:Value)=.int .u64 (Fam.word 0 0):=by simp[Fam.word]
  rw[Be V,Be V];show stepG P false _ w=_;rw[stepG_store_atomic (a:=⟨T,ds⟩) Z (BF K hw) (by simpa using U.1) rfl ac ae hb ag he (by rw[CQ];exact K.ev aa) (by rw[CQ];exact K.ev ab) c1 c3,ai,Lw Y,CH]
  rfl
 .cases O
theorem VI{m:Nat}(ai:s.q=false)(Z:ops[i]?=some ⟨d,.call ⟨.value (.func f),#[x,y,z],ats⟩,ty,pp,af,g⟩)(Y:b.roundOf=none)(hw:AO L ops ⟨d,.call ⟨.value (.func f),#[x,y,z],ats⟩,ty,pp,af,g⟩=some true)(U:((b.kind != .early)&&A5 n d)=true)
  (he:Bq P f (Extern.Atomic.casT (.int .u64))) (aa:ev L x=some (.pointer (some F.sA))) (ab:ev L y=some (.int .u64 (Fam.word m 0))) (ac:ev L z=some (.int .u64 (Fam.word m 1)))
  (h1:JL (AF P true) (Stop P F .GN) b n (Az L d (.bool true)) ds (.inRegion ops rest::k) cs s)
  (aj:JL (AF P true) (Stop P F (.EB (m - 1))) b n (Az L d (.bool false)) ds (.inRegion ops rest::k) cs s):
  JL (AF P true) (Stop P F (.FY m)) b n L ds (.inRegion ops (i::rest)::k) cs s:=λT K=>by
 simp only[f5] at U
 obtain⟨fn,ae,ag,hb,ah,he⟩:=he.h
 refine(AF P _).stop (GY rfl rfl rfl ai (by simp) λv wt sm v' wt' sm' es nx O=>?_)
 simp only[Fam.act] at O
 split at O
 .rename_i ak
  obtain⟨_,_,rfl⟩:=ak;split at O
  .rename_i e;subst e;cases O;refine⟨_,λw V=>?_,rfl,h1 _ (K.put U.2 _)⟩;let⟨c1,_,c3,_⟩:=G1 V;rw[Be Y,Be Y];show stepG P true _ w=_;rw[stepG_cas_hit (a:=⟨T,ds⟩) Z (BF K hw) (by simpa using U.1) rfl ae ag hb ah .u64 he (by rw[CQ];exact K.ev aa) (by rw[CQ];exact K.ev ab) (by rw[CQ];exact K.ev ac) c1 c3,Lw V,CH]
   rfl
  .rename_i e;cases O;refine⟨_,λw V=>?_,rfl,aj _ (K.put U.2 _)⟩;let⟨c1,_,c3,_⟩:=G1 V;rw[Be Y,Be Y];show stepG P true _ w=_;rw[stepG_cas_miss (a:=⟨T,ds⟩) Z (BF K hw) (by simpa using U.1) rfl ae ag hb ah .u64 he (by rw[CQ];exact K.ev aa) (by rw[CQ];exact K.ev ab) (by rw[CQ];exact K.ev ac) c1 c3 (λq=>e (word_inj q)),I8 V,CH]
   rfl
 .cases O
theorem TK{args:Array Operand}{vs:Lv_}(V:ops[i]?=some ⟨d,.call ⟨.value (.func f),args,ats⟩,ty,pp,af,g⟩)(Y:b.roundOf=none)(hw:AO L ops ⟨d,.call ⟨.value (.func f),args,ats⟩,ty,pp,af,g⟩=some true)(O:((b.kind != .early)&&A5 n d)=true)
  (he:Bq P f Extern.Sync.semrelease) (aa:evs L args.toList=some vs) (ab:vs[0]?=some (.pointer (some F.mA)))
  (h:JL (Gx P) (Ha P 1) b n (Az L d (.tuple #[])) ds (.inRegion ops rest::k) cs .quiet):
  JL (AF P false) (Stop P F .D5) b n L ds (.inRegion ops (i::rest)::k) cs .quiet:=λT U=>by
 simp only[f5] at O
 have ac:=PR (P:=P) (b:=b) (ds:=ds) (k:=k) (cs:=cs) (rest:=rest) (T:=T) V he
 obtain⟨fn,ae,ag,hb,ah,he⟩:=he.h
 refine(AF P _).stop (GY rfl rfl rfl rfl (λ_=>ac) λv wt sm v' wt' sm' es nx K=>?_)
 simp only[Fam.act] at K
 split at K
 .rename_i ai
  subst ai;cases K;refine⟨_,λw Z=>?_,rfl,Nb (h _ (U.put O.2 _))⟩;let⟨_,c2,_,c4⟩:=G1 Z;rw[Be Y,Be Y];show stepG P false _ w=_;rw[stepG_semrelease (a:=⟨T,ds⟩) V (BF U hw) (by simpa using O.1) rfl ae ag hb ah he (ad:=F.mA) (by rw[Im U aa];simpa using ab) c2 c4,CH];have aj:IntKind.u32.wrap (((0:Nat):Int)+1)=((1:Nat):Int):=by decide
  rw[aj,O5 Z]
 .cases K
theorem R1{args:Array Operand}{vs:Lv_}(ag:s.q=false)(Z:ops[i]?=some ⟨d,.call ⟨.value (.func f),args,ats⟩,ty,pp,af,g⟩)(V:b.roundOf=none)(hw:AO L ops ⟨d,.call ⟨.value (.func f),args,ats⟩,ty,pp,af,g⟩=some true)(Y:((b.kind != .early)&&A5 n d)=true)
  (he:Bq P f Extern.Sync.semacquire) (ah:evs L args.toList=some vs) (ai:vs[0]?=some (.pointer (some F.mA)))
  (h:JL (AF P true) (Stop P F .FL) b n (Az L d (.tuple #[])) ds (.inRegion ops rest::k) cs s):
  JL (AF P true) (Stop P F .D6) b n L ds (.inRegion ops (i::rest)::k) cs s:=λT K=>by
 simp only[f5] at Y
 obtain⟨fn,aa,ab,hb,ac,he⟩:=he.h
 have ae:(args.map (⟨T,ds⟩:Act).eval)[0]?=some (.pointer (some F.mA)):=by rw[Im K ah];simpa using ai
 refine(AF P _).stop (ER.stop {
  run:=rfl,offers:=rfl,quiet:=(by simp[Fam.BW]),live:=λ_=>ag,act:=?_,GK:=(by simp),Ds:=?_,go:=(by simp),lk:=(by simp),BL:=(by simp),store:=(by simp),take:=(by simp),fin:=(by simp)})
 .intro v wt sm v' wt' sm' es nx O;simp only[Fam.act] at O;split at O
  .rename_i aj;subst aj;cases O;refine⟨_,λw U=>?_,rfl,h _ (K.put Y.2 _)⟩;let⟨_,c2,_,c4⟩:=G1 U;rw[Be V,Be V];show stepG P true _ w=_;rw[stepG_semacquire (a:=⟨T,ds⟩) Z (BF K hw) (by simpa using Y.1) rfl aa ab hb ac he (ad:=F.mA) ae c2 (by decide) c4,CH];have ak:(((1:Nat):Int) - 1)=((0:Nat):Int):=by decide
   rw[ak,O5 U]
  .cases O
 .intro _ w v wt U;let⟨_,c2,_,c4⟩:=G1 U;rw[Be V];exact stepG_semacquire_wait (a:=⟨T,ds⟩) Z (BF K hw) rfl aa ab hb ac he (ad:=F.mA) ae c2
theorem Qf{args:Array Operand}{vs:Lv_}(V:s.q=false)(Y:ops[i]?=some ⟨d,.call ⟨.value (.func f),args,ats⟩,ty,pp,af,g⟩)(U:b.roundOf=none)(hw:AO L ops ⟨d,.call ⟨.value (.func f),args,ats⟩,ty,pp,af,g⟩=some true)(K:((b.kind != .early)&&A5 n d)=true)
  (he:Bq P f (Extern.Race.marked .acquire)) (Z:evs L args.toList=some vs) (aa:vs[0]?=some (.pointer (some F.sA)))
  (h:∀E' f,Le s.E E'->E' F.fd=none->(∀b,E' b≠none->s.H b=none)->F.rel (λi=>i<F.N/\F.bad i=true) f->∀T,Has n (Az L d (.tuple #[])) T->F.fin (G (fr b T ds (.inRegion ops rest::k)) cs) ⟨E',F.H4 s.H f,false⟩):
  JL (AF P true) (Stop P F .EN) b n L ds (.inRegion ops (i::rest)::k) cs s:=λT O=>by
 simp only[f5] at K
 obtain⟨fn,ab,ac,hb,ae,he⟩:=he.h
 refine(AF P _).stop (ER.stop {
  run:=rfl,offers:=rfl,quiet:=(by simp[Fam.BW]),live:=λ_=>V,act:=(by simp[Fam.act]),GK:=(by simp),Ds:=(by simp),go:=(by simp),lk:=(by simp),BL:=(by simp),store:=(by simp),take:=(by simp),fin:=λ_=>?_})
 refine⟨_,λw=>?_,λE' f a1 ag ah ai=>h E' f a1 ag ah ai _ (O.put K.2 _)⟩
 rw[Be U,Be U,stepG_markAt (a:=⟨T,ds⟩) .acquire (by simp) Y (BF O hw) (by simpa using K.1) rfl ab ac hb ae he (ad:=F.sA) (by rw[Im O Z];simpa using aa),CH]
 rfl
end
variable{fi:Av_}{as:Lv_}
section
variable {P:Program}{F:Fam}{J:Judge P}{Q:GP}{n:Nat}{L L':Env}{ds:Ld_}{k:Li_}{cs:Lf_}{s s':St}{b:Frame}{main:Bool}
theorem Iy(T:Av_)(ds:Ld_):(⟨T,ds⟩:Act).eval=Bc T:=funext λx=>CQ T ds x
theorem S9{X:GP}{c:Code}{vs:Lv_}{caps args:Av_}(O:P.funcs[f]?=some fn)(Y:(fn.name== "runtime.NumGoroutine")=false)(hb:fn.body=some c)(Z:args++caps=vs.toArray)(ac:vs.length<=fn.ntmps)
  (h:JL (AF P false) X (baseD f) fn.ntmps (Gh 0 vs) [] [.code c] [IH P] s):Way P false X (born P {target:=.fn (.func f) caps,args:=args}) s:=by
 have h1:¬fn.name= "runtime.NumGoroutine" :=by simpa using Y
 refine Judge.CM (J:=AF P false) rfl (λw=>?_) (h (vs.toArray++Array.replicate (fn.ntmps - vs.length) undef) ⟨by simp;omega,λt v aa=>?_⟩);show stepG P false _ w=_;have U:=enter_atD (P:=P) vs.toArray O hb;rw[Be (b:=baseD f) rfl];simp only[mX] at U;simp[G,born,stepG,unwind,callDeferred,invoke,callFunc,O,h1,hb,GStep.after,seen_none,Z,IH,U]
 .let⟨_,K⟩:=Kd aa;have ab:t<vs.length:=by
   rcases kC t vs.length with V | V;exact V;simp at K;have:=(d8.1 K).1;omega
  rw[kA,lT (by simpa using ab)];simp at K;simp[K]
theorem VL{args:Array Operand}{K:Go.Fn}{O:Av_}(U:Has n L T)(V:ev L x=some (.func K fi O))(Y:evs L args.toList=some as):
  execOp (Bc T) ⟨d,.go ⟨.value x,args,ats⟩,ty,pp,af,g⟩=.pure (.spawn {target:=.fn K O,args:=fi++as.toArray}):=by
 have Z:args.map (Bc T)=as.toArray:=by
  rw[← F6 U.Gi Y];apply lJ;simp
 simp only[execOp,resolve,bind,Sem.bind,Deferred.ofValue,U.ev V,pure,Z]
theorem WI{j:Nat}{args:Array Operand}{U:Av_}{V:FuncId}(aa:s.q=false)(ab:ops[i]?=some ⟨d,.go ⟨.value x,args,ats⟩,ty,pp,af,g⟩)(Y:b.roundOf=none)(hw:AO L ops ⟨d,.go ⟨.value x,args,ats⟩,ty,pp,af,g⟩=some true)(K:((b.kind != .early)&&A5 n d)=true)
  (ac:ev L x=some (.func (.func V) fi U)) (ae:evs L args.toList=some as)
  (h1:Way P false (Stop P F (F.start j)) (born P {target:=.fn (.func V) U,args:=fi++as.toArray}) ⟨s.E,λ_=>none,false⟩)
  (ag:JL (AF P true) (Stop P F (F.Cw j)) b n (Az L d undef) ds (.inRegion ops rest::k) cs s):
  JL (AF P true) (Stop P F (.En j)) b n L ds (.inRegion ops (i::rest)::k) cs s:=λT O=>by
 simp only[f5] at K
 have Z:=VL (d:=d) (ats:=ats) (ty:=ty) (pp:=pp) (af:=af) (g:=g) O ac ae
 refine(AF P _).stop (ER.stop {
  run:=rfl,offers:=rfl,quiet:=(by simp[Fam.BW]),live:=λ_=>aa,act:=(by simp[Fam.act]),GK:=(by simp),Ds:=(by simp),go:=λah e=>?_,lk:=(by simp),BL:=(by simp),store:=(by simp),take:=(by simp),fin:=(by simp)})
 cases e
 refine⟨G (fr b (B6 T d undef) ds (.inRegion ops rest::k)) cs,_,rfl,rfl,λw=>?_,h1,ag _ (O.put K.2 _)⟩
 rw[Be Y,Be Y,stepG_spawn (a:=⟨T,ds⟩) (w':=w) ab (BF O hw) (by simpa using K.1) (by rw[Iy,Z];rfl) rfl,listed_none (by rw[Iy,Z];simp[Sem.events_pure']),CH]
theorem JO.Qj{j:Nat}(V:s.q=false)(K:b.roundOf=none)(he:Bq P f (λ_=>do mark .enable;pure Extern.Race.none_))
  (h:JO (AF P true) (Stop P F (.En j)) b n L ds cs s):JO (AF P true) (Stop P F (.Fz j)) b n L (dcall f #[]::ds) cs s:=λT Y todo=>by
 obtain⟨fn,Z,aa,hb,ab,he⟩:=he.h
 refine(AF P _).stop (GY rfl rfl rfl V (by simp) λv wt sm v' wt' sm' es nx O=>?_)
 simp only[Fam.act] at O
 cases O
 refine⟨G (Dw b T ds todo) cs,λw ac=>?_,rfl,h T Y todo⟩
 rw[I6 K,I6 K,I8 ac]
 exact stepG_unwind_entry (a:=⟨T,dcall f #[]::ds⟩) (v:=.tuple #[]) (evs:=#[Fam.BJ .enable]) rfl Z aa hb ab he (by simp[Extern.Race.none_]) (by simp;rfl) (by
  intro x U
  simp at U
  subst U
  exact⟨rfl,λg h=>by cases h⟩)
theorem JO.Mc(K:b.roundOf=none)(he:Bq P f (λ_=>do mark .enable;pure Extern.Race.none_))
  (h:JO (Gx P) (Ha P 0) b n L ds cs .quiet):JO (Gx P) (Ha P 1) b n L (dcall f #[]::ds) cs .quiet:=λT U todo=>by
 obtain⟨fn,V,Y,hb,Z,he⟩:=he.h
 refine(Gx P).stop ?_
 let⟨q,O⟩:=Nb (h T U todo)
 rw[I6 K] at O
 rw[I6 K]
 exact⟨q+1,QuitsD.unwind_mark (a:=⟨T,dcall f #[]::ds⟩) .enable rfl (by simp) rfl V Y hb Z he O⟩
end
def QW:BinOp->Int->Int->Option Bool
 | .lss,m,m'=>some (decide (m<m'))
 | .leq,m,m'=>some (decide (m<=m'))
 | .gtr,m,m'=>some (decide (m'<m))
 | .geq,m,m'=>some (decide (m'<=m))
 | .eql,m,m'=>some (decide (m=m'))
 | .neq,m,m'=>some (decide (m≠m'))
 | _,_,_=>none
def Oo(L:Env):Op->Option Value
 | .move x=>ev L x
 | .assign x=>ev L x
 | .pick z x y=>match ev L z with
  | some (.bool true)=>ev L x
  | some (.bool false)=>ev L y
  | _=>none
 | .extract x i=>match ev L x with
  | some (.tuple vs)=>vs[i]?
  | _=>none
 | .nilCheck x=>match ev L x with
  | some (.pointer (some a))=>some (.pointer (some a))
  | _=>none
 | .binOp op _ x y _=>match ev L x with
  | some (.int kd m)=>match ev L y with
   | some (.int kd' m')=>if kd=kd' then(match QW op m m' with | some t=>some (.bool t) | none=>none) else none
   | _=>none
  | _=>none
 | _=>none
theorem Vw{P:Program}{s:St}{ρ:Operand->Value}{d:Option Tmp}{x y:Operand}{t u ty:TypeId}{p:String}{af:Ae_}{g:On_}{kd:IntKind}{m m':Int}(K:ρ x=.int kd m)(O:ρ y=.int kd m'):Yl P ⟨d,.binOp .neq t x y u,ty,p,af,g⟩ ρ s (.bool (decide (m≠m'))):=by
 have h:=Yl.neq (P:=P) (s:=s) (d:=d) (t:=t) (u:=u) (ty:=ty) (p:=p) (af:=af) (g:=g) K O;simpa using h
theorem Qi{P:Program}{L:Env}{ρ:Operand->Value}{s:St}{o:Oper}{v:Value}(K:Eg L ρ)(h:Oo L o.op=some v):Yl P o ρ s v:=by
 obtain⟨d,op,ty,p,af,g⟩:=o;simp only at h;unfold Oo at h;split at h;exact Yl.move (K _ _ h);exact Yl.assign (K _ _ h);split at h;rename_i e;exact Ci (K _ _ e) (K _ _ h);rename_i e;exact CF (K _ _ e) (K _ _ h);cases h;split at h;rename_i e;exact Yl.extract (K _ _ e) h;cases h;split at h;rename_i e;cases h;exact Yl.nilCheck (K _ _ e);cases h;split at h;rename_i h1;split at h;rename_i O;split at h;rename_i e;subst e;split at h;rename_i e;cases h;unfold QW at e;split at e;cases e;exact Yl.lss (K _ _ h1) (K _ _ O);cases e;exact Yl.leq (K _ _ h1) (K _ _ O);cases e;exact Yl.gtr (K _ _ h1) (K _ _ O);cases e;exact Yl.geq (K _ _ h1) (K _ _ O);cases e;exact Yl.eql (K _ _ h1) (K _ _ O);cases e;exact Vw (K _ _ h1) (K _ _ O);cases e;cases h;cases h;cases h;cases h;cases h
def JI:List Oper->Nat->Option Oper
 | [],_=>none
 | o::_,0=>some o
 | _::os,i+1=>JI os i
theorem NR:∀(os:List Oper) (i:Nat),JI os i=os[i]?
 | [],i=>by simp[JI]
 | _::_,0=>rfl
 | _::os,i+1=>by simp[JI,NR os i]
def Ol(b:Frame)(n:Nat)(L:Env):Li_->Option (Li_×Env)
 | .code (.seq x y)::k=>some (.code x:: .code y::k,L)
 | .code (.block i c)::k=>some (.code c:: .inBlock i::k,L)
 | .code (.scope c)::k=>some (.code c:: .inScope c::k,L)
 | .code .skip::k=>some (k,L)
 | .code (.exit i)::k=>match exitTo i k with
  | some k'=>some (k',L)
  | none=>none
 | .code (.cond c x y)::k=>match ev L c with
  | some (.bool true)=>some (.code x::k,L)
  | some (.bool false)=>some (.code y::k,L)
  | _=>none
 | .code (.region _ ops false)::k=>some (.inRegion ops (List.range ops.size)::k,L)
 | .inBlock _::k=>some (k,L)
 | .inScope _::k=>some (k,L)
 | .inRegion _ []::k=>some (k,L)
 | .inRegion ops (i::rest)::k=>match JI ops.toList i with
  | some ⟨d,op,ty,p,af,g⟩=>match AO L ops ⟨d,op,ty,p,af,g⟩ with
   | some true=>match Bt b n ⟨d,op,ty,p,af,g⟩ with
    | true=>match Oo L op with
     | some v=>match d with
      | some d=>some (.inRegion ops rest::k,(d,v)::L)
      | none=>some (.inRegion ops rest::k,L)
     | none=>none
    | false=>none
   | some false=>match A5 n d with
    | true=>match d with
     | some d=>some (.inRegion ops rest::k,(d,undef)::L)
     | none=>some (.inRegion ops rest::k,L)
    | false=>none
   | none=>none
  | none=>none
 | _=>none
def Mn(b:Frame)(n:Nat):Nat->Li_->Env->Option (Li_×Env)
 | 0,k,L=>some (k,L)
 | m+1,k,L=>match Ol b n L k with
  | some (k',L')=>Mn b n m k' L'
  | none=>none
variable {L':Env}{k':Li_}
section
variable {b:Frame}{n:Nat}
theorem WN(h:Ol b n L k=some (k',L'))(K:JL J Q b n L' ds k' cs s):JL J Q b n L ds k cs s:=by
 unfold Ol at h;split at h;cases h;exact JL.seq K;cases h;exact JL.block K;cases h;exact JL.scope K;cases h;exact JL.skip K;split at h;rename_i e;cases h;exact JL.exit e K;cases h;split at h;rename_i e;cases h;exact Nq e K;rename_i e;cases h;exact I4 e K;cases h;cases h;exact JL.region K;cases h;exact Bv K;cases h;exact Nh K;cases h;exact JL.done K
 .split at h
  .rename_i d op ty p af g O;rw[NR,lC] at O;split at h
   .rename_i hw;split at h
    .rename_i U;split at h
     .rename_i v Y;cases d with
      | none=>cases h;exact Ac O hw U (λρ V=>Qi V Y) K
      | some d=>cases h;exact Ac O hw U (λρ V=>Qi V Y) K
     .cases h
    .cases h
   .rename_i hw;split at h
    .rename_i U;cases d with
     | none=>cases h;exact AP O hw U K
     | some d=>cases h;exact AP O hw U K
    .cases h
   .cases h
  .cases h
 .cases h
theorem JL.go(m:Nat)(h:Mn b n m k L=some (k',L'))(K:JL J Q b n L' ds k' cs s):JL J Q b n L ds k cs s:=by
 induction m generalizing k L with
 | zero=>cases h;exact K
 | succ m O=>
  unfold Mn at h;split at h;rename_i e;exact WN e (O h);cases h
end
open Go.Conc.Lib Go.ConcR.Gen
theorem EG{P:Program}{t:TypeId}{n:Nat}(h:∀w,Sem.run P (Go.sizeOf t) w=.ok n w):Bo P t=some n:=by
 have h0:=h default;unfold Bo;simp only[Go.sizeOf,typeInfo,bind,Sem.bind,program,Sem.run] at h0;cases hi:P.info? t with
 | none=>rw[hi] at h0;simp[stuck,Sem.run,Sem.bind] at h0
 | some i=>
  rw[hi] at h0;simp[pure,Sem.bind,Sem.run] at h0;simp[h0]
section
variable {L:WgLink}(H:WgLib P L)
include H
theorem Lr:Bq P L.disable (λ_=>do mark .disable;pure Extern.Race.none_):=⟨⟨_,H.f_disable,x_disable_n L,x_disable_b L,x_disable_x L,x_disable_f L⟩⟩
theorem Hk:Bq P L.enable (λ_=>do mark .enable;pure Extern.Race.none_):=⟨⟨_,H.f_enable,x_enable_n L,x_enable_b L,x_enable_x L,x_enable_f L⟩⟩
theorem OP:Bq P L.relMerge (Extern.Race.marked .releaseMerge):=⟨⟨_,H.f_relMerge,x_relMerge_n L,x_relMerge_b L,x_relMerge_x L,x_relMerge_f L⟩⟩
theorem Ng:Bq P L.acquire (Extern.Race.marked .acquire):=⟨⟨_,H.f_acquire,x_acquire_n L,x_acquire_b L,x_acquire_x L,x_acquire_f L⟩⟩
theorem T3:Bq P L.raceRead (Extern.Race.marked .read):=⟨⟨_,H.f_raceRead,x_raceRead_n L,x_raceRead_b L,x_raceRead_x L,x_raceRead_f L⟩⟩
theorem Sz:Bq P L.raceWrite (Extern.Race.marked .write):=⟨⟨_,H.f_raceWrite,x_raceWrite_n L,x_raceWrite_b L,x_raceWrite_x L,x_raceWrite_f L⟩⟩
theorem P8:Bq P L.addU64 (Extern.Atomic.update (Op.intArith .add) .u64 true):=⟨⟨_,H.f_addU64,x_addU64_n L,x_addU64_b L,x_addU64_x L,x_addU64_f L⟩⟩
theorem Tr:Bq P L.loadU64 (Extern.Atomic.loadT (.int .u64)):=⟨⟨_,H.f_loadU64,x_loadU64_n L,x_loadU64_b L,x_loadU64_x L,x_loadU64_f L⟩⟩
theorem SN:Bq P L.storeU64 Extern.Atomic.storeT:=⟨⟨_,H.f_storeU64,x_storeU64_n L,x_storeU64_b L,x_storeU64_x L,x_storeU64_f L⟩⟩
theorem Uw:Bq P L.casU64 (Extern.Atomic.casT (.int .u64)):=⟨⟨_,H.f_casU64,x_casU64_n L,x_casU64_b L,x_casU64_x L,x_casU64_f L⟩⟩
theorem SV:Bq P L.semrelease Extern.Sync.semrelease:=⟨⟨_,H.f_semrelease,x_semrelease_n L,x_semrelease_b L,x_semrelease_x L,x_semrelease_f L⟩⟩
theorem Rx:Bq P L.semacquire Extern.Sync.semacquire:=⟨⟨_,H.f_semacquire,x_semacquire_n L,x_semacquire_b L,x_semacquire_x L,x_semacquire_f L⟩⟩
theorem O6:Bq P L.inBubble (λ_=>pure (.bool false)):=⟨⟨_,H.f_inBubble,x_inBubble_n L,x_inBubble_b L,x_inBubble_x L,x_inBubble_f L⟩⟩
end
variable {tw:TypeId}
section
variable {P:Program}{F:Fam}{J:Judge P}{Q:GP}{n:Nat}{L L':Env}{ds:Ld_}{k:Li_}{cs:Lf_}{s s':St}{b:Frame}{main:Bool}
theorem Yl.to{o:Oper}{ρ:Operand->Value}{v v':Value}(h:Yl P o ρ s v)(e:v=v'):Yl P o ρ s v':=e▸h
theorem Ku(ah:Jf p=true)(ai:if Fam.BW p=true then s=.quiet else s.q=false)(aj:p≠ .D5)(ak:∀v wt sm,F.act p v wt sm=some ((v,wt,sm),#[],.ph q))(al:Fam.HL p s=s)
  (am:ops[i]?=some ⟨d,.convert t u x,ty,pp,af,g⟩) (U:b.roundOf=none) (hw:AO L ops ⟨d,.convert t u x,ty,pp,af,g⟩=some true) (K:((b.kind != .early)&&A5 n d)=true)
  (V:P.underlying t=some (.pointer tw)) (hu:P.underlying u=some .unsafePointer) (Y:(P.info? tw).map (λi=>decide (i.size=0))=some false) (an:ev L x=some (.pointer (some ad))) (hb:ad=F.sA∨ad=F.mA)
  (h:JL (AF P (Fam.B2 p)) (Stop P F q) b n (Az L d (.pointer (some ad))) ds (.inRegion ops rest::k) cs s):
  JL (AF P (Fam.B2 p)) (Stop P F p) b n L ds (.inRegion ops (i::rest)::k) cs s:=λT O=>by
 simp only[f5] at K
 refine(AF P _).stop (GY ah rfl rfl ai (λe=>absurd e aj) λv wt sm v' wt' sm' es nx Z=>?_)
 rw[ak] at Z;cases Z
 refine⟨_,λw aa=>?_,rfl,by rw[al];exact h _ (O.put K.2 _)⟩
 obtain⟨ab,ac⟩:∃ab,w.cell? ad=some ab:=by
  let⟨c1,c2,_,_⟩:=G1 aa;rcases hb with e | e<;>rw[e];exact⟨_,c1⟩;exact⟨_,c2⟩
 have ae:=run_convert_to_unsafe (P:=P) (w:=w) V hu Y ac;have ao:=events_convert_to_unsafe (P:=P) (w:=w) V hu Y ac;have ag:execOp (⟨T,ds⟩:Act).eval ⟨d,.convert t u x,ty,pp,af,g⟩=(do pure (Next.value (← Go.convert t u (.pointer (some ad))))):=by
  rw[Iy];simp only[execOp,O.ev an]
 rw[Be U,Be U,stepG_value (a:=⟨T,ds⟩) (v:=.pointer (some ad)) (w':=w) am (BF O hw) (by simpa using K.1) (by rw[ag];simp[ae,Result.andThen]),I8 aa,CH];have e2:listed P b.fn ⟨T,ds⟩ ⟨d,.convert t u x,ty,pp,af,g⟩ w=#[]:=by
  unfold listed;rw[ag];simp[ae,ao,Result.evThen,seen_none]
 rw[e2]
end
section
variable {P:Program}{F:Fam}{J:Judge P}{Q:GP}{n:Nat}{L L':Env}{ds:Ld_}{k:Li_}{cs:Lf_}{s s':St}{b:Frame}{main:Bool}
def Xo(P:Program)(b:Frame)(n:Nat)(L:Env)(d:Option Tmp)(ds:Ld_)(todo:Li_)(cs:Lf_)(U:Frame):Prop:=
 ∀(K:Judge P) (O:GP) (v:Value) (s':St),JL K O b n (Az L d v) ds todo cs s'->K.ok O (G (U.finish v) cs) s'
theorem EZ{c:Code}(V:ops[i]?=some ⟨d,.call ⟨.value (.func f),args,ats⟩,ty,pp,af,g⟩)(hw:AO L ops ⟨d,.call ⟨.value (.func f),args,ats⟩,ty,pp,af,g⟩=some true)(O:((b.kind != .early)&&A5 n d)=true)
  (Y:P.funcs[f]?=some fn) (ab:(fn.name== "runtime.NumGoroutine")=false) (hb:fn.body=some c) (ac:evs L args.toList=some vs) (al:vs.length<=fn.ntmps)
  (h:∀Z:Frame,Xo P b n L d ds (.inRegion ops rest::k) cs Z->JL J Q (base f) fn.ntmps (Gh 0 vs) [] [.code c] (Z::cs) s):
  JL J Q b n L ds (.inRegion ops (i::rest)::k) cs s:=λT U=>by
 simp only[f5] at O
 have ae:args.map (Bc T)=vs.toArray:=by
  rw[← F6 U.Gi ac];apply lJ;simp
 refine Judge.oper V (BF U hw) (by simpa using O.1) (.inr λc ag=>by cases ag) ?_;have ah:Dd P f=true:=by unfold Dd;rw[Y];simp[ab,hb]
 have hd:lp P (execOp (Bc T) ⟨d,.call ⟨.value (.func f),args,ats⟩,ty,pp,af,g⟩) s (upon J Q b T ds ops i rest k cs d) (MK J Q b T ds ops i rest k cs):=by
  simp only[execOp,resolve,bind,Sem.bind,Deferred.ofValue,Bc,pure,invoke];have e: #[]++args.map (Bc T)++ #[]=vs.toArray:=by rw[ae];simp
  rw[e];refine Iv ah ?_;have he:Frame.enter P f vs.toArray .normal=fr (base f) (vs.toArray++Array.replicate (fn.ntmps - vs.length) undef) [] [.code c]:=by
   simp[Frame.enter,fr,Y,hb,base];rfl
  show J.ok Q (G (Frame.enter P f vs.toArray .normal) _) s;rw[he];refine h _ (λam an v s' ai=>?_) _ ⟨by simp;omega,λt v aj=>?_⟩;rw[F7 (o:=⟨d,.call ⟨.value (.func f),args,ats⟩,ty,pp,af,g⟩) _ _ _ _ _ V];exact ai _ (U.put O.2 v)
  .let⟨_,K⟩:=Kd aj;have ak:t<vs.length:=by
    rcases kC t vs.length with aa | aa;exact aa;simp at K;have:=(d8.1 K).1;omega
   rw[kA,lT (by simpa using ak)];simp at K;simp[K]
 exact hd
theorem Yl.ext{e:Av_->Sem Value}{v:Value}{ρ:Operand->Value}(he:Bq P f e)(O:args.map ρ=vs.toArray)(h:e vs.toArray=.pure v):Yl P ⟨d,.call ⟨.value (.func f),args,ats⟩,ty,pp,af,g⟩ ρ s v∨ρ (.func f)≠ .func (.func f) #[] #[]:=by
 by_cases K:ρ (.func f)=.func (.func f) #[] #[]
 .left;obtain⟨fn,h1,U,V,Y,Z⟩:=he.h;unfold Yl;simp only[execOp,resolve,bind,Sem.bind,Deferred.ofValue,K,pure,invoke];have aa: #[]++args.map ρ++ #[]=vs.toArray:=by rw[O];simp
  rw[aa];have ab:fn.body=none:=by simpa using V
  simp only[callFunc,bind,Sem.bind,program,lp,h1,U,ab,Option.isNone_none,kV,lE,lL,mark,Y,Z,h,pure];exact⟨.inr ⟨f,rfl⟩,trivial,trivial⟩
 .exact .inr K
theorem JL.ext{e:Av_->Sem Value}{v:Value}(O:ops[i]?=some ⟨d,.call ⟨.value (.func f),args,ats⟩,ty,pp,af,g⟩)(hw:AO L ops ⟨d,.call ⟨.value (.func f),args,ats⟩,ty,pp,af,g⟩=some true)(U:Bt b n ⟨d,.call ⟨.value (.func f),args,ats⟩,ty,pp,af,g⟩=true)
  (he:Bq P f e) (V:evs L args.toList=some vs) (Y:e vs.toArray=.pure v) (h:JL J Q b n (Az L d v) ds (.inRegion ops rest::k) cs s):JL J Q b n L ds (.inRegion ops (i::rest)::k) cs s:=
 Ac O hw U (λρ K=>by
  have Z:args.map ρ=vs.toArray:=by
   rw[← F6 K V]
   apply lJ;simp
  rcases Yl.ext (s:=s) (d:=d) (ats:=ats) (ty:=ty) (pp:=pp) (af:=af) (g:=g) he Z Y with q | q;exact q
  .exact absurd (K (.func f) _ rfl) q) h
end
section
variable {P:Program}{L:WgLink}(H:WgLib P L){F:Fam}{n:Nat}{M:Env}{ds:Ld_}{k:Li_}{cs:Lf_}{s:St}{b:Frame}
include H
theorem TY(K:ops[i]?=some ⟨d,.call ⟨.value (.func L.uAdd),#[x,y],ats⟩,ty,pp,af,g⟩)(hw:AO M ops ⟨d,.call ⟨.value (.func L.uAdd),#[x,y],ats⟩,ty,pp,af,g⟩=some true)(O:((b.kind != .early)&&A5 n d)=true)
  (U:ev M x=some (.pointer (some F.sA))) (V:ev M y=some (.int .u64 18446744069414584320))
  (h1:JL (AF P false) (Stop P F .FQ) b n (Az M d (.int .u64 (Fam.word 0 1))) ds (.inRegion ops rest::k) cs .quiet)
  (Y:∀v wt:Nat,v<2147483647->wt<=1->¬(v=0/\wt=1)->JL (Gx P) (Ha P 1) b n (Az M d (.int .u64 (Fam.word v wt))) ds (.inRegion ops rest::k) cs .quiet):
  JL (AF P false) (Stop P F .Gk) b n M ds (.inRegion ops (i::rest)::k) cs .quiet:=by
 refine EZ (vs:=[.pointer (some F.sA),.int .u64 18446744069414584320]) K hw O H.f_uAdd (nm_uAdd L) rfl (by simp[evs,U,V]) (d4 rfl) λac back=>JL.go 8 rfl (Ac rfl rfl rfl (λρ h=>Yl.fieldAddr H.underlying_tAU rfl (EG H.sizeOf_tU64) (h _ _ rfl)) ?_);refine JL.go 1 rfl (Vh rfl rfl rfl rfl (P8 H) rfl rfl ?_ λv wt Z aa ab=>?_);refine Ac rfl rfl rfl (λρ h=>Yl.assign (h _ _ rfl)) (JL.done ?_);exact JL.ret rfl rfl (Ay.one H.f_uAdd rfl rfl) (back _ _ _ _ h1);refine Ac rfl rfl rfl (λρ h=>Yl.assign (h _ _ rfl)) (JL.done ?_);exact JL.ret rfl rfl (Ay.one H.f_uAdd rfl rfl) (back _ _ _ _ (Y v wt Z aa ab))
theorem Tj{j:Nat}(K:s.q=false)(O:ops[i]?=some ⟨d,.call ⟨.value (.func L.uAdd),#[x,y],ats⟩,ty,pp,af,g⟩)(hw:AO M ops ⟨d,.call ⟨.value (.func L.uAdd),#[x,y],ats⟩,ty,pp,af,g⟩=some true)(U:((b.kind != .early)&&A5 n d)=true)
  (V:ev M x=some (.pointer (some F.sA))) (Y:ev M y=some (.int .u64 4294967296))
  (h1:JL (AF P true) (Stop P F (.GQ j)) b n (Az M d (.int .u64 (Fam.word 1 0))) ds (.inRegion ops rest::k) cs s)
  (Z:∀v:Nat,1<=v->v<2147483647->JL (AF P true) (Stop P F (.Fz j)) b n (Az M d (.int .u64 (Fam.word (v+1) 0))) ds (.inRegion ops rest::k) cs s):
  JL (AF P true) (Stop P F (.GH j)) b n M ds (.inRegion ops (i::rest)::k) cs s:=by
 refine EZ (vs:=[.pointer (some F.sA),.int .u64 4294967296]) O hw U H.f_uAdd (nm_uAdd L) rfl (by simp[evs,V,Y]) (d4 rfl) λac back=>JL.go 8 rfl (Ac rfl rfl rfl (λρ h=>Yl.fieldAddr H.underlying_tAU rfl (EG H.sizeOf_tU64) (h _ _ rfl)) ?_);refine JL.go 1 rfl (VC K rfl rfl rfl rfl (P8 H) rfl rfl ?_ λv aa ab=>?_);refine Ac rfl rfl rfl (λρ h=>Yl.assign (h _ _ rfl)) (JL.done ?_);exact JL.ret rfl rfl (Ay.one H.f_uAdd rfl rfl) (back _ _ _ _ h1);refine Ac rfl rfl rfl (λρ h=>Yl.assign (h _ _ rfl)) (JL.done ?_);exact JL.ret rfl rfl (Ay.one H.f_uAdd rfl rfl) (back _ _ _ _ (Z v aa ab))
theorem JL.uLoad(K:Jf p=true)(O:if Fam.BW p=true then s=.quiet else s.q=false)(U:p≠ .D5)(V:Fam.HL p s=s)(Y:∀v wt sm r,F.act p v wt sm=some r->r.1=(v,wt,sm)/\r.2.1=#[Fam.Br F.sA])(Z:ops[i]?=some ⟨d,.call ⟨.value (.func L.uLoad),#[x],ats⟩,ty,pp,af,g⟩)(hw:AO M ops ⟨d,.call ⟨.value (.func L.uLoad),#[x],ats⟩,ty,pp,af,g⟩=some true)(aa:((b.kind != .early)&&A5 n d)=true)
  (ab:ev M x=some (.pointer (some F.sA)))
  (h:∀v wt sm r,F.act p v wt sm=some r->∃q,r.2.2=.ph q/\JL (AF P (Fam.B2 p)) (Stop P F q) b n (Az M d (.int .u64 (Fam.word v wt))) ds (.inRegion ops rest::k) cs s):
  JL (AF P (Fam.B2 p)) (Stop P F p) b n M ds (.inRegion ops (i::rest)::k) cs s:=by
 refine EZ (vs:=[.pointer (some F.sA)]) Z hw aa H.f_uLoad (nm_uLoad L) rfl (by simp[evs,ab]) (d4 rfl) λah back=>JL.go 8 rfl (Ac rfl rfl rfl (λρ h=>Yl.fieldAddr H.underlying_tAU rfl (EG H.sizeOf_tU64) (h _ _ rfl)) ?_);refine Wo K O U V Y rfl rfl rfl rfl (Tr H) rfl λv wt sm r ac=>?_;let⟨q,ae,ag⟩:=h v wt sm r ac;refine⟨q,ae,?_⟩;refine Ac rfl rfl rfl (λρ h=>Yl.assign (h _ _ rfl)) (JL.done ?_);exact JL.ret rfl rfl (Ay.one H.f_uLoad rfl rfl) (back _ _ _ _ ag)
theorem JL.uStore(K:ops[i]?=some ⟨d,.call ⟨.value (.func L.uStore),#[x,y],ats⟩,ty,pp,af,g⟩)(hw:AO M ops ⟨d,.call ⟨.value (.func L.uStore),#[x,y],ats⟩,ty,pp,af,g⟩=some true)(O:((b.kind != .early)&&A5 n d)=true)
  (U:ev M x=some (.pointer (some F.sA))) (V:ev M y=some (.int .u64 0))
  (h:JL (AF P false) (Stop P F .D5) b n (Az M d (.tuple #[])) ds (.inRegion ops rest::k) cs .quiet):
  JL (AF P false) (Stop P F .Gd) b n M ds (.inRegion ops (i::rest)::k) cs .quiet:=by
 refine EZ (vs:=[.pointer (some F.sA),.int .u64 0]) K hw O H.f_uStore (nm_uStore L) rfl (by simp[evs,U,V]) (d4 rfl) λY back=>JL.go 3 rfl (Ac rfl rfl rfl (λρ h=>Yl.fieldAddr H.underlying_tAU rfl (EG H.sizeOf_tU64) (h _ _ rfl)) ?_);refine JL.go 1 rfl (Ws rfl rfl rfl rfl (SN H) rfl rfl ?_);exact JL.done (JL.fin rfl rfl (Ay.none H.f_uStore rfl) (back _ _ _ _ h))
theorem JL.uCas{m:Nat}(K:s.q=false)(O:ops[i]?=some ⟨d,.call ⟨.value (.func L.uCas),#[x,y,z],ats⟩,ty,pp,af,g⟩)(hw:AO M ops ⟨d,.call ⟨.value (.func L.uCas),#[x,y,z],ats⟩,ty,pp,af,g⟩=some true)(U:((b.kind != .early)&&A5 n d)=true)
  (V:ev M x=some (.pointer (some F.sA))) (Y:ev M y=some (.int .u64 (Fam.word m 0))) (Z:ev M z=some (.int .u64 (Fam.word m 1)))
  (h1:JL (AF P true) (Stop P F .GN) b n (Az M d (.bool true)) ds (.inRegion ops rest::k) cs s)
  (aa:JL (AF P true) (Stop P F (.EB (m - 1))) b n (Az M d (.bool false)) ds (.inRegion ops rest::k) cs s):
  JL (AF P true) (Stop P F (.FY m)) b n M ds (.inRegion ops (i::rest)::k) cs s:=by
 refine EZ (vs:=[.pointer (some F.sA),.int .u64 (Fam.word m 0),.int .u64 (Fam.word m 1)]) O hw U H.f_uCas (nm_uCas L) rfl (by simp[evs,V,Y,Z]) (d4 rfl) λab back=>JL.go 8 rfl (Ac rfl rfl rfl (λρ h=>Yl.fieldAddr H.underlying_tAU rfl (EG H.sizeOf_tU64) (h _ _ rfl)) ?_);refine JL.go 2 rfl (VI (m:=m) K rfl rfl rfl rfl (Uw H) rfl rfl rfl ?_ ?_);refine Ac rfl rfl rfl (λρ h=>Yl.assign (h _ _ rfl)) (JL.done ?_);exact JL.ret rfl rfl (Ay.one H.f_uCas rfl rfl) (back _ _ _ _ h1);refine Ac rfl rfl rfl (λρ h=>Yl.assign (h _ _ rfl)) (JL.done ?_);exact JL.ret rfl rfl (Ay.one H.f_uCas rfl rfl) (back _ _ _ _ aa)
end
theorem Ji{v wt:Nat}(K:v<2147483648)(O:wt<=1):IntKind.u64.wrap (BitVec.ofInt IntKind.u64.bits (Fam.word v wt)&&& BitVec.ofInt IntKind.u64.bits 2147483648).toNat=0:=by
 have:=Go.ConcN.st_flag v wt K O;simpa [bits,Fam.word,Fam.KK] using this
theorem Js{v wt:Nat}(K:v<2147483648)(O:wt<=1):IntKind.u64.wrap (BitVec.ofInt IntKind.u64.bits (Fam.word v wt)&&& BitVec.ofInt IntKind.u64.bits 2147483647).toNat=(wt:Int):=by
 have:=Go.ConcN.st_waiters v wt K O;simpa [bits,Fam.word,Fam.KK] using this
theorem I5{v wt:Nat}(K:wt<=1):(Fam.word v wt).fdiv (2^(min (32:Int).toNat IntKind.u64.bits))=(v:Int):=by
 have e:(2:Int)^(min (32:Int).toNat IntKind.u64.bits)=4294967296:=by decide
 rw[e,l9 _ (by decide)];simp only[Fam.word,Fam.KK];omega
theorem wrap_i32{v:Nat}(K:v<2147483648):IntKind.i32.wrap (v:Int)=v:=by
 simp only[IntKind.wrap,IntKind.bits,IntKind.signed];simp;split<;>omega
theorem wrap_u32{v:Nat}(K:v<=1):IntKind.u32.wrap (v:Int)=v:=by
 simp only[IntKind.wrap,IntKind.bits,IntKind.signed];simp;omega
theorem SB{F:Fam}:∀v wt sm r,F.act .FQ v wt sm=some r->r.1=(v,wt,sm)/\r.2.1=#[Fam.Br F.sA]:=by
 intro v wt sm r h;simp only[Fam.act] at h;split at h;rename_i K;obtain⟨rfl,rfl⟩:=K;cases h;exact⟨V,V⟩;cases h
theorem TB{F:Fam}{v wt:Nat}{r}(h:F.act .FQ v wt sm=some r):v=0/\wt=1/\r.2.2=.ph .Gd:=by
 simp only[Fam.act] at h;split at h;rename_i K;cases h;exact⟨K.1,K.2,V⟩;cases h
section
variable {P:Program}{L:WgLink}(H:WgLib P L){F:Fam}{n:Nat}{M:Env}{ds:Ld_}{k:Li_}{cs:Lf_}{s:St}{b:Frame}
include H
theorem SL(U:s.q=false)(V:ops[i]?=some ⟨d,.call ⟨.value (.func L.add),#[x,y],ats⟩,ty,pp,af,g⟩)(hw:AO M ops ⟨d,.call ⟨.value (.func L.add),#[x,y],ats⟩,ty,pp,af,g⟩=some true)(Y:((b.kind != .early)&&A5 n d)=true)
  (Z:ev M x=some (.pointer (some F.sA))) (aa:ev M y=some (.int .i64 (-1)))
  (h:JL (Gx P) (Ha P 0) b n (Az M d (.tuple #[])) ds (.inRegion ops rest::k) cs .quiet):
  JL (AF P false) (Stop P F .GM) b n M ds (.inRegion ops (i::rest)::k) cs s:=by
 refine EZ (vs:=[.pointer (some F.sA),.int .i64 (-1)]) V hw Y H.f_add (nm_add L) rfl (by simp[evs,Z,aa]) (d4 rfl) λac back=>JL.go 11 rfl (Ku (p:=.GM) (q:=.Fq) (ad:=F.sA) rfl U (by simp) (λ_ _ _=>rfl) rfl rfl rfl rfl rfl H.underlying_tWgP H.underlying_tUP H.room_tWg rfl (.inl rfl) ?_)
 refine Nw (p:=.Fq) (q:=.HD) (mk:=.releaseMerge) (ad:=F.sA) (vs:=[.pointer (some F.sA)]) rfl U (by simp) (λ_ _ _=>rfl) rfl rfl rfl rfl (by simp) (OP H) rfl rfl (JL.go 3 rfl ?_);refine Km (p:=.HD) (q:=.Gk) rfl rfl (by simp) (λ_ _ _=>rfl) rfl rfl rfl rfl rfl (by simp) (Lr H) (JL.go 2 rfl ?_);refine JL.defer (vs:=[]) rfl rfl rfl rfl rfl (JL.go 8 rfl ?_);refine JL.ext (vs:=[]) rfl rfl rfl (O6 H) rfl rfl (JL.go 7 rfl ?_);refine Ac rfl rfl rfl (λρ h=>Yl.fieldAddr H.underlying_tWg rfl (EG H.sizeOf_tAU) (h _ _ rfl)) (JL.go 1 rfl ?_);refine Ac rfl rfl rfl (λρ h=>Du H.underlying_t3 H.underlying_tU64 (h _ _ rfl)) ?_
 refine Ac (v:=.int .u64 18446744069414584320) rfl rfl rfl (λρ h=>(Yl.shl (h _ _ rfl) (h _ _ rfl) (by decide)).to (kR _ (by decide))) (TY H rfl rfl rfl rfl rfl ?_ λv wt ae K ag=>?_)
 .refine Ac rfl rfl rfl (λρ h=>Yl.assign (h _ _ rfl)) (JL.go 5 rfl ?_);refine Ac (v:=.int .u64 0) rfl rfl rfl (λρ h=>(Yl.and (h _ _ rfl) (h _ _ rfl)).to (kR _ (Ji (v:=0) (wt:=1) (by decide) (by decide)))) (Ac rfl rfl rfl (λρ h=>Yl.neq (h _ _ rfl) (h _ _ rfl)) ?_);refine JL.go 10 rfl (Ac (v:=.int .u64 (0:Nat)) rfl rfl rfl (λρ h=>(Yl.shr (h _ _ rfl) (h _ _ rfl) (by decide)).to (kR _ (I5 (v:=0) (wt:=1) (by decide)))) ?_);refine Ac (v:=.int .i32 (0:Nat)) rfl rfl rfl (λρ h=>(Du H.underlying_tU64 H.underlying_t21 (h _ _ rfl)).to (kR _ (wrap_i32 (by decide)))) ?_
  refine JL.go 5 rfl (Ac (v:=.int .u64 (1:Nat)) rfl rfl rfl (λρ h=>(Yl.and (h _ _ rfl) (h _ _ rfl)).to (kR _ (Js (v:=0) (wt:=1) (by decide) (by decide)))) ?_);refine Ac (v:=.int .u32 (1:Nat)) rfl rfl rfl (λρ h=>(Du H.underlying_tU64 H.underlying_tU32 (h _ _ rfl)).to (kR _ (wrap_u32 (by decide)))) ?_
  refine JL.go 30 rfl (Ac rfl rfl rfl (λρ h=>Yl.neq (h _ _ rfl) (h _ _ rfl)) ?_);refine JL.go 30 rfl (Ac rfl rfl rfl (λρ h=>Yl.fieldAddr H.underlying_tWg rfl (EG H.sizeOf_tAU) (h _ _ rfl)) ?_);refine JL.uLoad H (p:=.FQ) rfl rfl (by simp) rfl SB rfl rfl rfl rfl λv wt sm r ab=>?_;obtain⟨rfl,rfl,e⟩:=TB ab;refine⟨.Gd,e,?_⟩;refine JL.go 1 rfl (Ac (v:=.bool false) rfl rfl rfl (λρ h=>(Yl.neq (h _ _ rfl) (h _ _ rfl)).to (by simp)) ?_);refine JL.go 7 rfl (Ac rfl rfl rfl (λρ h=>Yl.fieldAddr H.underlying_tWg rfl (EG H.sizeOf_tAU) (h _ _ rfl)) ?_);refine JL.uStore H rfl rfl rfl rfl rfl (JL.go 9 rfl ?_);refine HV (JL.go 4 rfl ?_);refine Ac rfl rfl rfl (λρ h=>Yl.neq (h _ _ rfl) (h _ _ rfl)) (JL.go 8 rfl ?_);refine Ac rfl rfl rfl (λρ h=>Yl.fieldAddr H.underlying_tWg rfl (EG H.sizeOf_tU32) (h _ _ rfl)) (TK (vs:=[.pointer (some F.mA),.bool false,.int .i64 0]) rfl rfl rfl rfl (SV H) rfl rfl ?_);refine JL.go 4 rfl (Ac (v:=.int .u32 ((0:Nat):Int)) rfl rfl rfl (λρ h=>(Yl.sub (h _ _ rfl) (h _ _ rfl)).to (kR _ (by decide))) ?_);refine JL.go 2 rfl (JL.again ?_);refine JL.go 4 rfl (Ac rfl rfl rfl (λρ h=>Yl.neq (h _ _ rfl) (h _ _ rfl)) ?_);refine JL.go 3 rfl (JL.out rfl (JO.Mc rfl (Hk H) (JO.leave rfl (Ay.none H.f_add rfl) (back _ _ _ _ h))))
 .refine Ac rfl rfl rfl (λρ h=>Yl.assign (h _ _ rfl)) (JL.go 5 rfl ?_);refine Ac (v:=.int .u64 0) rfl rfl rfl (λρ h=>(Yl.and (h _ _ rfl) (h _ _ rfl)).to (kR _ (Ji (v:=v) (wt:=wt) (by omega) K))) (Ac rfl rfl rfl (λρ h=>Yl.neq (h _ _ rfl) (h _ _ rfl)) ?_);refine JL.go 10 rfl (Ac (v:=.int .u64 (v:Nat)) rfl rfl rfl (λρ h=>(Yl.shr (h _ _ rfl) (h _ _ rfl) (by decide)).to (kR _ (I5 (v:=v) (wt:=wt) K))) ?_);refine Ac (v:=.int .i32 (v:Nat)) rfl rfl rfl (λρ h=>(Du H.underlying_tU64 H.underlying_t21 (h _ _ rfl)).to (kR _ (wrap_i32 (by omega)))) ?_
  refine JL.go 5 rfl (Ac (v:=.int .u64 (wt:Nat)) rfl rfl rfl (λρ h=>(Yl.and (h _ _ rfl) (h _ _ rfl)).to (kR _ (Js (v:=v) (wt:=wt) (by omega) K))) ?_);refine Ac (v:=.int .u32 (wt:Nat)) rfl rfl rfl (λρ h=>(Du H.underlying_tU64 H.underlying_tU32 (h _ _ rfl)).to (kR _ (wrap_u32 K))) ?_
  refine JL.go 22 rfl (Ac (v:=.bool false) rfl rfl rfl (λρ h=>(Yl.lss (h _ _ rfl) (h _ _ rfl)).to (by simp)) ?_);refine JL.go 6 rfl ?_;by_cases O:wt=0;refine Ac rfl rfl rfl (λρ h=>Yl.move (h _ _ rfl)) (Ac (v:=.bool false) rfl rfl rfl (λρ h=>(Yl.neq (h _ _ rfl) (h _ _ rfl)).to (by simp[O])) ?_);refine JL.go 16 rfl ?_;by_cases ah:0<v;refine Ac rfl rfl rfl (λρ h=>Yl.move (h _ _ rfl)) (Ac (v:=.bool true) rfl rfl rfl (λρ h=>(Yl.gtr (h _ _ rfl) (h _ _ rfl)).to (by simp<;>omega)) ?_);refine JL.go 6 rfl (Hm rfl (JO.Mc rfl (Hk H) (JO.leave rfl (Ay.none H.f_add rfl) (back _ _ _ _ h))));refine Ac rfl rfl rfl (λρ h=>Yl.move (h _ _ rfl)) (Ac (v:=.bool false) rfl rfl rfl (λρ h=>(Yl.gtr (h _ _ rfl) (h _ _ rfl)).to (by simp<;>omega)) ?_);refine JL.go 2 rfl (Ac (v:=.bool true) rfl rfl rfl (λρ h=>(Yl.eql (h _ _ rfl) (h _ _ rfl)).to (by simp[O])) ?_);refine JL.go 3 rfl (Hm rfl (JO.Mc rfl (Hk H) (JO.leave rfl (Ay.none H.f_add rfl) (back _ _ _ _ h))));refine Ac rfl rfl rfl (λρ h=>Yl.move (h _ _ rfl)) (Ac (v:=.bool true) rfl rfl rfl (λρ h=>(Yl.neq (h _ _ rfl) (h _ _ rfl)).to (by simp[O])) ?_);refine JL.go 17 rfl (Ac (v:=.bool true) rfl rfl rfl (λρ h=>(Yl.gtr (h _ _ rfl) (h _ _ rfl)).to (by simp<;>omega)) ?_);refine JL.go 6 rfl (Hm rfl (JO.Mc rfl (Hk H) (JO.leave rfl (Ay.none H.f_add rfl) (back _ _ _ _ h))))
theorem S2{j:Nat}(K:s.q=false)(O:ops[i]?=some ⟨d,.call ⟨.value (.func L.add),#[x,y],ats⟩,ty,pp,af,g⟩)(hw:AO M ops ⟨d,.call ⟨.value (.func L.add),#[x,y],ats⟩,ty,pp,af,g⟩=some true)(U:((b.kind != .early)&&A5 n d)=true)
  (V:ev M x=some (.pointer (some F.sA))) (Y:ev M y=some (.int .i64 1))
  (h:JL (AF P true) (Stop P F (.En j)) b n (Az M d (.tuple #[])) ds (.inRegion ops rest::k) cs s):
  JL (AF P true) (Stop P F (.El j)) b n M ds (.inRegion ops (i::rest)::k) cs s:=by
 refine EZ (vs:=[.pointer (some F.sA),.int .i64 1]) O hw U H.f_add (nm_add L) rfl (by simp[evs,V,Y]) (d4 rfl) λZ back=>JL.go 12 rfl (Km (p:=.El j) (q:=.GH j) rfl K (by simp) (λ_ _ _=>rfl) rfl rfl rfl rfl rfl (by simp) (Lr H) ?_);refine JL.go 2 rfl (JL.defer (vs:=[]) rfl rfl rfl rfl rfl ?_);refine JL.go 8 rfl (JL.ext (vs:=[]) rfl rfl rfl (O6 H) rfl rfl ?_);refine JL.go 7 rfl (Ac rfl rfl rfl (λρ h=>Yl.fieldAddr H.underlying_tWg rfl (EG H.sizeOf_tAU) (h _ _ rfl)) ?_);refine JL.go 1 rfl (Ac rfl rfl rfl (λρ h=>Du H.underlying_t3 H.underlying_tU64 (h _ _ rfl)) ?_)
 refine Ac (v:=.int .u64 4294967296) rfl rfl rfl (λρ h=>(Yl.shl (h _ _ rfl) (h _ _ rfl) (by decide)).to (kR _ (by decide))) (Tj H K rfl rfl rfl rfl rfl ?_ λv aa ab=>?_)
 .refine Ac rfl rfl rfl (λρ h=>Yl.assign (h _ _ rfl)) (JL.go 5 rfl ?_);refine Ac (v:=.int .u64 0) rfl rfl rfl (λρ h=>(Yl.and (h _ _ rfl) (h _ _ rfl)).to (kR _ (Ji (v:=1) (wt:=0) (by decide) (by decide)))) (Ac rfl rfl rfl (λρ h=>Yl.neq (h _ _ rfl) (h _ _ rfl)) ?_);refine JL.go 10 rfl (Ac (v:=.int .u64 (1:Nat)) rfl rfl rfl (λρ h=>(Yl.shr (h _ _ rfl) (h _ _ rfl) (by decide)).to (kR _ (I5 (v:=1) (wt:=0) (by decide)))) ?_);refine Ac (v:=.int .i32 (1:Nat)) rfl rfl rfl (λρ h=>(Du H.underlying_tU64 H.underlying_t21 (h _ _ rfl)).to (kR _ (wrap_i32 (by decide)))) ?_
  refine JL.go 5 rfl (Ac (v:=.int .u64 (0:Nat)) rfl rfl rfl (λρ h=>(Yl.and (h _ _ rfl) (h _ _ rfl)).to (kR _ (Js (v:=1) (wt:=0) (by decide) (by decide)))) ?_);refine Ac (v:=.int .u32 (0:Nat)) rfl rfl rfl (λρ h=>(Du H.underlying_tU64 H.underlying_tU32 (h _ _ rfl)).to (kR _ (wrap_u32 (by decide)))) ?_
  refine JL.go 12 rfl (Ac (v:=.int .i32 1) rfl rfl rfl (λρ h=>(Du H.underlying_t3 H.underlying_t21 (h _ _ rfl)).to (kR _ (by decide))) ?_)
  refine Ac (v:=.bool true) rfl rfl rfl (λρ h=>(Yl.eql (h _ _ rfl) (h _ _ rfl)).to (by simp)) (JL.go 6 rfl ?_);refine Ac rfl rfl rfl (λρ h=>Yl.fieldAddr H.underlying_tWg rfl (EG H.sizeOf_tU32) (h _ _ rfl)) (Ku (p:=.GQ j) (q:=.Gj j) (ad:=F.mA) rfl K (by simp) (λ_ _ _=>rfl) rfl rfl rfl rfl rfl H.underlying_tPU32 H.underlying_tUP H.room_tU32 rfl (.inr rfl) ?_)
  refine Nw (p:=.Gj j) (q:=.Fz j) (mk:=.read) (ad:=F.mA) (vs:=[.pointer (some F.mA)]) rfl K (by simp) (λ_ _ _=>rfl) rfl rfl rfl rfl (by simp) (T3 H) rfl rfl (JL.go 5 rfl ?_);refine Ac (v:=.bool false) rfl rfl rfl (λρ h=>(Yl.lss (h _ _ rfl) (h _ _ rfl)).to (by simp)) (JL.go 7 rfl ?_);refine Ac (v:=.bool false) rfl rfl rfl (λρ h=>(Yl.neq (h _ _ rfl) (h _ _ rfl)).to (by simp)) (JL.go 17 rfl ?_);refine Ac (v:=.bool true) rfl rfl rfl (λρ h=>(Yl.gtr (h _ _ rfl) (h _ _ rfl)).to (by simp)) (JL.go 6 rfl ?_);exact Hm rfl (JO.Qj K rfl (Hk H) (JO.leave rfl (Ay.none H.f_add rfl) (back _ _ _ _ h)))
 .refine Ac rfl rfl rfl (λρ h=>Yl.assign (h _ _ rfl)) (JL.go 5 rfl ?_);refine Ac (v:=.int .u64 0) rfl rfl rfl (λρ h=>(Yl.and (h _ _ rfl) (h _ _ rfl)).to (kR _ (Ji (v:=(v+1)) (wt:=0) (by omega) (by decide)))) (Ac rfl rfl rfl (λρ h=>Yl.neq (h _ _ rfl) (h _ _ rfl)) ?_);refine JL.go 10 rfl (Ac (v:=.int .u64 ((v+1):Nat)) rfl rfl rfl (λρ h=>(Yl.shr (h _ _ rfl) (h _ _ rfl) (by decide)).to (kR _ (I5 (v:=(v+1)) (wt:=0) (by decide)))) ?_);refine Ac (v:=.int .i32 ((v+1):Nat)) rfl rfl rfl (λρ h=>(Du H.underlying_tU64 H.underlying_t21 (h _ _ rfl)).to (kR _ (wrap_i32 (by omega)))) ?_
  refine JL.go 5 rfl (Ac (v:=.int .u64 (0:Nat)) rfl rfl rfl (λρ h=>(Yl.and (h _ _ rfl) (h _ _ rfl)).to (kR _ (Js (v:=(v+1)) (wt:=0) (by omega) (by decide)))) ?_);refine Ac (v:=.int .u32 (0:Nat)) rfl rfl rfl (λρ h=>(Du H.underlying_tU64 H.underlying_tU32 (h _ _ rfl)).to (kR _ (wrap_u32 (by decide)))) ?_
  refine JL.go 12 rfl (Ac (v:=.int .i32 1) rfl rfl rfl (λρ h=>(Du H.underlying_t3 H.underlying_t21 (h _ _ rfl)).to (kR _ (by decide))) ?_)
  refine Ac (v:=.bool false) rfl rfl rfl (λρ h=>(Yl.eql (h _ _ rfl) (h _ _ rfl)).to (by simp<;>omega)) (JL.go 8 rfl ?_);refine Ac (v:=.bool false) rfl rfl rfl (λρ h=>(Yl.lss (h _ _ rfl) (h _ _ rfl)).to (by simp<;>omega)) (JL.go 7 rfl ?_);refine Ac (v:=.bool false) rfl rfl rfl (λρ h=>(Yl.neq (h _ _ rfl) (h _ _ rfl)).to (by simp)) (JL.go 17 rfl ?_);refine Ac (v:=.bool true) rfl rfl rfl (λρ h=>(Yl.gtr (h _ _ rfl) (h _ _ rfl)).to (by simp<;>omega)) (JL.go 6 rfl ?_);exact Hm rfl (JO.Qj K rfl (Hk H) (JO.leave rfl (Ay.none H.f_add rfl) (back _ _ _ _ h)))
omit H in
theorem SH{m:Nat}:∀v wt sm r,F.act (.EB m) v wt sm=some r->r.1=(v,wt,sm)/\r.2.1=#[Fam.Br F.sA]:=by
 intro v wt sm r h;simp only[Fam.act] at h;split at h;rename_i K;obtain⟨_,rfl⟩:=K;cases h;exact⟨V,V⟩;cases h
omit H in
theorem TO{m v wt:Nat}{r}(h:F.act (.EB m) v wt sm=some r):v<=m/\wt=0/\r.2.2=if v=0 then .ph .EE else .ph (.FY v):=by
 simp only[Fam.act] at h;split at h;rename_i K;cases h;exact⟨K.1,K.2,V⟩;cases h
omit H in
theorem RX:∀v wt sm r,F.act .FL v wt sm=some r->r.1=(v,wt,sm)/\r.2.1=#[Fam.Br F.sA]:=by
 intro v wt sm r h;simp only[Fam.act] at h;split at h;rename_i K;obtain⟨rfl,rfl⟩:=K;cases h;exact⟨V,V⟩;cases h
omit H in
theorem Sl{v wt:Nat}{r}(h:F.act .FL v wt sm=some r):v=0/\wt=0/\r.2.2=.ph .EE:=by
 simp only[Fam.act] at h;split at h;rename_i K;cases h;exact⟨K.1,K.2,V⟩;cases h
omit H in
theorem Su{v:Nat}(K:v<2147483648):IntKind.u64.wrap (Fam.word v 0+1)=Fam.word v 1:=by
 simp only[Fam.word,Fam.KK,IntKind.wrap,IntKind.bits,IntKind.signed];simp;omega
theorem JL.wait(ae:F.n<2147483648)(K:s.q=false)(ag:ops[i]?=some ⟨d,.call ⟨.value (.func L.wait),#[x],ats⟩,ty,pp,af,g⟩)(hw:AO M ops ⟨d,.call ⟨.value (.func L.wait),#[x],ats⟩,ty,pp,af,g⟩=some true)(ah:((b.kind != .early)&&A5 n d)=true)
  (ai:ev M x=some (.pointer (some F.sA)))
  {Q:GP}(ab:∀g s,(Dv P).ok Q g s->F.fin g s)
  (h:∀E' f,Le s.E E'->E' F.fd=none->(∀b,E' b≠none->s.H b=none)->F.rel (λi=>i<F.N/\F.bad i=true) f->JL (Dv P) Q b n (Az M d (.tuple #[])) ds (.inRegion ops rest::k) cs ⟨E',F.H4 s.H f,false⟩):
  JL (AF P true) (Stop P F .Co) b n M ds (.inRegion ops (i::rest)::k) cs s:=by
 refine EZ (vs:=[.pointer (some F.sA)]) ag hw ah H.f_wait (nm_wait L) rfl (by simp[evs,ai]) (d4 rfl) λal back=>JL.go 3 rfl (Km (p:=.Co) (q:=.EB F.n) rfl K (by simp) (λ_ _ _=>rfl) rfl rfl rfl rfl rfl (by simp) (Lr H) ?_);refine JL.go 2 rfl (HV ?_);refine Ap (L':=[(0,.pointer (some F.sA))]) ⟨rfl,trivial⟩ ?_;generalize F.n=m at ae ⊢
 induction m using Nat.strongRecOn with
 | _ m aj=>?_
 refine JL.go 5 rfl (Ac rfl rfl rfl (λρ h=>Yl.fieldAddr H.underlying_tWg rfl (EG H.sizeOf_tAU) (h _ _ rfl)) ?_);refine JL.uLoad H (p:=.EB m) rfl K (by simp) rfl SH rfl rfl rfl rfl λv wt sm r U=>?_;obtain⟨am,rfl,e⟩:=TO U;have O:v<2147483648:=by omega
 by_cases ac:v=0
 .subst ac;refine⟨.EE,e,?_⟩;refine JL.go 5 rfl (Ac (v:=.int .u64 (0:Nat)) rfl rfl rfl (λρ h=>(Yl.shr (h _ _ rfl) (h _ _ rfl) (by decide)).to (kR _ (I5 (v:=0) (wt:=0) (by decide)))) ?_);refine Ac (v:=.int .i32 (0:Nat)) rfl rfl rfl (λρ h=>(Du H.underlying_tU64 H.underlying_t21 (h _ _ rfl)).to (kR _ (wrap_i32 (by decide)))) ?_
  refine JL.go 5 rfl (Ac (v:=.int .u64 ((0:Nat):Int)) rfl rfl rfl (λρ h=>(Yl.and (h _ _ rfl) (h _ _ rfl)).to (kR _ (Js (v:=0) (wt:=0) (by decide) (by decide)))) ?_);refine Ac (v:=.int .u32 ((0:Nat):Int)) rfl rfl rfl (λρ h=>(Du H.underlying_tU64 H.underlying_tU32 (h _ _ rfl)).to (kR _ (wrap_u32 (by decide)))) ?_
  refine JL.go 6 rfl (Ac (v:=.bool true) rfl rfl rfl (λρ h=>(Yl.eql (h _ _ rfl) (h _ _ rfl)).to (by simp)) ?_);refine JL.go 6 rfl (Km (p:=.EE) (q:=.GI) rfl K (by simp) (λ_ _ _=>rfl) rfl rfl rfl rfl rfl (by simp) (Hk H) ?_);refine JL.go 3 rfl (Ku (p:=.GI) (q:=.EN) (ad:=F.sA) rfl K (by simp) (λ_ _ _=>rfl) rfl rfl rfl rfl rfl H.underlying_tWgP H.underlying_tUP H.room_tWg rfl (.inl rfl) ?_)
  refine Qf (vs:=[.pointer (some F.sA)]) K rfl rfl rfl rfl (Ng H) rfl rfl λE' V z1 Y Z aa T ak=>ab _ _ ?_;revert T;refine(?_:JL (Dv P) Q _ _ _ _ _ _ _);refine JL.go 5 rfl (Ac (v:=.bool true) rfl rfl rfl (λρ h=>(Yl.eql (h _ _ rfl) (h _ _ rfl)).to (by simp)) ?_);refine JL.go 2 rfl (Ac (v:=.int .u64 0) rfl rfl rfl (λρ h=>(Yl.and (h _ _ rfl) (h _ _ rfl)).to (kR _ (Ji (v:=0) (wt:=0) (by decide) (by decide)))) ?_);refine Ac (v:=.bool false) rfl rfl rfl (λρ h=>(Yl.neq (h _ _ rfl) (h _ _ rfl)).to (by simp)) (JL.go 8 rfl ?_);exact JL.ret rfl rfl (Ay.none H.f_wait rfl) (back _ _ _ _ (h E' V z1 Y Z aa))
 .refine⟨.FY v,by rw[e,d7 ac],?_⟩;refine JL.go 5 rfl (Ac (v:=.int .u64 (v:Nat)) rfl rfl rfl (λρ h=>(Yl.shr (h _ _ rfl) (h _ _ rfl) (by decide)).to (kR _ (I5 (v:=v) (wt:=0) (by decide)))) ?_);refine Ac (v:=.int .i32 (v:Nat)) rfl rfl rfl (λρ h=>(Du H.underlying_tU64 H.underlying_t21 (h _ _ rfl)).to (kR _ (wrap_i32 O))) ?_
  refine JL.go 5 rfl (Ac (v:=.int .u64 ((0:Nat):Int)) rfl rfl rfl (λρ h=>(Yl.and (h _ _ rfl) (h _ _ rfl)).to (kR _ (Js (v:=v) (wt:=0) O (by decide)))) ?_);refine Ac (v:=.int .u32 ((0:Nat):Int)) rfl rfl rfl (λρ h=>(Du H.underlying_tU64 H.underlying_tU32 (h _ _ rfl)).to (kR _ (wrap_u32 (by decide)))) ?_
  refine JL.go 6 rfl (Ac (v:=.bool false) rfl rfl rfl (λρ h=>(Yl.eql (h _ _ rfl) (h _ _ rfl)).to (by simp<;>omega)) ?_);refine JL.go 7 rfl (Ac rfl rfl rfl (λρ h=>Yl.fieldAddr H.underlying_tWg rfl (EG H.sizeOf_tAU) (h _ _ rfl)) ?_);refine JL.go 2 rfl (Ac (v:=.int .u64 (Fam.word v 1)) rfl rfl rfl (λρ h=>(Yl.add (h _ _ rfl) (h _ _ rfl)).to (kR _ (Su O))) ?_);refine JL.uCas H (m:=v) K rfl rfl rfl rfl rfl rfl ?_ ?_
  .refine JL.done (JL.go 6 rfl ?_);refine Ac (v:=.bool true) rfl rfl rfl (λρ h=>(Yl.eql (h _ _ rfl) (h _ _ rfl)).to (by simp)) (JL.go 6 rfl ?_);refine Ac rfl rfl rfl (λρ h=>Yl.fieldAddr H.underlying_tWg rfl (EG H.sizeOf_tU32) (h _ _ rfl)) (Ku (p:=.GN) (q:=.Gq) (ad:=F.mA) rfl K (by simp) (λ_ _ _=>rfl) rfl rfl rfl rfl rfl H.underlying_tPU32 H.underlying_tUP H.room_tU32 rfl (.inr rfl) ?_)
   refine Nw (p:=.Gq) (q:=.D6) (mk:=.write) (ad:=F.mA) (vs:=[.pointer (some F.mA)]) rfl K (by simp) (λ_ _ _=>rfl) rfl rfl rfl rfl (by simp) (Sz H) rfl rfl (JL.go 9 rfl ?_);refine Ac (v:=.int .u64 0) rfl rfl rfl (λρ h=>(Yl.and (h _ _ rfl) (h _ _ rfl)).to (kR _ (Ji (v:=v) (wt:=0) O (by decide)))) (Ac (v:=.bool false) rfl rfl rfl (λρ h=>(Yl.neq (h _ _ rfl) (h _ _ rfl)).to (by simp)) ?_);refine JL.go 10 rfl (Ac rfl rfl rfl (λρ h=>Yl.fieldAddr H.underlying_tWg rfl (EG H.sizeOf_tU32) (h _ _ rfl)) ?_);refine JL.go 1 rfl (R1 (vs:=[.pointer (some F.mA),.bool false]) K rfl rfl rfl rfl (Rx H) rfl rfl ?_);refine JL.go 5 rfl (Ac rfl rfl rfl (λρ h=>Yl.fieldAddr H.underlying_tWg rfl (EG H.sizeOf_tAU) (h _ _ rfl)) ?_);refine JL.uLoad H (p:=.FL) rfl K (by simp) rfl RX rfl rfl rfl rfl λv wt sm r U=>?_;obtain⟨rfl,rfl,e⟩:=Sl U;refine⟨.EE,e,?_⟩;refine Ac (v:=.bool false) rfl rfl rfl (λρ h=>(Yl.neq (h _ _ rfl) (h _ _ rfl)).to (by simp[Fam.word])) (JL.go 6 rfl ?_);refine Km (p:=.EE) (q:=.GI) rfl K (by simp) (λ_ _ _=>rfl) rfl rfl rfl rfl rfl (by simp) (Hk H) (JL.go 3 rfl ?_);refine Ku (p:=.GI) (q:=.EN) (ad:=F.sA) rfl K (by simp) (λ_ _ _=>rfl) rfl rfl rfl rfl rfl H.underlying_tWgP H.underlying_tUP H.room_tWg rfl (.inl rfl) ?_
   refine Qf (vs:=[.pointer (some F.sA)]) K rfl rfl rfl rfl (Ng H) rfl rfl λE' V z1 Y Z aa T ak=>ab _ _ ?_;revert T;refine(?_:JL (Dv P) Q _ _ _ _ _ _ _);exact JL.go 8 rfl (JL.ret rfl rfl (Ay.none H.f_wait rfl) (back _ _ _ _ (h E' V z1 Y Z aa)))
  .refine JL.done (JL.go 3 rfl ?_);refine JL.again (Ap (L':=[(0,.pointer (some F.sA))]) ⟨rfl,trivial⟩ ?_);exact aj (v - 1) (by omega) (by omega)
theorem JO.QI(K:b.roundOf=none)(O:s.q=false)(h:JO (Gx P) (Ha P 0) b n M ds cs .quiet):
  JO (AF P false) (Stop P F .GM) b n M (dcall L.done #[.pointer (some F.sA)]::ds) cs s:=by
 refine JO.enter (vs:=[.pointer (some F.sA)]) K H.f_done (nm_done L) V (d4 V) λT U todo=>JL.go 2 V (SL H O V V V V V ?_);exact JL.done (JL.out V (JO.leaveD V H.f_done V (.inl V) (h T U todo)))
end
end Pal
namespace Pal
open Go Go.Conc
variable {P:Program}{J:Judge P}{Q:Gs_}{g:Goroutine}{cs:Lf_}{c:Frame}{E:LH}{S S':List Seg}
variable{seg:Seg}
section
variable {H:LH}
theorem P7(K:S.flatten.Perm S'.flatten)(O:Ak E H S)(h:Ak E H S'->J.ok Q g (Ae E H S')):J.ok Q g (Ae E H S):=by
 have h1:Ae E H S=Ae E H S':=Ez O K;rw[h1];exact h (Nd.perm O K)
theorem NV(K:S'.flatten=S.flatten)(O:Ak E H S)(h:Ak E H S'->J.ok Q g (Ae E H S')):J.ok Q g (Ae E H S):=P7 (by rw[K]) O h
theorem S8{f:FuncId}{vs:Lv_}{R:Value->LH->Seg->Prop}(j:Nat)(ab:Ax J f vs E seg R)(K:Ak E H S)(O:S[j]?=some seg)
  (ac:∀v E' seg',Le E E'->R v E' seg'->Ak E' H (S.set j seg')->J.ok Q (G (c.finish v) cs) (Ae E' H (S.set j seg'))):
  J.ok Q (G (Frame.enter P f vs.toArray .normal) (c::cs)) (Ae E H S):=by
 have U:S.flatten.Perm (seg++(S.set j []).flatten):=(Db (seg':=seg) O).1.trans kK;have V:Nd E H (seg++(S.set j []).flatten):=Nd.perm K U;have ae:Ae E H S=mk E (AS (S.set j []).flatten H) seg:=by
  rw[show Ae E H S=mk E H S.flatten from rfl,Ez K U];unfold mk;rw[EI]
 have Y:=CZ.JC (ab (AS (S.set j []).flatten H) (Nd.front V)) (by rintro v s' ⟨E',B',_,_,_,rfl⟩;rfl);rw[← ae] at Y;refine Y Q c cs ?_;rintro v an ⟨⟨E',B',hle,ag,ah,rfl⟩,w,ai⟩;have e2:mk E' (AS (S.set j []).flatten H) B'=mk E' H (B'++(S.set j []).flatten):=by unfold mk;rw[EI]
 have aj:Nd E H (S.set j []).flatten:=by
  have:=V;rw[Nd.iff] at this ⊢;rw[k7,ls] at this;exact⟨this.1.2.1,λq ak=>this.2 q (lB _ ak)⟩
 have al:Nd E' H (S.set j []).flatten:=aj.grow λx am=>by
  have h0:=ai.d x am;have h1:AS B' (AS (S.set j []).flatten H) x=none:=h0;exact(GX h1).1
 have Z:Nd E' H (B'++(S.set j []).flatten):=Nd.glue ah al;rw[e2];have aa:(B'++(S.set j []).flatten).Perm (S.set j B').flatten:=kK.trans (Db O).2.symm;rw[Ez Z aa];exact ac v E' B' hle ag (Nd.perm Z aa)
end
variable {L:Env}{ds:Ld_}{k:Li_}{ops:Ao_}{i:Nat}{rest:List Nat}{d:Option Tmp}{t ty e:TypeId}{p:String}{af:Ae_}
section
variable {b:Frame}{n:Nat}{H:LH}{g:On_}
end
theorem RS{E H:LH}{a b c e:Nat}{K O U V:Obj}(ab:Ak E H [[(a,K)],[(b,O)],[(c,U)],[(e,V)]]):(⟨E,H0 (Ae E H [[(a,K)],[(b,O)],[(c,U)],[(e,V)]]).H a b c e,false⟩:St)=Ae E H []:=by
 have h:=Nd.iff.1 ab;have h1:H a=none:=(h.2 (a,K) (by simp)).2;have ac:H b=none:=(h.2 (b,O) (by simp)).2;have ae:H c=none:=(h.2 (c,U) (by simp)).2;have ag:H e=none:=(h.2 (e,V) (by simp)).2;unfold Ae mk;congr 1;funext x;simp only[H0,Ae,mk,kT,mv,k2,lj,lh,AS];by_cases Y:x=a;subst Y;simp[h1];by_cases e2:x=b;subst e2;simp[ac];by_cases Z:x=c;subst Z;simp[ae];by_cases aa:x=e;subst aa;simp[ag];simp[Y,e2,Z,aa]
theorem Tg{P:Program}{J:Judge P}{Q:Gs_}{b:Frame}{n:Nat}{L:Env}{ds:Ld_}{cs:Lf_}{E H:LH}{S:List Seg}{todo:Li_}{A B:Seg}(j K:Nat)(O:S[j]?=some A)(Y:(S.set j [])[K]?=some B)(Z:Ak E H S)
  (h:Ak E H (((S.set j []).set K []).set j (A++B))->JL J Q b n L ds todo cs (Ae E H (((S.set j []).set K []).set j (A++B)))):JL J Q b n L ds todo cs (Ae E H S):=by
 refine JS.perm ?_ Z h;have U:j<S.length:=(d8.1 O).1;have h1:=(Db (seg':=A) O).1;have aa:=(Db (seg':=B) Y).1;have h0:((S.set j []).set K [])[j]?=some []:=by
  by_cases e:K=j;subst e;rw[mJ (by simpa using U)];rw[l2 e,mJ U]
 have V:=(Db (seg':=A++B) h0).2;have ab:(((S.set j []).set K []).set j [])=(S.set j []).set K []:=by
  by_cases e:K=j;subst e;simp;rw[nk _ _ e];simp
 rw[ab] at V;refine h1.trans (List.Perm.trans ?_ V.symm);refine(List.Perm.append_right A aa).trans ?_;rw[lA];exact List.Perm.append_left _ kK
def WL{α:Type}(e:TypeId)(pp:Rp α)(E:LH)(bk c n:Nat)(f:Av_)(xs:List α):Prop:=
 OL e pp E (some ⟨bk,0,none⟩) c [(bk,.cells f e (0,0))] xs/\xs.length=n
variable{α:Type}{f:Av_}
theorem WL.Ag{e:TypeId}{pp:Rp α}{E E':LH}{bk c n:Nat}{xs:List α}(h:WL e pp E bk c n f xs)(hle:Le E E'):WL e pp E' bk c n f xs:=⟨h.1.Ag hle,h.2⟩
theorem WL.at{e:TypeId}{pp:Rp α}{E:LH}{bk c n:Nat}{xs:List α}{m:Int}{x:α}(h:WL e pp E bk c n f xs)(hm:ix xs m=some x):
  ∃ws,pp.r E ws x/\(∀j w,ws[j]?=some w->f[m.toNat*pp.n+j]?=some w):=by
 let⟨ws,h1,K,_,_⟩:=OL.again h.1 hm V;exact⟨ws,h1,K⟩
theorem WL.put{e:TypeId}{pp:Rp α}{E:LH}{bk c n:Nat}{xs K:List α}{m:Int}{x0 x':α}{ws':Lv_}(h:WL e pp E bk c n f xs)(O:K.length=n)(hm:ix K m=some x0)(U:pp.r E ws' x'):
  WL e pp E bk c n (Bf f (m.toNat*pp.n) ws') (xs.set m.toNat x')/\m.toNat*pp.n+pp.n<=f.size:=by
 obtain⟨mm,rfl,V⟩:=FM hm;have Y:mm<xs.length:=by rw[h.2,← O];exact(d8.1 V).1
 have Z:ix xs (mm:Int)=some xs[mm]:=by simp[ix,Y]
 let⟨ws,h1,ac,aa,ab⟩:=OL.again h.1 Z rfl;exact⟨⟨ab x' ws' U,by rw[l8];exact h.2⟩,aa⟩
theorem OL.cases{e:TypeId}{pp:Rp α}{E:LH}{a:Option Addr}{c:Nat}{xs:List α}(h:OL e pp E a c seg xs):
  (a=none/\c=0/\seg=[]/\xs=[])∨∃bk f,a=some ⟨bk,0,none⟩/\seg=[(bk,.cells f e (0,0))]/\WL e pp E bk c xs.length f xs:=by
 have h0:=h;obtain⟨Y,U,Z,aa⟩:=h;rcases U with⟨h1,K,O,V,ab⟩ | ⟨bk,f,h1,K,O⟩;exact .inl ⟨h1,O,V,List.length_eq_zero_iff.1 K⟩;subst h1 K;exact .inr ⟨bk,f,rfl,rfl,h0,rfl⟩
theorem WL.of{e:TypeId}{pp:Rp α}{E:LH}{a:Option Addr}{c:Nat}{xs:List α}{m:Int}{x:α}(h:OL e pp E a c seg xs)(hm:ix xs m=some x):
  ∃bk f,(a=some ⟨bk,0,none⟩/\seg=[(bk,.cells f e (0,0))])/\WL e pp E bk c xs.length f xs:=by
 rcases OL.cases h with⟨_,_,_,rfl⟩ | ⟨bk,f,h1,K,O⟩;let⟨k,_,h⟩:=FM hm;simp at h;exact⟨bk,f,⟨h1,K⟩,O⟩
theorem GA{P:Program}{s:St}{ρ:Operand->Value}{x y:Operand}{d:Option Tmp}{t ty e:TypeId}{p:String}{af:Ae_}{g:On_}{kd:IntKind}{xs:List α}{xv:α}{m:Int}{bk c K n:Nat}(O:xs.length=n)(hm:ix xs m=some xv)(U:P.underlying t=some (.slice e))(V:Bo P e=some K)(Y:ρ x=.slice (some ⟨bk,0,none⟩) n c)(Z:ρ y=.int kd m):
  Yl P ⟨d,.indexAddr t x y,ty,p,af,g⟩ ρ s (.pointer (some ⟨bk,m.toNat*K,none⟩)):=by
 subst O;exact PE hm U V Y Z
theorem Ut{P:Program}{s:St}{ρ:Operand->Value}{x:Operand}{d:Option Tmp}{t ty e:TypeId}{p:String}{af:Ae_}{g:On_}{xs:List α}{a:Option Addr}{n c:Nat}{ats:Array TypeId}(K:xs.length=n)(O:ats[0]?=some t)(U:P.underlying t=some (.slice e))(V:ρ x=.slice a n c):
  Yl P ⟨d,.call ⟨.builtin .len,#[x],ats⟩,ty,p,af,g⟩ ρ s (.int .i64 (xs.length:Int)):=by
 subst K;exact Yl.len O U V
variable {D:Nat->Bool}{listed:Array Bool}{s:St}{E':LH}
variable {x y:Operand}{u:TypeId}{v:Value}{kd:IntKind}
section
variable {b:Frame}{n m fuel:Nat}{H:LH}
variable {g:On_}
end
section
variable {b:Frame}{n:Nat}{H:LH}
variable {g:On_}
end
def JD(l:List Nat)(i:Int):Option Nat:=if 0<=i then l[i.toNat]? else none
variable {ρ:Operand->Value}{z:Operand}{kd':IntKind}{m':Int}{a:Nat}
section
variable {g:On_}{m:Int}{b:Nat}
theorem QZ{a:Nat}:IntKind.u8.wrap (a:Int)=((a%256:Nat):Int):=by
 simp only[IntKind.wrap,IntKind.bits,IntKind.signed];simp
theorem PO(K:ρ x=.int .u8 (a:Int))(O:ρ y=.int .u8 (b:Int)):Yl P ⟨d,.binOp .add t x y u,ty,p,af,g⟩ ρ s (.int .u8 (((a+b)%256:Nat):Int)):=by
 have h:=Yl.add (P:=P) (s:=s) (d:=d) (t:=t) (u:=u) (ty:=ty) (p:=p) (af:=af) (g:=g) K O;rw[← Int.natCast_add,QZ] at h;exact h
theorem Vs(K:P.underlying t=some (.int .u64))(hu:P.underlying u=some (.int .u8))(O:ρ x=.int .u64 (a:Int)):Yl P ⟨d,.convert t u x,ty,p,af,g⟩ ρ s (.int .u8 ((a%256:Nat):Int)):=by
 have h:=Du (P:=P) (s:=s) (d:=d) (ty:=ty) (p:=p) (af:=af) (g:=g) K hu O
 rw[QZ] at h;exact h
theorem P4{r:Int}(K:P.underlying t=some (.int .u8))(hu:P.underlying u=some (.int .i64))(O:ρ x=.int .u8 (a:Int))(h:AR ((a:Nat):Int)=some r):Yl P ⟨d,.convert t u x,ty,p,af,g⟩ ρ s (iV r):=by
 obtain⟨rfl,hb⟩:=Np h;have h:=Du (P:=P) (s:=s) (d:=d) (ty:=ty) (p:=p) (af:=af) (g:=g) K hu O
 rwa[Lz hb] at h
theorem Pv{l:List Nat}{bs:ByteArray}{r:Nat}(O:(bs.data.toList.map UInt8.toNat==l)=true)(U:P.underlying t=some .string)(V:ρ y=.int kd m)(Y:ρ (.const (.string bs))=.string bs)(h:JD l m=some r):Yl P ⟨d,.index t (.const (.string bs)) y,ty,p,af,g⟩ ρ s (.int .u8 (r:Int)):=by
 unfold JD at h;split at h
 .rename_i h0;have Z:=eq_of_beq O;rw[← Z,lI] at h;obtain⟨K,hb,rfl⟩:=lg.1 h;have aa:bs[m.toNat]?=some K:=by
   have h1:bs.data[m.toNat]?=some K:=by rw[← lC];exact hb
   let⟨ab,ac⟩:=f4.1 h1;rw[getElem?_pos bs m.toNat ab];exact kR some ac
  simp[Yl,execOp,lp,pure,bind,Sem.bind,Y,V,Instr.index,underlying,program,U,h0,aa,asIntOf]
 .cases h
end
variable{s':St}{oi:Oper}{pure w:Bool}
section
variable (J:Judge P)(Q:Gs_)(b:Frame)(ds:Ld_)(ops:Ao_)(k:Li_)(cs:Lf_)(X D D0:Nat->Bool)
def JB:Nat->Array Bool->Av_->St->Prop
 | 0,listed,T,s=>Region.ready .any ops listed=[]/\J.ok Q (G (fr b T ds (.inRegion ops []::k)) cs) s
 | fuel+1,listed,T,s=>
  Region.ready .any ops listed≠ []/\s.q=false/\∀i∈Region.ready .any ops listed,∀o,ops[i]?=some o->(∀c,o.op≠ .defer c)/\
   (Region.wanted o (yielded ops T)=false->JB fuel (AZ listed i) (B6 T o.dst undef) s)/\
   (Region.wanted o (yielded ops T)=true->X i=true->lp P (execOp (Bc T) o) s (λnx s'=>(∀x u,D0 x=true->s.get x=some u->s'.get x=some u)/\match nx with
    | .value v=>JB fuel (AZ listed i) (B6 T o.dst v) s'
    | .skip=>JB fuel (AZ listed i) (B6 T o.dst undef) s'
    | _=>False) (λ_ _=>False))/\
   (Region.wanted o (yielded ops T)=true->X i=false->lp P (execOp (Bc T) o) (A2 D s) (λnx s'=>match nx with
    | .value v=>JB fuel (AZ listed i) (B6 T o.dst v) (Bz D s s')
    | .skip=>JB fuel (AZ listed i) (B6 T o.dst undef) (Bz D s s')
    | _=>False) (λ_ _=>False))
variable {J Q b ds ops k cs X D D0}
theorem TA(V:b.kind≠ .early):∀(fuel t:Nat) (listed:Array Bool) (T:Av_) (s:St),JB J Q b ds ops k cs X D D0 fuel listed T s->
  J.ok Q (G (fr b T ds (.inRegion ops (Region.linearise.go .any ops fuel t listed [])::k)) cs) s:=by
 intro fuel
 induction fuel with
 | zero=>intro t listed T s h;simpa [Region.linearise.go] using h.2
 | succ fuel O=>
  intro t listed T s h;obtain⟨aa,ab,h⟩:=h;obtain⟨i,hi⟩:∃i,(Region.ready .any ops listed)[t%(Region.ready .any ops listed).length]?=some i:=by
   have:0<(Region.ready .any ops listed).length:=List.length_pos_iff.2 aa;exact⟨_,f9 (mO _ this)⟩
  have Y:=kL hi;have hgo:Region.linearise.go .any ops (fuel+1) t listed []=i::Region.linearise.go .any ops fuel (t/(Region.ready .any ops listed).length) (AZ listed i) []:=by
   simp only[Region.linearise.go];change (match(Region.ready .any ops listed)[t%(Region.ready .any ops listed).length]? with
    | some i=>Region.linearise.go .any ops fuel (t/(Region.ready .any ops listed).length) (listed.setIfInBounds i true) [i]
    | none=>[].reverse)=_
   rw[hi];simp only;rw[linearise_go_acc];rfl
  rw[hgo];let⟨_,o,U,_⟩:=mem_ready.1 Y;let⟨hd,h0,h1,ac⟩:=h i Y o U;cases hw:Region.wanted o (yielded ops T) with
  | false=>exact Judge.unwanted U hw (O _ _ _ _ (h0 hw))
  | true=>
   cases Z:X i with
   | true=>
    refine Judge.oper U hw V (.inr hd) (CL _ (h1 hw Z) ?_ (λ_ _ h=>h.elim));rintro nx s' ⟨_,K⟩;cases nx with
    | value v=>exact O _ _ _ _ K
    | skip=>exact O _ _ _ _ K
    | _=>exact K.elim
   | false=>
    refine Judge.Qo D U hw V hd ab (CL _ (ac hw Z) ?_ (λ_ _ h=>h));intro nx s' K;cases nx with
    | value v=>exact O _ _ _ _ K
    | skip=>exact O _ _ _ _ K
    | _=>exact K.elim
def waitAll(ops:Ao_)(X:Nat->Bool)(i:Nat):Bool:=(List.range ops.size).all λj=> !X j || waits ops ops.size j i
theorem Uz{D:Nat->Bool}{s:St}(K:s'.E=(A2 D s).E){x:Nat}{o:Obj}(h:s.E x=some o):(Bz D s s').E x=some o:=by
 by_cases hd:D x;simp[Bz,hd,h];have:=congrFun K x;simp[A2,hd] at this;simp[Bz,hd,this,h]
theorem T7{D0 D:Nat->Bool}{s:St}(h:∀x,D0 x=true->D x=true):∀x o,(A2 D0 s).E x=some o->(A2 D s).E x=some o:=λx o K=>by
 simp only[A2] at K ⊢
 split;split at K;exact K;unfold St.get;rw[K];rename_i hd;rw[d7 (λe=>hd (h x e))] at K;exact K
theorem TE{D0:Nat->Bool}{s:St}(h:∀x u,D0 x=true->s.get x=some u->s'.get x=some u)(O:s'.E=s.E):∀x o,(A2 D0 s).E x=some o->(A2 D0 s').E x=some o:=λx o K=>by
 simp only[A2] at K ⊢
 split;rename_i hd;rw[d5 hd] at K;exact h x o hd K;rename_i hd;rw[d7 hd] at K;rw[O];exact K
theorem OD{D0 D:Nat->Bool}{s:St}(h:∀x,D0 x=true->D x=true)(O:s'.E=(A2 D s).E):∀x o,(A2 D0 s).E x=some o->(A2 D0 (Bz D s s')).E x=some o:=λx o K=>by
 simp only[A2] at K ⊢
 split
 .rename_i hd;rw[d5 hd] at K
  unfold St.get Bz;simp only[h x hd,lL];exact K
 .rename_i hd;rw[d7 hd] at K;exact Uz O K
theorem T1{i:Nat}{v:Value}(aC:∀x,D0 x=true->D x=true)(hi:ops[i]?=some oi)(aW:X i=false)(aM:(pure || waitAll ops X i)=true)(aX:Region.noSelect ops=true)(aY:∀c,oi.op≠ .defer c):
  ∀(fuel:Nat) (listed:Array Bool) (T:Av_) (s:St),G4 ops listed i oi=true->Ga ops listed=true->listed.size=ops.size->i∈Region.ready .any ops listed->s.q=false->Region.wanted oi (yielded ops T)=w->
   (w=true->∀s',s'.q=false->(∀x o,(A2 D0 s).E x=some o->s'.E x=some o)->(pure=false->∀x o,(A2 D s).E x=some o->s'.E x=some o)->Yl P oi (Bc T) s' v)->
   JB J Q b ds ops k cs X D D0 fuel (AZ listed i) (B6 T oi.dst (if w then v else undef)) s->JB J Q b ds ops k cs X D D0 (fuel+1) listed T s:=by
 have ag:∀(j:Nat) (aa:Oper),ops[j]?=some aa->∀cs b,aa.op≠Op.select cs b:=λj aa h cs b=>Region.noSelect_spec aX j aa cs b h;intro fuel
 induction fuel with
 | zero=>?_
 | succ fuel ak=>?_
 all_goals
  intro listed T s aN aO al aA am hw ah h;refine⟨λe=>(by rw[e] at aA;cases aA),am,λj aP aa O=>?_⟩;by_cases an:j=i
  .subst an;obtain rfl:aa=oi:=by rw[hi] at O;exact(d0 O).symm
   refine⟨aY,λh0=>?_,λh1 K=>?_,λh1 K=>?_⟩;rw[h0] at hw;subst hw;exact h;rw[aW] at K;cases K;rw[h1] at hw;subst hw;refine CL _ (ah rfl (A2 D s) am (T7 aC) λ_ _ _ h=>h).out ?_ (λ_ _ h=>h);rintro nx s' ⟨rfl,rfl⟩;rw[I3];exact h
  ·
   have aQ:j∈Region.ready .any ops (AZ listed i):=ready_mono aP an;let⟨ai,U,aR,aD⟩:=mem_ready.1 aP;obtain rfl:U=aa:=by rw[O] at aR;exact(d0 aR).symm
   have aE:=(mem_ready.1 aA).1;have aZ:(U.after.any λe=>Region.binds .any e&&e.on==i)=false:=by
    rw[Array.any_eq_false];intro e he K;simp only[f5,mb] at K;have:=aD _ (Array.getElem_mem he) K.1;rw[K.2] at this;have aj:listed.getD i true=listed.getD i false∨listed.size<=i:=by
     rcases kC i listed.size with q | q;left;simp[kA,q];exact .inr q
    rcases aj with aj | aj;rw[aE,this] at aj;cases aj;rw[kA,kJ aj] at this;simp at this
   have a2:oi.apart ops U=true:=by
    have aF:j<ops.size:=(f4.1 O).1;have:=kW.1 aN j (lH.2 aF);simp only[lu,mb] at this;rcases this with(q | q) | q;exact absurd q an;rw[ai] at q;cases q;rw[O] at q;simp only[lu] at q;rw[aZ] at q;exact q.resolve_left (by simp)
   let⟨a1,ao,ap⟩:=Oper.apart_spec a2;let⟨p1,p2⟩:=Gw (ops:=ops) (T:=T) (v:=if w then v else undef) (ag j U O) a1
   first
    | exact absurd aQ (by rw[h.1];simp)
    | (
     obtain⟨be,_,h⟩:=h
     let⟨hd,h0,a3,a4⟩:=h j aQ U O
     have aq:AZ (AZ listed i) j=AZ (AZ listed j) i:=by
      unfold AZ;exact mE _ _ (kU an)
     have ar:i∈Region.ready .any ops (AZ listed j):=ready_mono aA (kU an)
     have au:G4 ops (AZ listed j) i oi=true:=by
      refine kW.2 λx K=>?_
      have:=kW.1 aN x K
      simp only[lu,mb] at this ⊢
      rcases this with(q | q) | q;exact .inl (.inl q)
      .left;right
       by_cases e:j=x;subst e;rw[ai] at q;cases q;rw[AZ,getD_set_ne true e];exact q
      .exact .inr q
     have av:(AZ listed j).size=ops.size:=by unfold AZ;simpa using al
     have aw:Ga ops (AZ listed j)=true:=by
      refine kW.2 λx K=>?_
      cases aG:ops[x]? with
      | none=>simp
      | some a5=>
       simp only[lu,l3]
       by_cases e:j=x
       .subst e
        obtain rfl:a5=U:=by rw[O] at aG;exact(d0 aG).symm
        right
        refine l6.2 λe he=>?_
        cases hb:Region.binds .any e with
        | false=>simp
        | true=>
         have:=aD e he hb
         by_cases e2:j=e.on
         .rw [← e2] at this
          have aH:j<listed.size:=by rw[al];exact(f4.1 O).1
          simp[kA,aH] at this ai
          rw[ai] at this;cases this
         .rw [AZ,getD_set_ne false e2];simpa using this
       .cases aS:(AZ listed j).getD x false with
        | false=>exact .inl rfl
        | true=>
         right
         have a6:listed.getD x false=true:=by rw[AZ,getD_set_ne false e] at aS;exact aS
         refine l6.2 λaI he=>?_
         cases hb:Region.binds .any aI with
         | false=>simp
         | true=>
          have:=Ni aO aG a6 aI he hb
          by_cases e2:j=aI.on
          .rw [← e2] at this
           have aH:j<listed.size:=by rw[al];exact(f4.1 O).1
           simp[kA,aH] at this ai
           rw[ai] at this;cases this
          .rw [AZ,getD_set_ne false e2];simpa using this
     refine⟨hd,λa7=>?_,λaJ aB=>?_,λaJ aB=>?_⟩
     .have:=h0 (by rw[p2];exact a7)
      rw[aq,Hl ao] at this
      obtain⟨V,Y⟩:=Gw (ops:=ops) (T:=T) (d:=U.dst) (v:=undef) (o:=oi) (ag i oi hi) ap
      exact ak _ _ _ au aw av ar am (by rw[Y];exact hw) (λZ s' a8 h0 ab=>by unfold Yl;rw[V];exact(ah Z s' a8 h0 ab).out) this
     ·
      have a9:pure=true:=by
       cases ba:pure with
       | true=>rfl
       | false=>
        exfalso
        rw[ba,nj] at aM
        have aF:j<ops.size:=(f4.1 O).1
        have h1:=kW.1 aM j (lH.2 aF)
        rw[aB] at h1
        simp only[Bool.not_true,nj] at h1
        rcases OK aO _ j U O (λe he hb=>aD e he hb) h1 with q | ⟨x,V,Y⟩
        .have bb:i<listed.size:=by rw[al];exact(f4.1 hi).1
         simp[kA,bb] at q aE
         rw[aE] at q;cases q
        .have:¬x<listed.size:=by rw[al];intro K;simp[K] at V
         simp[kA,this] at Y
      have ay:=MO _ (a3 (by rw[p2];exact aJ) aB)
      rw[p1] at ay
      refine CL _ ay ?_ (λ_ _ h=>h)
      rintro nx s' ⟨⟨aK,K⟩,ab,aL⟩
      have aT:=TE aK ab
      have az:s'.q=false:=aL.trans am
      have aU:pure=false->∀{α:Prop},α:=λe=>by rw[a9] at e;cases e
      cases nx with
      | value u=>
       simp only at K ⊢
       rw[aq,Hl ao] at K
       obtain⟨V,Y⟩:=Gw (ops:=ops) (T:=T) (d:=U.dst) (v:=u) (o:=oi) (ag i oi hi) ap
       exact⟨aK,ak _ _ _ au aw av ar az (by rw[Y];exact hw) (λZ s2 ac h0 ae=>by unfold Yl;rw[V];exact(ah Z s2 ac (λx o h=>h0 x o (aT x o h)) (λe=>aU e)).out) K⟩
      | skip=>
       simp only at K ⊢
       rw[aq,Hl ao] at K
       obtain⟨V,Y⟩:=Gw (ops:=ops) (T:=T) (d:=U.dst) (v:=undef) (o:=oi) (ag i oi hi) ap
       exact⟨aK,ak _ _ _ au aw av ar az (by rw[Y];exact hw) (λZ s2 ac h0 ae=>by unfold Yl;rw[V];exact(ah Z s2 ac (λx o h=>h0 x o (aT x o h)) (λe=>aU e)).out) K⟩
      | _=>exact K.elim
     .have ay:=MO _ (a4 (by rw[p2];exact aJ) aB)
      rw[p1] at ay
      refine CL _ ay ?_ (λ_ _ h=>h)
      rintro nx s' ⟨K,ab,aL⟩
      have aV:=OV (D:=D) ab
      have az:(Bz D s s').q=false:=by show s'.q=false;rw[aL];exact am
      cases nx with
      | value u=>
       simp only at K ⊢
       rw[aq,Hl ao] at K
       obtain⟨V,Y⟩:=Gw (ops:=ops) (T:=T) (d:=U.dst) (v:=u) (o:=oi) (ag i oi hi) ap
       exact ak _ _ _ au aw av ar az (by rw[Y];exact hw) (λZ s2 ac h0 ae=>by unfold Yl;rw[V];exact(ah Z s2 ac (λx o h=>h0 x o (OD aC ab x o h)) (λe=>by rw[aV] at ae;exact ae e)).out) K
      | skip=>
       simp only at K ⊢
       rw[aq,Hl ao] at K
       obtain⟨V,Y⟩:=Gw (ops:=ops) (T:=T) (d:=U.dst) (v:=undef) (o:=oi) (ag i oi hi) ap
       exact ak _ _ _ au aw av ar az (by rw[Y];exact hw) (λZ s2 ac h0 ae=>by unfold Yl;rw[V];exact(ah Z s2 ac (λx o h=>h0 x o (OD aC ab x o h)) (λe=>by rw[aV] at ae;exact ae e)).out) K
      | _=>exact K.elim)
end
section
variable (J:Judge P)(Q:Gs_)(b:Frame)(n:Nat)(ds:Ld_)(ops:Ao_)(k:Li_)(cs:Lf_)(X D D0:Nat->Bool)
def JR(fuel:Nat)(listed:Array Bool)(L:Env)(s:St):Prop:=∀T,Has n L T->JB J Q b ds ops k cs X D D0 fuel listed T s
end
theorem JB.take{i:Nat}{v:Value}{P:Program}{J:Judge P}{Q:Gs_}{b:Frame}{ds:Ld_}{ops:Ao_}{k:Li_}{cs:Lf_}{X D D0:Nat->Bool}(K:∀x,D0 x=true->D x=true)(hi:ops[i]?=some oi)(O:X i=false)(U:(pure || waitAll ops X i)=true)(V:Region.noSelect ops=true)(Y:∀c,oi.op≠ .defer c)
  (fuel:Nat) (listed:Array Bool) (T:Av_) (s:St) (h1:G4 ops listed i oi=true) (Z:Ga ops listed=true) (aa:listed.size=ops.size) (ab:i∈Region.ready .any ops listed) (ac:s.q=false) (ae:Region.wanted oi (yielded ops T)=w)
  (ag:w=true->∀s',s'.q=false->(pure=false->∀x o,(A2 D s).E x=some o->s'.E x=some o)->Yl P oi (Bc T) s' v)
  (h:JB J Q b ds ops k cs X D D0 fuel (AZ listed i) (B6 T oi.dst (if w then v else undef)) s):JB J Q b ds ops k cs X D D0 (fuel+1) listed T s:=
 T1 K hi O U V Y fuel listed T s h1 Z aa ab ac ae (λe s' ah _ ai=>ag e s' ah ai) h
def QV(ops:Ao_)(listed:Array Bool)(xs:List Nat)(pure:Bool)(i:Nat):Bool:=match ops[i]? with
 | some oi=> !AW xs i&&(pure || waitAll ops (AW xs) i)&&Region.noSelect ops&& !CX oi.op&&G4 ops listed i oi&&Ga ops listed&&listed.size==ops.size&&(Region.ready .any ops listed).contains i
 | none=>false
variable {X:Nat->Bool}{l0 xl bks:List Nat}
section
variable {b:Frame}{n fuel:Nat}{H:LH}
variable {g:On_}
theorem UE(xl bks l0:List Nat){id:Nat}(hm:P.follows .mixedOrders=true)(K:(b.kind != .early)=true)
  (h:JR J Q b n ds ops k cs (AW xl) (AW (l0++bks)) (AW l0) ops.size (Array.replicate ops.size false) L (Ae E H S)):JL J Q b n L ds (.code (.region id ops true)::k) cs (Ae E H S):=
 Qp V hm λt T O=>TA (by simpa using K) ops.size t _ T _ (h T O)
theorem VM:∀x,AW l0 x=true->AW (l0++bks) x=true:=λx h=>by
 simp only[AW,List.contains_iff_mem,kM] at h ⊢;exact .inl h
theorem JB.val(i:Nat)(pure:Bool)(hi:ops[i]?=some oi)(K:QV ops listed xl pure i=true)(V:s.q=false)
  (hw:AO L ops oi=some true) (Y:A5 n oi.dst=true) (Z:∀ρ,Eg L ρ->∀s':St,(pure=false->∀x o,(A2 (AW (l0++bks)) s).E x=some o->s'.E x=some o)->Yl P oi ρ s' v)
  (h:JR J Q b n ds ops k cs (AW xl) (AW (l0++bks)) (AW l0) fuel (AZ listed i) (Az L oi.dst v) s):JR J Q b n ds ops k cs (AW xl) (AW (l0++bks)) (AW l0) (fuel+1) listed L s:=λT O=>by
 simp only[QV,hi,f5] at K
 obtain⟨⟨⟨⟨⟨⟨⟨h1,aa⟩,ab⟩,U⟩,ac⟩,ae⟩,ag⟩,ah⟩:=K
 refine JB.take (w:=true) (v:=v) (pure:=pure) VM hi (by simpa using h1) aa ab (λc K=>by rw[K] at U;simp[CX] at U) fuel listed T s ac ae (by simpa using ag) (by simpa using ah) V (BF O hw) (λ_ s' aj ai=>Z _ O.Gi s' ai) ?_
 exact h _ (O.put Y v)
theorem JB.fin{l0:List Nat}(K:Region.ready .any ops listed=[])(h:JL J Q b n L ds k cs s):JR J Q b n ds ops k cs X D (AW l0) 0 listed L s:=λT O=>⟨K,JL.done h T O⟩
def MX(S:List Seg)(j:Nat):List Nat->Prop
 | []=>True
 | bk::l=>(∃(i:Nat) (o:Obj),(i==j)=false/\S[i]?=some [(bk,o)])/\MX S j l
theorem MX.mem{S:List Seg}{j:Nat}:∀{l:List Nat},MX S j l->∀bk∈l,∃(i:Nat) (o:Obj),i≠j/\S[i]?=some [(bk,o)]
 | [],_,_,h=>by cases h
 | b::l,⟨⟨i,o,hi,h⟩,K⟩,bk,hb=>by
  rcases f7.1 hb with rfl | hb;exact⟨i,o,by simpa using hi,h⟩;exact K.mem bk hb
theorem JB.store{bk off:Nat}{c:Av_}(i j:Nat)(V:Region.ready .any ops listed=[i])(ag:AW xl i=true)(ah:ops[i]?=some ⟨d,.store t x y,ty,p,af,g⟩)(hw:AO L ops ⟨d,.store t x y,ty,p,af,g⟩=some true)(ai:A5 n d=true)(Y:Ak E H S)
  (O:ev L x=some (.pointer (some ⟨bk,off,none⟩))) (aj:ev L y=some v) (ak:Bo P t=some v.cells.size) (al:∀u∈v.cells.toList,A3 u=true) (Z:S[j]?=some [(bk,.cells c e (0,0))]) (h0:MX S j l0) (hle:off+v.cells.size<=c.size)
  (h:Ak E H (S.set j [(bk,.cells (Bf c off v.cells.toList) e (0,0))])->JR J Q b n ds ops k cs (AW xl) (AW (l0++bks)) (AW l0) fuel (AZ listed i) (Az L d undef) (Ae E H (S.set j [(bk,.cells (Bf c off v.cells.toList) e (0,0))]))):
  JR J Q b n ds ops k cs (AW xl) (AW (l0++bks)) (AW l0) (fuel+1) listed L (Ae E H S):=λT K=>by
 refine⟨by rw[V];simp,rfl,λaw U o' aa=>?_⟩
 rw[V] at U
 simp at U
 subst U
 obtain rfl:o'=⟨d,.store t x y,ty,p,af,g⟩:=by rw[ah] at aa;exact(d0 aa).symm
 have am:=BF K hw;refine⟨λc an=>(by cases an),λe=>?_,λ_ _=>?_,λ_ e=>?_⟩;rw[am] at e;cases e
 .let⟨h1,ao⟩:=FJ Y Z;rw[h1];show lp P (do Instr.storeAt t (Bc T x) (Bc T y);pure Next.skip) _ _ _
  rw[K.ev O,K.ev aj];refine AG _ _ ?_;unfold Instr.storeAt;simp only[Instr.sureAddr,bind,Sem.bind,pure];refine OR (pl:=(S.set j []).flatten.length) ak al ao (c:=c) (e:=e) (by simp) hle λab=>?_;have ap:((S.set j []).flatten++ [(bk,Obj.cells c e (0,0))]).set (S.set j []).flatten.length (bk,.cells (Bf c off v.cells.toList) e (0,0))=(S.set j []).flatten++ [(bk,.cells (Bf c off v.cells.toList) e (0,0))]:=Kq _ _ _ _;rw[ap] at ab ⊢;let⟨aq,ac⟩:=Hu Z ab;rw[aq];refine⟨λx u O ar=>?_,h ac _ (K.put ai undef)⟩;obtain⟨ay,o',au,ae⟩:=h0.mem x (by simpa [AW] using O);have av:(Ae E H S).get x=some o':=Dp (i:=0) Y ae rfl;have g2:(Ae E H (S.set j [(bk,.cells (Bf c off v.cells.toList) e (0,0))])).get x=some o':=Dp (i:=0) ac (by rw[l2 (kU au)];exact ae) rfl;have g0:(Ae E H S).get x=some u:=by rw[h1];exact ar
  rw[av] at g0;rw[g2];exact g0
 .rw [ag] at e;cases e
end
variable {B:List (Nat×Obj)}
section
variable {H:LH}
end
theorem AK.Vj{pp:Rp α}{E H:LH}{B:List (Nat×Obj)}{a:Option Addr}{c:Nat}{ys:List α}(Z:AK pp E a c ys):
  ∃K:List (Lv_),K.length=ys.length/\(∀(i:Nat) x ws,ys[i]?=some x->K[i]?=some ws->pp.r E ws x)/\Ie (mk E H B) (.slice a ys.length c) pp.n K.flatten/\∀w∈K.flatten,A3 w=true:=by
 obtain⟨K,U,Y,V⟩:=Z.rows;have aa:=HZ U Y;refine⟨K,U,Y,?_,λw hw=>?_⟩
 .rcases V with⟨V,ai⟩ | ⟨bk,off,rfl,V⟩
  .subst V;have:K=[]:=lN U;subst this;cases a with
   | none=>exact⟨rfl,rfl⟩
   | some ad=>exact⟨.inr rfl,by simp,lz _,λq w O=>by simp at O⟩
  .refine⟨.inl rfl,by rw[Nj aa,U],Z.1,λq w O=>?_⟩;let⟨ab,m,ws,ac,e2,ae⟩:=Nf aa O;have:=(V ab ws ac).cell (H:=H) (B:=B) e2;subst ae;rw[← mf];exact this
 .let⟨us,ag,hw⟩:=mt.1 hw;let⟨q,O⟩:=kQ.1 ag;have ah:q<ys.length:=by rw[← U];exact(d8.1 O).1
  exact pp.one (Y q _ us (f9 ah) O) w hw
theorem V1{P:Program}{s:St}{t:TypeId}{a b:Bool}(K:P.underlying t=some .bool){Q:Bool->St->Prop}{X:Halt->St->Prop}(h:Q (a==b) s):lp P (Op.equal t (.bool a) (.bool b)) s Q X:=by
 unfold Op.equal Op.maxDepth Op.equalIn;exact AG _ _ (CE K h)
theorem Uh{P:Program}{s:St}{ρ:Operand->Value}{x y:Operand}{d:Option Tmp}{t u ty:TypeId}{p:String}{af:Ae_}{g:On_}{a b:Bool}(K:P.underlying t=some .bool)(O:ρ x=.bool a)(U:ρ y=.bool b):Yl P ⟨d,.binOp .eql t x y u,ty,p,af,g⟩ ρ s (.bool (a==b)):=by
 refine FG (sm:=do eqGuard .eql t x y (ρ x) (ρ y);binOp .eql t (ρ x) (ρ y)) rfl ?_
 rw[O,U];have V:lp P (eqGuard .eql t x y (.bool a) (.bool b)) s (λ_ s'=>s'=s) (λ_ _=>False):=by simp[eqGuard,lp,pure]
 refine AG _ _ (CL _ V ?_ (λ_ _ h=>h));rintro _ _ rfl;have hb:binOp .eql t (.bool a) (.bool b)=(do pure (.bool (← Op.equal t (.bool a) (.bool b)))):=rfl
 rw[hb];exact AG (x:=Op.equal t (.bool a) (.bool b)) _ (V1 K ⟨rfl,rfl⟩)
variable {z1:Operand}
section
variable {b:Frame}{n:Nat}{H:LH}
variable {g:On_}
end
open Go.ConcN (sumTo sumTo_upd upd upd_ne upd_same)
def Kr(P:Program)(R:Value->St->Prop):GP:=λg s=>
 g.status=.running/\∃v,R v s/\∀w,stepG P true g w=.ended (.done v) w #[]
variable {R:Value->St->Prop}
section
variable {n:Nat}{b:Frame}
theorem JO.end{fn:Func}{t:Tmp}{v:Value}(K:b.kind=.normal)(hi:P.inits.idxOf? b.fn=none)(O:P.funcs[b.fn]?=some fn)(U:fn.results=#[.tmp t])(V:look L t=some v)(Y:R v s):JO J (Kr P R) b n L [] [] s:=λT Z todo=>by
 refine J.stop ⟨rfl,v,Y,λw=>?_⟩
 have e:results fn T=Sem.pure v:=by
  have:=Z.at_ t v V;simp only[results,U,lY];show Sem.pure (T.getD t undef)=_;rw[this]
 have aa:(results fn T).run P w=.ok v w:=by rw[e];rfl
 have e2:(results fn T).events P w #[]=#[]:=by rw[e];simp[Sem.events_pure']
 simp[G,stepG,unwind,Dw,O,aa,e2,doReturn,K,GStep.after,hi,seen_none]
end
def After(P:Program)(R:Value->St->Prop)(K:World)(s₀:St)(v:Value)(w':World):Prop:=
 ∃s,R v s/\Fits s w'/\(∀b o,s₀.E b=some o->s.E b=some o)/\w'.tape=K.tape/\EP K.os w'.os/\w'.output=K.output
def Ow(P:Program)(R:Value->St->Prop)(K:World)(s₀:St)(O:Nat)(m:Machine)(t:Trace):Prop:=
 ∃gs w sl q Sh g s,m=crowd gs w sl/\F1 P gs w t q Sh g s/\Kr P R g s/\O=sumTo gs.size q/\(∀b o,s₀.E b=some o->s.E b=some o)/\w.tape=K.tape/\EP K.os w.os/\w.output=K.output
theorem TQ{ae:World}{s₀:St}(aj:Nat)(m:Machine)(t:Trace)(h:Ow P R ae s₀ aj m t):
  (∃o w ops,stepT P m=(.ended o w,ops)/\Good P (After P R ae s₀) m o w (t++ops))∨(∃m' ops ak,stepT P m=(.next m',ops)/\ak<aj/\Ow P R ae s₀ ak m' (t++ops)):=by
 obtain⟨gs,w,sl,q,Sh,g,s,rfl,hC,aA,rfl,al,am,an,ao⟩:=h;obtain⟨Z,v,ap,aq⟩:=aA;have aB:∀x∈gs,awake x:=by
  intro x V;obtain⟨i,hi,rfl⟩:=mM.1 V;rcases k4 i with rfl | ag
  .have:gs[0]=g:=by simpa [kS hi] using hC.main
   rw[this];exact awake_of (.inl Z)
  .exact awake_of ((hC.lv.old i _ ag (kS hi)).status.elim .inl λx=>.inr (.inr x))
 obtain⟨i,x,d,ar,hi,V,au⟩:=crowd_pick (P:=P) (w:=w) (sl:=sl) aB ⟨0,g,hC.main,Z⟩;have av:=hC.at_ d;have aC:0<gs.size:=(f4.1 hC.main).1;have aD:∀(a:Nat) (fn:FuncId) (pos:String),MemOp.ofEvents a fn pos #[]=#[]:=λa fn pos=>by rw[ofEvents_eq];simp
 rcases k4 i with rfl | ag
 .obtain rfl:x=g:=by rw[hC.main] at hi;exact(d0 hi).symm
  have aa:=runT_many_ended (P:=P) (sl:=ar) (i:=0) hi (show stepG P (0==0) x (w.at d)=_ from aq (w.at d));rw[aD] at aa;refine .inl ⟨_,_,_,au.trans aa,v,rfl,⟨s,ap,av.Bl.fits 0 aC,al,am,an,ao⟩,?_,?_,⟨λy K=>?_,rfl⟩,λj y K O=>?_⟩;simpa using hC.Bl.clean;simpa using hC.over;let⟨j,O⟩:=kQ.1 K;rw[mU] at O;exact⟨_,(hC.lv.old (1+j) y (by omega) (by simpa [crowd] using O)).leaves⟩;have Y:=hC.lv.old j y (by omega) K;exact⟨q j,by simp only[mD];exact Y.hears w⟩
 .have Y:=hC.lv.old i x ag hi;have aE:(i==0)=false:=by simp;omega
  have aw:i<gs.size:=(f4.1 hi).1;cases ah:q i with
  | zero=>rw[ah] at Y;rw[Y.1] at V;cases V
  | succ k=>
   rw[ah] at Y;rcases Y with⟨aF,_⟩ | ⟨_,x',es,hm,aG,aH⟩;rw[aF] at V;cases V
   have aL:sumTo gs.size (upd q i k)+(k+1)=sumTo gs.size q+k:=by
    have:=sumTo_upd q k id aw;simpa [ah] using this
   have aa:=runT_crowd_go (P:=P) (sl:=ar) (i:=i) hi (by rw[aE];exact aG (w.at d));have ai:((gs.map (woken P x x' (w.at d))).setIfInBounds i x').size=gs.size:=by simp
   have ab:∀op∈MemOp.ofEvents i x.frame.fn x.frame.place es,op.g=i:=λop U=>by obtain⟨e,_,rfl⟩:=mem_ofEvents U;rfl
   have ay:∀op∈MemOp.ofEvents i x.frame.fn x.frame.place es,op.act.touch?=none:=λop U=>by obtain⟨e,he,rfl⟩:=mem_ofEvents U;exact touch_mute (hm e he)
   have aI:F1 P ((gs.map (woken P x x' (w.at d))).setIfInBounds i x') (w.at d) (t++MemOp.ofEvents i x.frame.fn x.frame.place es) (upd q i k) Sh g s:=by
    refine⟨?_,⟨λj y O K=>?_,λj O=>?_⟩,?_,?_,?_⟩
    .have aJ:i≠0:=by omega
     rw[f6 aJ,lV,hC.main];simp[woken_run Z]
    by_cases ac:i=j;subst ac;rw[kD (by simpa using aw)] at K;obtain rfl:=d0 K;rw[upd_same,Deaf_own];exact aH;rw[f6 ac,lV] at K;obtain⟨z,aK,rfl⟩:=lg.1 K;have az:=hC.lv.old j z O aK;rw[woken_quitsD az,upd_ne q k (kU ac),Deaf_other t ac _ ab];exact az;rw[Deaf_other t (g':=i) (by simp at O;omega) _ ab];exact hC.lv.above j (by simpa using O);rw[ai];exact av.Bl.mute ab ay (λop U=>by obtain⟨e,he,rfl⟩:=mem_ofEvents U;exact low_mute (hm e he) _) rfl;exact handedOver_app hC.over λop U=>.inr (ay op U);rw[Deaf_other t (by omega) _ ab];exact hC.hears
   exact .inr ⟨_,_,_,au.trans aa,by rw[← ai];rw[ai];omega,_,_,_,_,_,_,_,rfl,aI,⟨Z,v,ap,aq⟩,rfl,al,am,an,ao⟩
theorem ends{gs:Array Goroutine}{w:World}{sl:Option (Nat×Nat)}{t:Trace}{q:Nat->Nat}{Sh:Nat->Prop}{g:Goroutine}{s:St}(hC:F1 P gs w t q Sh g s)(O:Kr P R g s):
  ∃N last o w' K,runNT P (N+1) (crowd gs w sl) t=(.ended o w',K)/\runN P N (crowd gs w sl)=.next last/\step P last=.ended o w'/\Good P (After P R w s) last o w' K:=
 run_of_inv Nat.lt_wfRel.wf (Ow P R w s) (Good P (After P R w s)) TQ _ _ _ ⟨gs,w,sl,q,Sh,g,s,V,hC,O,V,λ_ _ h=>h,V,.refl _,V⟩
theorem R3{m m':Machine}{t K:Trace}{n:Nat}(h:runNT P n m t=(.next m',K)):runN P n m=.next m':=by rw[← runNT_fst P n m t,h]
def Fw(W:World):St:=⟨λb=>W.heap[b]?,λ_=>none,false⟩
theorem Tf{W:World}{g:Goroutine}(h:(Dv P).ok (Kr P R) g (Fw W)):
  ∃M last o w' K,runNT P (M+1) (solo g W) #[]=(.ended o w',K)/\runN P M (solo g W)=.next last/\step P last=.ended o w'/\Good P (After P R W (Fw W)) last o w' K:=by
 have hC:F1 P #[g] W #[] (λ_=>0) (λ_=>False) g (Fw W):=by
  have V:∀{i:Nat}{a:Touch},touchAt #[] i=some a->False:=λ{i a} h=>by simp[touchAt,Trace.act?] at h
  refine⟨rfl,leavers_one P g,⟨λi hi=>?_,λi j hi Y ay=>by simp at hi Y;omega,λi hi b hb=>hb.elim,λb hb=>hb.elim,λsaid=>?_,by simp,λi _ b _ x a O=>(V O).elim,λi _ b _ x a O=>(V O).elim⟩,λi g Z=>by simp[Trace.g?] at Z,rfl⟩
  .have:i=0:=by simp at hi;exact hi
   subst this;exact⟨λb o U=>U,λb o U=>(by cases U),λb _=>rfl⟩
  .rintro⟨i,j,_,⟨a,b,aa,_⟩,_⟩;simp[Trace.act?] at aa
 let⟨n,gs',w',ab,K,q',az,g',s',h1,ac,ae,ag,ah,ai,aj⟩:=h #[g] W none #[] _ _ hC;let⟨N,last,o,ak,al,k1,am,an,ao⟩:=ends (sl:=ab) ac ae;refine⟨n+N,last,o,ak,al,?_,?_,an,?_⟩;rw[solo_eq_crowd,mf,runNT_add,h1];exact k1;have ap:=R3 h1;rw[solo_eq_crowd,runN_add,ap];exact am;obtain⟨v,e,⟨s2,a1,aq,ar,au,av,aw⟩,r⟩:=ao;exact⟨v,e,⟨s2,a1,aq,λb o hb=>ar b o (ag b o hb),au.trans ah,ai.trans av,aw.trans aj⟩,r⟩
end Pal
namespace Pal
open Go Go.Conc
theorem SP{P:Program}{Q:Gs_}{E H:LH}{f:FuncId}{fn:Func}{c:Code}{vs:Lv_}(U:P.funcs[f]?=some fn)(hb:fn.body=some c)(aa:fn.ntmps=fn.ntmps)(ab:vs.length<=fn.ntmps)
  (h:JL (Dv P) Q (base f) fn.ntmps (Gh 0 vs) [] [.code c] [] (Ae E H [[]])):(Dv P).ok Q (G (Frame.enter P f vs.toArray .normal) []) (mk E H []):=by
 have he:Frame.enter P f vs.toArray .normal=fr (base f) (vs.toArray++Array.replicate (fn.ntmps - vs.length) undef) [] [.code c]:=by
  simp[Frame.enter,fr,U,hb,base];rfl
 rw[he];have V:mk E H []=Ae E H [[]]:=by unfold Ae;simp
 rw[V];refine h _ ⟨by simp;omega,λt v Y=>?_⟩;let⟨_,K⟩:=Kd Y;have Z:t<vs.length:=by
  rcases kC t vs.length with O | O;exact O;simp at K;have:=(d8.1 K).1;omega
 rw[kA,lT (by simpa using Z)];simp at K;simp[K]
end Pal
