/- DebtPennies is true for every input: if all coins are one pound: a part (5 of 9) of the proof of its row. -/
import Derived.Test.YtkcbafbhngehjaaGreatPnb
import Derived.Test.YtkcbafbhngehjaaGreatPnc
import Derived.Test.YtkcbafbhngehjaaGreatPnd
import Derived.Conc.ClockLaws
import Derived.Conc.WgGenN3
set_option linter.all false
set_option maxRecDepth 100000
namespace Pal
open Go Go.Conc
variable{m':M4}{w:World}{q:Nat}{R X Y:Ph->GP}
section
variable {P:Program}{F:Fam}
theorem M4.cC{m:M4}(h:m.num=m'.num):m=m':=by
  obtain⟨l,k,s,w⟩:=m;obtain⟨l',k',s',w'⟩:=m';simp only[M4.num] at h;cases l<;>cases k<;>cases s<;>cases l'<;>cases k'<;>cases s'<;>simp only[pI,pu] at h<;>first
    | (have e:w=w':=by omega
       subst e;rfl)
    | (exfalso;omega)
theorem Lx{m:M4}(h:F.MU w m q):w.cell? F.uA=some (.int .i32 m.num)/\w.cell? F.qA=some (.int .u32 q)/\w.frozen? F.uA=false/\w.frozen? F.qA=false:=by
 unfold Fam.MU Fam.Iw at h;refine⟨?_,?_,?_,?_⟩;simp[World.cell?,Fam.uA,h];simp[World.cell?,Fam.qA,h];simp[World.frozen?,Fam.uA,h];simp[World.frozen?,Fam.qA,h]
theorem T2{m:M4}(h:F.MU w m q):w.setCell F.uA (.int .i32 m'.num)=F.Gc w m' q:=by
 unfold Fam.Gc World.setCell;congr 1;apply qm;intro i;unfold Fam.MU Fam.Iw at h;rw[qT];have O:F.mu<w.heap.size:=by
  rcases mt F.mu w.heap.size with K | K;exact K;simp[py K] at h
 by_cases e:F.mu=i;subst e;rw[pq O,h];simp[Fam.uA,Fam.Iw];rw[pe e];simp[Fam.uA,e]
theorem Uw{m:M4}{q':Nat}(h:F.MU w m q):w.setCell F.qA (.int .u32 q')=F.Gc w m q':=by
 unfold Fam.Gc World.setCell;congr 1;apply qm;intro i;unfold Fam.MU Fam.Iw at h;rw[qT];have O:F.mu<w.heap.size:=by
  rcases mt F.mu w.heap.size with K | K;exact K;simp[py K] at h
 by_cases e:F.mu=i;subst e;rw[pq O,h];simp[Fam.qA,Fam.Iw];rw[pe e];simp[Fam.qA,e]
theorem Uo{m:M4}(h:F.MU w m q):F.Gc w m q=w:=by
 unfold Fam.Gc;have:w.heap.setIfInBounds F.mu (F.Iw m.num q)=w.heap:=by
  apply qm;intro i;by_cases e:F.mu=i
  .subst e;unfold Fam.MU at h;have O:F.mu<w.heap.size:=by
    rcases mt F.mu w.heap.size with K | K;exact K;simp[py K] at h
   rw[pq O,h]
  .rw [pe e]
 rw[this]
theorem Ha.put{m:M4}:Ha w (F.Gc w m q) (F.Gc w m q):=⟨V,V,.refl _,V⟩
theorem Ha.self{m:M4}(h:F.MU w m q):Ha w (F.Gc w m q) w:=by rw[Uo h];exact⟨rfl,rfl,.refl _,rfl⟩
def NU(P:Program)(F:Fam)(X Y:Ph->GP):Prop:=∀p g s,HC P F X p g s->Y p g s
abbrev De(P:Program)(F:Fam)(X:Ph->GP):Prop:=NU P F X X
theorem De.stop:De P F (Stop P F):=λ_ _ _ h=>h.stop
def Jy(P:Program)(F:Fam)(R:Ph->GP)(p:Ph)(g:Goroutine)(s:St):Prop:=∃X:Ph->GP,(∀p g s,X p g s->HC P F (λp g s=>X p g s∨R p g s) p g s)/\X p g s
def Xu(P:Program)(F:Fam)(R:Ph->GP)(p:Ph)(g:Goroutine)(s:St):Prop:=Jy P F R p g s∨R p g s
theorem Jy.of{p:Ph}{g:Goroutine}{s:St}(h:Stop P F p g s):Jy P F R p g s:=
 let ⟨X,K,O⟩:=h
 ⟨X,λp g s U=>(K p g s U).M P F λ_ _ _ h=>.inl h,O⟩
theorem Jy.to:NU P F (Xu P F R) (Jy P F R):=λp g s h=>by
 refine⟨λK g' s'=>Jy P F R K g' s'∨(K=p/\g'=g/\s'=s),λK g' s' U=>?_,.inr ⟨rfl,rfl,rfl⟩⟩
 rcases U with⟨X,O,Y⟩ | ⟨rfl,rfl,rfl⟩
 .refine(O K g' s' Y).M P F λp g s h=>?_
  rcases h with h | h;exact .inl (.inl ⟨X,O,h⟩);exact .inr h
 .refine h.M P F λp g s h=>?_;rcases h with h | h;exact .inl (.inl h);exact .inr h
theorem De.XC:De P F (Xu P F R):=λp g s h=>.inl (Jy.to p g s h)
theorem iL(h:∀p g s,R p g s->Jy P F R p g s){p:Ph}{g:Goroutine}{s:St}(O:R p g s):Stop P F p g s:=by
 refine⟨Jy P F R,λp g s O=>?_,h p g s O⟩;obtain⟨X,U,Y⟩:=O;refine(U p g s Y).M P F λp g s K=>?_;rcases K with K | K;exact⟨X,U,K⟩;exact h p g s K
theorem Kd(O:NU P F X Y){k:Nat}{p:LP}{g:Goroutine}{s:St}(U:g.status=.running)(K:g.offers=none)(Z:s.q=false)(ac:p≠ .F0)(ag:∀sv,p=.CI sv->∀w m,F.MU w m 0->stepG P false g w=.go {g with status:=.blocked} w #[])(ai:∀b,p=.FE b->mayWake P g=true)
  (h:∀w m q,F.MU w m q->Ec p m q->∃m' q' es x g' w',(m',q',es,x)∈F.B9 p m q/\stepG P false g w=.go g' w' es/\Ha w (F.Gc w m' q') w'/\g'.status=.running/\Way P false (X (Fam.Dm k x)) g' s):Y (.lk k p) g s:=
 O _ _ _ {
  run:=U,offers:=K,quiet:=(by simp[Fam.CZ]),live:=λ_=>Z,act:=(by simp[Fam.act]),JE:=λe=>by
   rcases e with e | ⟨k',b,e⟩;cases e;cases e;exact ai b rfl
  FF:=(by simp),go:=(by simp),lk:=λk' l e al w m q hm K=>by cases e;exact h w m q hm K
  CI:=λk' sv e w m hm=>by cases e;exact ag sv rfl w m hm
  store:=λk' e=>by cases e;exact absurd rfl ac
  fin:=(by simp)}
end
variable {ops:Ao_}{i:Nat}{rest:List Nat}{d:Option Tmp}{f:FuncId}{z:Operand}{args:Array Operand}{vs:Lv_}{ats:Array TypeId}{ty t u tw:TypeId}{pp:String}{af:Ae_}{g:On_}{p:LP}{kk:Nat}
variable{o:Option LP}{nw old:M4}
section
variable {P:Program}{F:Fam}{n:Nat}{L L':Env}{ds:Ld_}{k:Li_}{cs:Lf_}{s s':St}{b:Frame}
variable {x y:Operand}
def IW:LP->Bool
 | .F0 | .CI _ | .FE _=>false
 | _=>true
theorem Lm(h:IW p=true):p≠ .F0:=λe=>by subst e;cases h
theorem Lj(h:IW p=true){X:Bool->Prop}:∀sv,p=.CI sv->X sv:=λsv e=>by subst e;cases h
theorem Lk(h:IW p=true){X:Bool->Prop}:∀sv,p=.FE sv->X sv:=λsv e=>by subst e;cases h
theorem MC(Z:De P F X){mk:Mark}(ac:s.q=false)(K:IW p=true)(ag:∀m q,F.B9 p m q=[(m,q,#[Fam.CR mk],o)])
  (ai:ops[i]?=some ⟨d,.call ⟨.value (.func f),args,ats⟩,ty,pp,af,g⟩) (U:b.roundOf=none) (hw:AY L ops ⟨d,.call ⟨.value (.func f),args,ats⟩,ty,pp,af,g⟩=some true) (O:((b.kind != .early)&&Bo n d)=true)
  (hm:∀x,mk≠ .extern x) (he:Cf P f (λ_=>do mark mk;pure Extern.Race.none_))
  (h:JL (A0 P false) (X (Fam.Dm kk o)) b n (Ay L d (.tuple #[])) ds (.inRegion ops rest::k) cs s):
  JL (A0 P false) (X (.lk kk p)) b n L ds (.inRegion ops (i::rest)::k) cs s:=λT Y=>by
 simp only[gQ] at O
 obtain⟨fn,al,am,hb,ap,he⟩:=he.h
 refine(A0 P _).stop (Kd Z rfl rfl ac (Lm K) (Lj K) (Lk K) λw m q aq av=>?_)
 refine⟨m,q,_,o,_,w,by rw[ag];exact d7.2 rfl,?_,Ha.self aq,rfl,h _ (Y.put O.2 _)⟩
 rw[BV U,BV U,stepG_mark0 (a:=⟨T,ds⟩) mk hm ai (Ck Y hw) (by simpa using O.1) rfl al am hb ap he,Et]
 rfl
theorem RE(Z:De P F X){mk:Addr->Mark}{ad:Addr}(ac:s.q=false)(K:IW p=true)(ag:∀m q,F.B9 p m q=[(m,q,#[Fam.CR (mk ad)],o)])
  (ai:ops[i]?=some ⟨d,.call ⟨.value (.func f),args,ats⟩,ty,pp,af,g⟩) (Y:b.roundOf=none) (hw:AY L ops ⟨d,.call ⟨.value (.func f),args,ats⟩,ty,pp,af,g⟩=some true) (O:((b.kind != .early)&&Bo n d)=true)
  (hm:∀ad x,mk ad≠ .extern x) (he:Cf P f (Extern.Race.marked mk)) (al:evs L args.toList=some vs) (am:vs[0]?=some (.pointer (some ad)))
  (h:JL (A0 P false) (X (Fam.Dm kk o)) b n (Ay L d (.tuple #[])) ds (.inRegion ops rest::k) cs s):
  JL (A0 P false) (X (.lk kk p)) b n L ds (.inRegion ops (i::rest)::k) cs s:=λT U=>by
 simp only[gQ] at O
 obtain⟨fn,ap,aq,hb,av,he⟩:=he.h
 refine(A0 P _).stop (Kd Z rfl rfl ac (Lm K) (Lj K) (Lk K) λw m q aw ay=>?_)
 refine⟨m,q,_,o,_,w,by rw[ag];exact d7.2 rfl,?_,Ha.self aw,rfl,h _ (U.put O.2 _)⟩
 rw[BV Y,BV Y,stepG_markAt (a:=⟨T,ds⟩) mk hm ai (Ck U hw) (by simpa using O.1) rfl ap aq hb av he (ad:=ad) (by rw[KZ U al];simpa using am),Et]
 rfl
theorem Rh(ap:De P F X)(aq:s.q=false)(K:IW p=true)(av:∀m q,F.B9 p m q=[(m,q,#[],o)])
  (aw:ops[i]?=some ⟨d,.convert t u x,ty,pp,af,g⟩) (Y:b.roundOf=none) (hw:AY L ops ⟨d,.convert t u x,ty,pp,af,g⟩=some true) (O:((b.kind != .early)&&Bo n d)=true)
  (Z:P.underlying t=some (.pointer tw)) (hu:P.underlying u=some .unsafePointer) (ac:(P.info? tw).map (λi=>decide (i.size=0))=some false) (ay:ev L x=some (.pointer (some F.uA)))
  (h:JL (A0 P false) (X (Fam.Dm kk o)) b n (Ay L d (.pointer (some F.uA))) ds (.inRegion ops rest::k) cs s):
  JL (A0 P false) (X (.lk kk p)) b n L ds (.inRegion ops (i::rest)::k) cs s:=λT U=>by
 simp only[gQ] at O
 refine(A0 P _).stop (Kd ap rfl rfl aq (Lm K) (Lj K) (Lk K) λw m q ag a0=>?_)
 refine⟨m,q,_,o,_,w,by rw[av];exact d7.2 rfl,?_,Ha.self ag,rfl,h _ (U.put O.2 _)⟩
 have ai:=(Lx ag).1
 have al:=run_convert_to_unsafe (P:=P) (w:=w) Z hu ac ai
 have az:=events_convert_to_unsafe (P:=P) (w:=w) Z hu ac ai
 have am:execOp (⟨T,ds⟩:Act).eval ⟨d,.convert t u x,ty,pp,af,g⟩=(do pure (Next.value (← Go.convert t u (.pointer (some F.uA))))):=by
  rw[Mp];simp only[execOp,U.ev ay]
 rw[BV Y,BV Y,stepG_value (a:=⟨T,ds⟩) (v:=.pointer (some F.uA)) (w':=w) aw (Ck U hw) (by simpa using O.1) (by rw[am];simp[al,Result.andThen]),Et];have e2:listed P b.fn ⟨T,ds⟩ ⟨d,.convert t u x,ty,pp,af,g⟩ w=#[]:=by
  unfold listed;rw[am];simp[al,az,Result.evThen,seen_none]
 rw[e2]
theorem Rw(a0:NU P F X Y)(a1:s.q=false)(Z:IW p=true)
  (al:ops[i]?=some ⟨d,.call ⟨.value (.func f),#[x,y,z],ats⟩,ty,pp,af,g⟩) (U:b.roundOf=none) (hw:AY L ops ⟨d,.call ⟨.value (.func f),#[x,y,z],ats⟩,ty,pp,af,g⟩=some true) (O:((b.kind != .early)&&Bo n d)=true)
  (he:Cf P f (Extern.Atomic.casT (.int .i32))) (am:ev L x=some (.pointer (some F.uA))) (ap:ev L y=some (.int .i32 old.num)) (aq:ev L z=some (.int .i32 nw.num))
  (a2:∀q,Ec p old q->∃o,(nw,q,#[Fam.Cn F.uA,Fam.EN F.uA],o)∈F.B9 p old q/\JL (A0 P false) (X (Fam.Dm kk o)) b n (Ay L d (.bool true)) ds (.inRegion ops rest::k) cs s)
  (a3:∀m q,m≠old->Ec p m q->∃o,(m,q,#[Fam.Cn F.uA],o)∈F.B9 p m q/\JL (A0 P false) (X (Fam.Dm kk o)) b n (Ay L d (.bool false)) ds (.inRegion ops rest::k) cs s):
  ∀T,Has n L T->Y (.lk kk p) (G (fr b T ds (.inRegion ops (i::rest)::k)) cs) s:=λT K=>by
 simp only[gQ] at O
 obtain⟨fn,av,aw,hb,ay,he⟩:=he.h
 refine(Kd a0 rfl rfl a1 (Lm Z) (Lj Z) (Lk Z) λw m q ac az=>?_)
 let⟨c1,_,c3,_⟩:=Lx ac
 by_cases e:m=old
 .subst e
  let⟨o,ag,ai⟩:=a2 q az;refine⟨_,_,_,o,_,_,ag,?_,Ha.put,rfl,ai _ (K.put O.2 _)⟩;rw[BV U,BV U,stepG_cas_hit (a:=⟨T,ds⟩) al (Ck K hw) (by simpa using O.1) rfl av aw hb ay .i32 he (by rw[Fb];exact K.ev am) (by rw[Fb];exact K.ev ap) (by rw[Fb];exact K.ev aq) c1 c3,T2 ac,Et]
  rfl
 .let⟨o,ag,ai⟩:=a3 m q e az;refine⟨_,_,_,o,_,w,ag,?_,Ha.self ac,rfl,ai _ (K.put O.2 _)⟩;rw[BV U,BV U,stepG_cas_miss (a:=⟨T,ds⟩) al (Ck K hw) (by simpa using O.1) rfl av aw hb ay .i32 he (by rw[Fb];exact K.ev am) (by rw[Fb];exact K.ev ap) (by rw[Fb];exact K.ev aq) c1 c3 (λq=>e (M4.cC q)),Et]
  rfl
theorem U8(K:De P F X)(O:s.q=false)(U:IW p=true)
  (Y:ops[i]?=some ⟨d,.call ⟨.value (.func f),#[x,y,z],ats⟩,ty,pp,af,g⟩) (Z:b.roundOf=none) (hw:AY L ops ⟨d,.call ⟨.value (.func f),#[x,y,z],ats⟩,ty,pp,af,g⟩=some true) (ac:((b.kind != .early)&&Bo n d)=true)
  (he:Cf P f (Extern.Atomic.casT (.int .i32))) (ag:ev L x=some (.pointer (some F.uA))) (ai:ev L y=some (.int .i32 old.num)) (al:ev L z=some (.int .i32 nw.num))
  (am:∀q,Ec p old q->∃o,(nw,q,#[Fam.Cn F.uA,Fam.EN F.uA],o)∈F.B9 p old q/\JL (A0 P false) (X (Fam.Dm kk o)) b n (Ay L d (.bool true)) ds (.inRegion ops rest::k) cs s)
  (ap:∀m q,m≠old->Ec p m q->∃o,(m,q,#[Fam.Cn F.uA],o)∈F.B9 p m q/\JL (A0 P false) (X (Fam.Dm kk o)) b n (Ay L d (.bool false)) ds (.inRegion ops rest::k) cs s):
  JL (A0 P false) (X (.lk kk p)) b n L ds (.inRegion ops (i::rest)::k) cs s:=λT aq=>(A0 P _).stop (Rw K O U Y Z hw ac he ag ai al am ap T aq)
theorem HH(ac:De P F X){dl:Int}(ag:s.q=false)(O:IW p=true)
  (ai:ops[i]?=some ⟨d,.call ⟨.value (.func f),#[x,y],ats⟩,ty,pp,af,g⟩) (Y:b.roundOf=none) (hw:AY L ops ⟨d,.call ⟨.value (.func f),#[x,y],ats⟩,ty,pp,af,g⟩=some true) (U:((b.kind != .early)&&Bo n d)=true)
  (he:Cf P f (Extern.Atomic.update (Op.intArith .add) .i32 true)) (al:ev L x=some (.pointer (some F.uA))) (am:ev L y=some (.int .i32 dl))
  (h:∀m q,Ec p m q->∃m' o,IntKind.i32.wrap (m.num+dl)=m'.num/\(m',q,#[Fam.Cn F.uA,Fam.EN F.uA],o)∈F.B9 p m q/\JL (A0 P false) (X (Fam.Dm kk o)) b n (Ay L d (.int .i32 m'.num)) ds (.inRegion ops rest::k) cs s):
  JL (A0 P false) (X (.lk kk p)) b n L ds (.inRegion ops (i::rest)::k) cs s:=λT K=>by
 simp only[gQ] at U
 obtain⟨fn,ap,aq,hb,av,he⟩:=he.h
 refine(A0 P _).stop (Kd ac rfl rfl ag (Lm O) (Lj O) (Lk O) λw m q Z aw=>?_)
 let⟨c1,_,c3,_⟩:=Lx Z
 let⟨m',o,ay,az,a0⟩:=h m q aw
 refine⟨_,_,_,o,_,_,az,?_,Ha.put,rfl,a0 _ (K.put U.2 _)⟩
 rw[BV Y,BV Y,stepG_add_atomic (a:=⟨T,ds⟩) ai (Ck K hw) (by simpa using U.1) rfl ap aq hb av .i32 he (by rw[Fb];exact K.ev al) (by rw[Fb];exact K.ev am) c1 c3,ay,T2 Z,Et]
 rfl
theorem T9(am:De P F X){sv:Bool}(ap:s.q=false)(Z:ops[i]?=some ⟨d,.call ⟨.value (.func f),args,ats⟩,ty,pp,af,g⟩)(U:b.roundOf=none)(hw:AY L ops ⟨d,.call ⟨.value (.func f),args,ats⟩,ty,pp,af,g⟩=some true)(Y:((b.kind != .early)&&Bo n d)=true)
  (he:Cf P f Extern.Sync.semacquire) (aq:evs L args.toList=some vs) (av:vs[0]?=some (.pointer (some F.qA)))
  (h:JL (A0 P false) (X (.lk kk (if sv then .EW true else .Gs))) b n (Ay L d (.tuple #[])) ds (.inRegion ops rest::k) cs s):
  JL (A0 P false) (X (.lk kk (.CI sv))) b n L ds (.inRegion ops (i::rest)::k) cs s:=λT K=>by
 simp only[gQ] at Y
 obtain⟨fn,ac,ag,hb,ai,he⟩:=he.h
 have al:(args.map (⟨T,ds⟩:Act).eval)[0]?=some (.pointer (some F.qA)):=by rw[KZ K aq];simpa using av
 refine(A0 P _).stop (Kd am rfl rfl ap (by simp) (λaz e w m O=>?_) (by simp) λw m q O aw=>?_);let⟨_,c2,_,c4⟩:=Lx O;rw[BV U];exact stepG_semacquire_wait (a:=⟨T,ds⟩) Z (Ck K hw) rfl ac ag hb ai he (ad:=F.qA) al c2
 .let⟨_,c2,_,c4⟩:=Lx O;have a0:q≠0:=aw;refine⟨m,q - 1,_,some (if sv then .EW true else .Gs),_,_,d7.2 rfl,?_,Ha.put,rfl,h _ (K.put Y.2 _)⟩
  have ay:((q:Int) - 1)=((q - 1:Nat):Int):=by omega
  rw[BV U,BV U,stepG_semacquire (a:=⟨T,ds⟩) Z (Ck K hw) (by simpa using Y.1) rfl ac ag hb ai he (ad:=F.qA) al c2 (by omega) c4,Et,ay,Uw O]
theorem Ui(ac:De P F X){st:Bool}(ag:s.q=false)(U:ops[i]?=some ⟨d,.call ⟨.value (.func f),args,ats⟩,ty,pp,af,g⟩)(Y:b.roundOf=none)(hw:AY L ops ⟨d,.call ⟨.value (.func f),args,ats⟩,ty,pp,af,g⟩=some true)(K:((b.kind != .early)&&Bo n d)=true)
  (he:Cf P f Extern.Sync.semrelease) (ai:evs L args.toList=some vs) (al:vs[0]?=some (.pointer (some F.qA)))
  (h:JL (A0 P false) (X (.lk kk .FG)) b n (Ay L d (.tuple #[])) ds (.inRegion ops rest::k) cs s):
  JL (A0 P false) (X (.lk kk (.FE st))) b n L ds (.inRegion ops (i::rest)::k) cs s:=λT O=>by
 simp only[gQ] at K
 have am:=Va (P:=P) (b:=b) (ds:=ds) (k:=k) (cs:=cs) (rest:=rest) (T:=T) U he
 obtain⟨fn,ap,aq,hb,av,he⟩:=he.h
 have aw:(args.map (⟨T,ds⟩:Act).eval)[0]?=some (.pointer (some F.qA)):=by rw[KZ O ai];simpa using al
 refine(A0 P _).stop (Kd ac rfl rfl ag (by simp) (by simp) (λ_ _=>am) λw m q Z ay=>?_);let⟨_,c2,_,c4⟩:=Lx Z;have a0:q<=1:=ay.1;refine⟨m,q+1,_,some .FG,_,_,d7.2 rfl,?_,Ha.put,rfl,h _ (O.put K.2 _)⟩;have az:IntKind.u32.wrap ((q:Int)+1)=((q+1:Nat):Int):=by
  have:q=0∨q=1:=by omega
  rcases this with rfl | rfl<;>decide
 rw[BV Y,BV Y,stepG_semrelease (a:=⟨T,ds⟩) U (Ck O hw) (by simpa using K.1) rfl ap aq hb av he (ad:=F.qA) aw c2 c4,Et,az,Uw Z]
theorem YT(K:DJ P t=some false)(w:World):(isAgg t).run P w=.ok false w:=by
 unfold DJ at K;simp only[isAgg,underlying,bind,Sem.bind,program,Sem.run];cases hu:P.underlying t with
 | none=>rw[hu] at K;cases K
 | some u=>
  rw[hu] at K;cases u<;>simp at K<;>rfl
theorem HK(al:De P F X)(am:s.q=false)(K:IW p=true)
  (ap:ops[i]?=some ⟨d,.load t x,ty,pp,af,g⟩) (Y:b.roundOf=none) (hw:AY L ops ⟨d,.load t x,ty,pp,af,g⟩=some true) (O:((b.kind != .early)&&Bo n d)=true)
  (aq:DJ P t=some false) (av:(P.funcs[b.fn]?).any (·.norace)=true) (aw:ev L x=some (.pointer (some F.uA)))
  (h:∀m q,Ec p m q->∃o,(m,q,#[],o)∈F.B9 p m q/\JL (A0 P false) (X (Fam.Dm kk o)) b n (Ay L d (.int .i32 m.num)) ds (.inRegion ops rest::k) cs s):
  JL (A0 P false) (X (.lk kk p)) b n L ds (.inRegion ops (i::rest)::k) cs s:=λT U=>by
 simp only[gQ] at O
 refine(A0 P _).stop (Kd al rfl rfl am (Lm K) (Lj K) (Lk K) λw m q Z ay=>?_)
 let⟨o,az,a0⟩:=h m q ay
 refine⟨m,q,_,o,_,w,az,?_,Ha.self Z,rfl,a0 _ (U.put O.2 _)⟩
 have ac:=(Lx Z).1
 have ag:execOp (⟨T,ds⟩:Act).eval ⟨d,.load t x,ty,pp,af,g⟩=(do pure (Next.value (← Instr.loadAt t (.pointer (some F.uA))))):=by
  rw[Mp];simp only[execOp,U.ev aw]
 have ai:=YT (P:=P) aq w;rw[BV Y,BV Y,stepG_value (a:=⟨T,ds⟩) (v:=.int .i32 m.num) (w':=w) ap (Ck U hw) (by simpa using O.1) (by rw[ag];simp[Instr.loadAt,Instr.sureAddr,loadVar,ai,ac,Result.andThen]),Et];have e2:listed P b.fn ⟨T,ds⟩ ⟨d,.load t x,ty,pp,af,g⟩ w=#[]:=by
  unfold listed;rw[ag];have a1:(do pure (Next.value (← Instr.loadAt t (.pointer (some F.uA)))):Sem Next).events P w #[]=#[⟨.cell F.uA,false,false⟩]:=by
   simp[Instr.loadAt,Instr.sureAddr,loadVar,ai,ac,Result.evThen]
  rw[a1,seen_def];simp[seenStep,av]
 rw[e2]
theorem Rg(ag:De P F X)(ai:s.q=false)(K:IW p=true)
  (al:ops[i]?=some ⟨d,.call ⟨.value (.func f),args,ats⟩,ty,pp,af,g⟩) (U:b.roundOf=none) (hw:AY L ops ⟨d,.call ⟨.value (.func f),args,ats⟩,ty,pp,af,g⟩=some true) (O:((b.kind != .early)&&Bo n d)=true)
  (he:Cf P f Extern.OsHooks.nano) (Y:(P.funcs[f]?).any (·.norace)=true)
  (h:∀(m:M4) (q:Nat) (v:Int),Ec p m q->∃o,(m,q,#[],o)∈F.B9 p m q/\JL (A0 P false) (X (Fam.Dm kk o)) b n (Ay L d (.int .i64 v)) ds (.inRegion ops rest::k) cs s):
  JL (A0 P false) (X (.lk kk p)) b n L ds (.inRegion ops (i::rest)::k) cs s:=λT Z=>by
 simp only[gQ] at O
 obtain⟨fn,ac,am,hb,ap,he⟩:=he.h
 have aq:fn.norace=true:=by rw[ac] at Y;simpa using Y
 refine(A0 P _).stop (Kd ag rfl rfl ai (Lm K) (Lj K) (Lk K) λw m q av aw=>?_);let⟨o,ay,az⟩:=h m q ((w.os.mono+w.tick:Nat):Int) aw;refine⟨m,q,_,o,_,w.later,ay,?_,?_,rfl,az _ (Z.put O.2 _)⟩;rw[BV U,BV U,stepG_nanotime (a:=⟨T,ds⟩) al (Ck Z hw) (by simpa using O.1) rfl ac am hb ap he aq,Et];rw[Uo av];exact⟨rfl,rfl,⟨w.tick,rfl⟩,rfl⟩
end
variable {P:Program}{J:Judge P}{Q:GP}{n:Nat}{L L':Env}{ds:Ld_}{cs:Lf_}{s s':St}{b:Frame}
section
variable {k:Li_}
variable {x y:Operand}
theorem JL.canSpin{it:Int}(aq:s.q=false)(Z:ops[i]?=some ⟨d,.call ⟨.value (.func f),args,ats⟩,ty,pp,af,g⟩)(U:b.roundOf=none)(hw:AY L ops ⟨d,.call ⟨.value (.func f),args,ats⟩,ty,pp,af,g⟩=some true)(K:((b.kind != .early)&&Bo n d)=true)
  (he:Cf P f Extern.Sync.canSpin) (av:evs L args.toList=some [.int .i64 it])
  (aw:it<4->JL J Q b n (Ay L d (.bool true)) ds (.inRegion ops rest::k) cs s) (ac:JL J Q b n (Ay L d (.bool false)) ds (.inRegion ops rest::k) cs s):
  JL J Q b n L ds (.inRegion ops (i::rest)::k) cs s:=λT O=>by
 simp only[gQ] at K
 obtain⟨fn,ag,ai,hb,al,he⟩:=he.h
 have am:args.map (⟨T,ds⟩:Act).eval=#[.int .i64 it]:=by rw[KZ O av]
 by_cases ay:4<=it;refine Judge.Dv rfl (λw=>?_) (ac _ (O.put K.2 _));rw[BV U,BV U];have:=stepG_canSpin_no (rest:=rest) (main:=J.main) (kk:=k) (cs:=cs) (w:=w) (a:=⟨T,ds⟩) (P:=P) (b:=b) Z (Ck O hw) (by simpa using K.1) rfl ag ai hb al he am ay;rw[this,Et]
 .have ap:it<4:=by omega
  refine J.step ⟨rfl,λw Y=>⟨G (fr b (CV T d (.bool w.spins)) ds (.inRegion ops rest::k)) cs,s,w.asked,#[],?_,?_,⟨Y.e,Y.h,Y.d⟩,⟨no _,λ_ _ _=>rfl,λ_ h=>.inl h,λ_ _ h=>h,λ_ h=>.inl h,rfl,rfl,rfl⟩,by simp⟩,λe=>by subst e;cases aq⟩;rw[BV U,BV U];have:=stepG_canSpin_ask (rest:=rest) (main:=J.main) (kk:=k) (cs:=cs) (w:=w) (a:=⟨T,ds⟩) (P:=P) (b:=b) Z (Ck O hw) (by simpa using K.1) rfl ag ai hb al he am ap;rw[this,Et]
  .cases az:w.spins with
   | true=>exact aw ap _ (O.put K.2 _)
   | false=>exact ac _ (O.put K.2 _)
end
section
variable {P:Program}{F:Fam}
def Sd{HB:Type}(P:Program)(F:Fam)(s:St)(kk:Nat)(ph:HB->LP)(head:(Ph->GP)->HB->Prop)(ok:HB->Prop)(a:HB)(g:Goroutine):Prop:=
 ∀X Y:Ph->GP,NU P F X Y->De P F X->(∀p g s,Stop P F p g s->X p g s)->(∀K,ok K->head X K)->Y (.lk kk (ph a)) g s
theorem WS{HB:Type}{s:St}{kk:Nat}{ph:HB->LP}{head:(Ph->GP)->HB->Prop}{ok:HB->Prop}
  (h:∀Y:Ph->GP,De P F Y->(∀p g s,Stop P F p g s->Y p g s)->(∀a g,ok a->Sd P F s kk ph head ok a g->Y (.lk kk (ph a)) g s)->∀a,ok a->head Y a):∀a,ok a->head (Stop P F) a:=by
 have key:∀p g s',(s'=s/\∃a,ok a/\p=.lk kk (ph a)/\Sd P F s kk ph head ok a g)->Stop P F p g s':=λp g s' U=>by
  refine iL (R:=λp g s'=>s'=s/\∃a,ok a/\p=.lk kk (ph a)/\Sd P F s kk ph head ok a g) (λp g s' U=>?_) U;obtain⟨rfl,a,O,rfl,K⟩:=U;exact K _ _ Jy.to De.XC (λ_ _ _ h=>.inl (.of h)) (h _ De.XC (λ_ _ _ h=>.inl (.of h)) λa g O K=>.inr ⟨V,a,O,V,K⟩)
 exact h _ De.stop (λ_ _ _ h=>h) λa g O K=>key _ _ _ ⟨V,a,O,V,K⟩
theorem O0{n:Nat}{L:Env}{ds:Ld_}{k:Li_}{cs:Lf_}{s:St}{b:Frame}{Q K:GP}(O:∀g s,Q g s->K g s)(h:JL (A0 P false) Q b n L ds k cs s):JL (A0 P false) K b n L ds k cs s:=λT U=>Way.M O (h T U)
end
def BQ(m:M4):Nat:=m.l.toNat+2*m.k.toNat+4*m.s.toNat
def M4.nat(m:M4):Nat:=m.l.toNat+2*m.k.toNat+4*m.s.toNat+8*m.w
theorem Pz(m:M4):BQ m<8:=by
 have K:=rF m.l;have O:=rF m.k;have U:=rF m.s;unfold BQ;omega
theorem M4.nat_eq(m:M4):m.nat=8*m.w+BQ m:=by unfold M4.nat BQ;omega
theorem M4.RG(m:M4):m.nat/8=m.w:=by have:=Pz m;rw[M4.nat_eq];omega
theorem M4.RL(m:M4):m.nat%8=BQ m:=by have:=Pz m;rw[M4.nat_eq];omega
def Cy(m:M4):Prop:=m.w<200000000
theorem Cy.lt{m:M4}(h:Cy m):m.nat<2147483648:=by have:=Pz m;unfold Cy at h;rw[M4.nat_eq];omega
theorem Dk.Cy{m:M4}(h:Dk m):Cy m:=by unfold Dk at h;unfold Pal.Cy;omega
variable{a:Nat}
theorem dM{b:Nat}(hb:b<8):a&&& b=(a%8)&&& b:=by
 apply sP;intro i;rw[tv,tv];by_cases h:i<3;rw[show(8:Nat)=2^3 from rfl,Nat.testBit_mod_two_pow];simp[h];have:b.testBit i=false:=ri (qt hb (by rw[show(8:Nat)=2^3 from rfl];exact qj (by omega) (by omega)));rw[this];simp
theorem Wm{b:Nat}(hb:b<8):a|||b=8*(a/8)+((a%8)|||b):=by
 have K:a=(a/8)<<<3|||(a%8):=by
  rw[← sU (by omega),Nat.shiftLeft_eq];omega
 have O:(a%8)|||b<2^3:=sG (by omega) (by omega)
 calc a|||b=((a/8)<<<3|||(a%8))|||b:=by rw[← K]
  _=(a/8)<<<3|||((a%8)|||b):=Nat.or_assoc _ _ _
  _=(a/8)<<<3+((a%8)|||b):=(sU O _).symm
  _=8*(a/8)+((a%8)|||b):=by rw[Nat.shiftLeft_eq];omega
theorem FT(h:a<2147483648):IntKind.i32.wrap (a:Int)=a:=by
 simp only[IntKind.wrap,IntKind.bits,IntKind.signed];simp;omega
theorem Od(h:a<2147483648):(BitVec.ofInt IntKind.i32.bits (a:Int)).toNat=a:=by
 simp[IntKind.bits,s4];omega
theorem M4.KQ(m:M4):m.num=(m.nat:Int):=rfl
variable {ρ:Operand->Value}{e:TypeId}
variable{c:Nat}
section
variable {x y:Operand}{p:String}{m:M4}
abbrev C6(n:Nat):Value:=.int .i32 (n:Int)
theorem ET(hm:Cy m)(O:ρ x=.int .i32 m.num)(U:ρ y=.int .i32 (c:Int))(Y:c<8):Yl P ⟨d,.binOp .and t x y u,ty,p,af,g⟩ ρ s (C6 (BQ m&&& c)):=by
 have h:=Yl.and (P:=P) (s:=s) (d:=d) (t:=t) (u:=u) (ty:=ty) (p:=p) (af:=af) (g:=g) O U;have K:=hm.lt;rw[M4.KQ,r5,Od K,Od (by omega),FT (q4 tu K),dM Y,M4.RL] at h;exact h
theorem bP{m:M4}(hm:Cy m)(O:c<8)(U:BQ m|||c=BQ m')(K:m'.w=m.w):IntKind.i32.wrap ((BitVec.ofInt IntKind.i32.bits m.num|||BitVec.ofInt IntKind.i32.bits (c:Int)).toNat:Int)=m'.num:=by
 have Y:=hm.lt;have Z:m.nat|||c=m'.nat:=by rw[Wm O,M4.RG,M4.RL,U,M4.nat_eq m',K]
 have ac:m'.nat<2147483648:=by
  have:=Pz m';unfold Cy at hm;rw[M4.nat_eq,K];omega
 rw[M4.KQ,BitVec.toNat_or,Od Y,Od (by omega),Z,FT ac,M4.KQ]
theorem PT(hm:Cy m)(K:c<8)(O:BQ m|||c=BQ m')(U:m'.w=m.w)(Y:ρ x=.int .i32 m.num)(Z:ρ y=.int .i32 (c:Int)):Yl P ⟨d,.binOp .or t x y u,ty,p,af,g⟩ ρ s (.int .i32 m'.num):=by
 have h:=Yl.or (P:=P) (s:=s) (d:=d) (t:=t) (u:=u) (ty:=ty) (p:=p) (af:=af) (g:=g) Y Z;rw[bP hm K O U] at h;exact h
theorem js(m:M4):BQ m|||1=BQ {m with l:=true}:=by obtain⟨l,k,s,w⟩:=m;cases l<;>cases k<;>cases s<;>simp[BQ]
theorem Tg(m:M4):BQ m|||2=BQ {m with k:=true}:=by obtain⟨l,k,s,w⟩:=m;cases l<;>cases k<;>cases s<;>simp[BQ]
theorem jq(m:M4):BQ m|||4=BQ {m with s:=true}:=by obtain⟨l,k,s,w⟩:=m;cases l<;>cases k<;>cases s<;>simp[BQ]
theorem Yl.andNot{kd:IntKind}{a b:Int}(K:ρ x=.int kd a)(O:ρ y=.int kd b):Yl P ⟨d,.binOp .andNot t x y u,ty,p,af,g⟩ ρ s (.int kd (kd.wrap (BitVec.ofInt kd.bits a&&& ~~~ BitVec.ofInt kd.bits b).toNat)):=by
 simp[Yl,execOp,lp,pure,bind,Sem.bind,K,O,eqGuard,Go.binOp,Op.intBits]
theorem ju(i:Nat):(2:Nat).testBit i=decide (i=1):=by
 by_cases h:i<2;exact(by decide:∀j:Fin 2,(2:Nat).testBit j.1=decide (j.1=1)) ⟨i,h⟩;rw[ri (qt (show 2<2^2 by decide) (qj (by omega) (by omega)))];simp;omega
theorem jo(i:Nat):(4294967293:Nat).testBit i=(decide (i<32)&& !decide (i=1)):=by
 by_cases h:i<32;exact(by decide:∀j:Fin 32,(4294967293:Nat).testBit j.1=(decide (j.1<32)&& !decide (j.1=1))) ⟨i,h⟩;rw[ri (qt (show 4294967293<2^32 by decide) (qj (by omega) (by omega)))];simp[h]
theorem RR{m:M4}(hm:Cy m)(K:m.k=true):m.nat&&& 4294967293=({m with k:=false}:M4).nat:=by
 have U:m.nat=({m with k:=false}:M4).nat|||2:=by
  rw[Wm (by omega),M4.RG,M4.RL,M4.nat_eq m,Tg];obtain⟨l,k,s,w⟩:=m;simp only at K;subst K;rfl
 have Y:({m with k:=false}:M4).nat<2147483648:=(show Cy {m with k:=false} from hm).lt;have Z:({m with k:=false}:M4).nat.testBit 1=false:=by
  rw[Nat.testBit_succ,Nat.testBit_zero];have:({m with k:=false}:M4).nat/2%2=0:=by
   have:=rF m.l;simp only[M4.nat,pu];omega
  simp[this]
 rw[U];apply sP;intro i;rw[tv,Nat.testBit_or,ju,jo];by_cases h:i=1;subst h;rw[Z];rfl;by_cases O:i<32;simp[h,O];rw[ri (qt Y (by rw[show(2147483648:Nat)=2^31 from rfl];exact qj (by omega) (by omega)))];simp[O]
theorem Yl.RR(hm:Cy m)(K:m.k=true)(O:ρ x=.int .i32 m.num)(U:ρ y=.int .i32 2):Yl P ⟨d,.binOp .andNot t x y u,ty,p,af,g⟩ ρ s (.int .i32 ({m with k:=false}:M4).num):=by
 have h:=Yl.andNot (P:=P) (s:=s) (d:=d) (t:=t) (u:=u) (ty:=ty) (p:=p) (af:=af) (g:=g) O U;have Y:({m with k:=false}:M4).nat<2147483648:=(show Cy {m with k:=false} from hm).lt;rw[M4.KQ,r5,Od hm.lt,show(~~~ BitVec.ofInt IntKind.i32.bits 2).toNat=4294967293 from rfl,Pal.RR hm K,FT Y] at h;exact h
theorem Jt(hm:Cy m)(K:ρ x=.int .i32 m.num)(O:ρ y=.int .u64 3):Yl P ⟨d,.binOp .shr t x y u,ty,p,af,g⟩ ρ s (C6 m.w):=by
 have h:=Yl.shr (P:=P) (s:=s) (d:=d) (t:=t) (u:=u) (ty:=ty) (p:=p) (af:=af) (g:=g) K O (by decide);have e:m.num.fdiv (2^(min (3:Int).toNat IntKind.i32.bits))=(m.w:Int):=by
  rw[show(2:Int)^(min (3:Int).toNat IntKind.i32.bits)=8 from rfl,M4.KQ,rr _ (by decide)];have:=M4.RG m;omega
 rw[e] at h;exact h
theorem bL(hm:Dk m)(K:ρ x=.int .i32 m.num)(O:ρ y=.int .i32 8):Yl P ⟨d,.binOp .add t x y u,ty,p,af,g⟩ ρ s (.int .i32 ({m with w:=m.w+1}:M4).num):=by
 have h:=Yl.add (P:=P) (s:=s) (d:=d) (t:=t) (u:=u) (ty:=ty) (p:=p) (af:=af) (g:=g) K O;have e:m.num+8=((({m with w:=m.w+1}:M4).nat:Nat):Int):=by simp only[M4.KQ,M4.nat];omega
 rw[e,FT (show Cy {m with w:=m.w+1} by unfold Dk at hm;unfold Cy;simp only;omega).lt] at h;exact h
theorem dD(hm:Cy m)(hw:m.w≠0)(K:ρ x=.int .i32 m.num)(O:ρ y=.int .i32 8):Yl P ⟨d,.binOp .sub t x y u,ty,p,af,g⟩ ρ s (.int .i32 ({m with w:=m.w - 1}:M4).num):=by
 have h:=Yl.sub (P:=P) (s:=s) (d:=d) (t:=t) (u:=u) (ty:=ty) (p:=p) (af:=af) (g:=g) K O;have e:m.num - 8=((({m with w:=m.w - 1}:M4).nat:Nat):Int):=by simp only[M4.KQ,M4.nat];omega
 rw[e,FT (show Cy {m with w:=m.w - 1} by unfold Cy at*;simp only;omega).lt] at h;exact h
theorem cH(hm:Cy m)(K:m.l=false)(O:ρ x=.int .i32 m.num)(U:ρ y=.int .i32 1):Yl P ⟨d,.binOp .add t x y u,ty,p,af,g⟩ ρ s (.int .i32 ({m with l:=true}:M4).num):=by
 have h:=Yl.add (P:=P) (s:=s) (d:=d) (t:=t) (u:=u) (ty:=ty) (p:=p) (af:=af) (g:=g) O U;have e:m.num+1=((({m with l:=true}:M4).nat:Nat):Int):=by simp only[M4.KQ,M4.nat,K,pI,pu];omega
 rw[e,FT (show Cy {m with l:=true} from hm).lt] at h;exact h
end
theorem jb(m:M4):((BQ m&&& 5:Nat):Int)=1↔m.l=true/\m.s=false:=by obtain⟨l,k,s,w⟩:=m;cases l<;>cases k<;>cases s<;>simp[BQ]
theorem NT(m:M4):((BQ m&&& 5:Nat):Int)=0↔m.l=false/\m.s=false:=by obtain⟨l,k,s,w⟩:=m;cases l<;>cases k<;>cases s<;>simp[BQ]
theorem Io(m:M4):((BQ m&&& 4:Nat):Int)=0↔m.s=false:=by obtain⟨l,k,s,w⟩:=m;cases l<;>cases k<;>cases s<;>simp[BQ]
theorem SN(m:M4):((BQ m&&& 2:Nat):Int)=0↔m.k=false:=by obtain⟨l,k,s,w⟩:=m;cases l<;>cases k<;>cases s<;>simp[BQ]
theorem SH(m:M4):((BQ m&&& 1:Nat):Int)=0↔m.l=false:=by obtain⟨l,k,s,w⟩:=m;cases l<;>cases k<;>cases s<;>simp[BQ]
theorem Qp(m:M4):((BQ m&&& 3:Nat):Int)=0↔m.l=false/\m.k=false:=by obtain⟨l,k,s,w⟩:=m;cases l<;>cases k<;>cases s<;>simp[BQ]
theorem Xr(m:M4):((BQ m&&& 7:Nat):Int)=0↔m.l=false/\m.k=false/\m.s=false:=by obtain⟨l,k,s,w⟩:=m;cases l<;>cases k<;>cases s<;>simp[BQ]
end Pal
namespace Go.Proofs
abbrev Tryz.link:Go.Conc.Lib.WgLink:={add:=42,done:=44,wait:=49,relMerge:=69,disable:=70,enable:=71,inBubble:=72,associate:=73,fatal:=74,uOr:=75,uAdd:=76,raceRead:=77,uLoad:=78,uStore:=79,disassociate:=80,semrelease:=81,acquire:=86,isAssociated:=87,uCas:=88,raceWrite:=89,semacquire:=90,orU64:=100,addU64:=101,loadU64:=102,storeU64:=103,casU64:=111,tWgP:=135,tUP:=137,tAssoc:=138,tWg:=100,tAU:=98,tU64:=42,tUint:=88,tU32:=62,tPU32:=142,tPAU:=164,tPU64:=166,tNoCopy:=90,tANoCopy:=95,tAlign64:=96}
theorem Tryz.LG:Go.Conc.Lib.WgLib Tryz.prog Tryz.link:=
 ⟨Tryz.func42,Tryz.func44,Tryz.func49,Tryz.func69,Tryz.func70,Tryz.func71,Tryz.func72,Tryz.func73,Tryz.func74,Tryz.func75,Tryz.func76,Tryz.func77,Tryz.func78,Tryz.func79,Tryz.func80,Tryz.func81,Tryz.func86,Tryz.func87,Tryz.func88,Tryz.func89,Tryz.func90,Tryz.func100,Tryz.func101,Tryz.func102,Tryz.func103,Tryz.func111,Tryz.underlying135,Tryz.runUnderlying135,Tryz.sizeOf135,Tryz.isAgg135,Tryz.zeroValue135,Tryz.underlying137,Tryz.runUnderlying137,Tryz.sizeOf137,Tryz.isAgg137,Tryz.zeroValue137,Tryz.underlying138,Tryz.runUnderlying138,Tryz.sizeOf138,Tryz.isAgg138,Tryz.zeroValue138,Tryz.underlying100,Tryz.runUnderlying100,Tryz.sizeOf100,Tryz.isAgg100,Tryz.zeroValue100,Tryz.underlying98,Tryz.runUnderlying98,Tryz.sizeOf98,Tryz.isAgg98,Tryz.zeroValue98,Tryz.underlying42,Tryz.runUnderlying42,Tryz.sizeOf42,Tryz.isAgg42,Tryz.zeroValue42,Tryz.underlying88,Tryz.runUnderlying88,Tryz.sizeOf88,Tryz.isAgg88,Tryz.zeroValue88,Tryz.underlying62,Tryz.runUnderlying62,Tryz.sizeOf62,Tryz.isAgg62,Tryz.zeroValue62,Tryz.underlying142,Tryz.runUnderlying142,Tryz.sizeOf142,Tryz.isAgg142,Tryz.zeroValue142,Tryz.underlying164,Tryz.runUnderlying164,Tryz.sizeOf164,Tryz.isAgg164,Tryz.zeroValue164,Tryz.underlying166,Tryz.runUnderlying166,Tryz.sizeOf166,Tryz.isAgg166,Tryz.zeroValue166,Tryz.underlying0,Tryz.runUnderlying0,Tryz.sizeOf0,Tryz.isAgg0,Tryz.zeroValue0,Tryz.underlying3,Tryz.runUnderlying3,Tryz.sizeOf3,Tryz.isAgg3,Tryz.zeroValue3,Tryz.underlying4,Tryz.runUnderlying4,Tryz.sizeOf4,Tryz.isAgg4,Tryz.zeroValue4,Tryz.underlying9,Tryz.runUnderlying9,Tryz.sizeOf9,Tryz.isAgg9,Tryz.zeroValue9,Tryz.underlying20,Tryz.runUnderlying20,Tryz.sizeOf20,Tryz.isAgg20,Tryz.zeroValue20,Tryz.underlying21,Tryz.runUnderlying21,Tryz.sizeOf21,Tryz.isAgg21,Tryz.zeroValue21,(by decide+kernel),(by decide+kernel)⟩
end Go.Proofs
namespace Pal
open Go Go.Conc Go.Conc.Lib Go.Proofs Go.ConcR.Gen
theorem Xm:Cf Tryz.prog 70 (λ_=>do mark .disable;pure Extern.Race.none_):=OF Tryz.LG
theorem Qx:Cf Tryz.prog 71 (λ_=>do mark .enable;pure Extern.Race.none_):=J5 Tryz.LG
theorem Xl:Cf Tryz.prog 86 (Extern.Race.marked .acquire):=QW Tryz.LG
theorem je:Cf Tryz.prog 69 (Extern.Race.marked .releaseMerge):=TB Tryz.LG
theorem Qa:Cf Tryz.prog 107 (Extern.Atomic.casT (.int .i32)):=⟨⟨_,Tryz.func107,by decide+kernel,V,by kernel_rfl,by kernel_rfl⟩⟩
theorem HR:Cf Tryz.prog 109 (Extern.Atomic.update (Op.intArith .add) .i32 true):=⟨⟨_,Tryz.func109,by decide+kernel,V,by kernel_rfl,by kernel_rfl⟩⟩
theorem eQ:Cf Tryz.prog 118 Extern.Sync.canSpin:=⟨⟨_,Tryz.func118,by decide+kernel,V,by kernel_rfl,by kernel_rfl⟩⟩
theorem Nw:Cf Tryz.prog 119 (λ_=>pure Extern.Sync.none_):=⟨⟨_,Tryz.func119,by decide+kernel,V,by kernel_rfl,by kernel_rfl⟩⟩
theorem Sm:Cf Tryz.prog 121 Extern.OsHooks.nano:=⟨⟨_,Tryz.func121,by decide+kernel,V,by kernel_rfl,by kernel_rfl⟩⟩
theorem Wz:Cf Tryz.prog 122 Extern.Sync.semacquire:=⟨⟨_,Tryz.func122,by decide+kernel,V,by kernel_rfl,by kernel_rfl⟩⟩
theorem W5:Cf Tryz.prog 124 Extern.Sync.semrelease:=⟨⟨_,Tryz.func124,by decide+kernel,V,by kernel_rfl,by kernel_rfl⟩⟩
def mN(sv aw:Bool)(m:M4):M4:=⟨m.l || !m.s,!aw&&m.k,m.s || (sv&&m.l),if m.l=true∨m.s=true then m.w+1 else m.w⟩
variable{F:Fam}{Q:GP}{b:Frame}{i n:Nat}{L:Env}{ds:Ld_}{k:Li_}{cs:Lf_}{s:St}{ops:Ao_}{rest:List Nat}{d:Option Tmp}{x:Operand}{ty:TypeId}{af:Ae_}{g:On_}
theorem JL.uA{J:Judge Tryz.prog}{p:String}(K:Fw b n L ops i=some ⟨d,.fieldAddr 92 x 0,ty,p,af,g⟩)(O:ev L x=some (.pointer (some F.uA)))(h:JL J Q b n (Ay L d (.pointer (some F.uA))) ds (.inRegion ops rest::k) cs s):JL J Q b n L ds (.inRegion ops (i::rest)::k) cs s:=Al K (λρ h=>Kh (a:=F.uA) 0 0 Tryz.underlying92 (A2 Tryz.type21) V V V (h _ _ O)) h
variable{P:Program}
theorem gw{J:Judge P}{c:Code}(h:∀K,K=k->JL J Q b n L ds (.code c::K) cs s):JL J Q b n L ds (.code c::k) cs s:=h _ V
theorem Xj{J:Judge P}(h:∀K,K=k->JL J Q b n L ds K cs s):JL J Q b n L ds k cs s:=h _ V
theorem IX:(Tryz.prog.funcs[108]?).any (·.norace)=true:=by rw[Tryz.func108];rfl
theorem iC:(Tryz.prog.funcs[85]?).any (·.norace)=true:=by rw[Tryz.func85];rfl
theorem il:(Tryz.prog.funcs[110]?).any (·.norace)=true:=by rw[Tryz.func110];rfl
theorem SE:(Tryz.prog.funcs[121]?).any (·.norace)=true:=by rw[Tryz.func121];rfl
theorem RP:(Tryz.prog.info? 92).map (λi=>decide (i.size=0))=some false:=(pB (Option.map (λi=>decide (i.size=0))) Tryz.type92).trans V
abbrev HB:=Bool×Bool×Nat×M4×Int
def Xd(a:HB):Prop:=(a.2.1=true->a.2.2.2.1.k=true)/\a.2.2.1<=4/\Dk a.2.2.2.1
def SW(a:HB):LP:=.Cw a.1 a.2.1 a.2.2.1 a.2.2.2.1
variable{aw sv:Bool}{it q:Nat}{old:M4}
theorem bY(h:old.l=false/\old.s=false):(mN sv aw old,q,#[Fam.Cn F.uA,Fam.EN F.uA],some LP.len)∈F.B9 (.Cw sv aw it old) old q:=by
 obtain⟨l,k,s,w⟩:=old;obtain⟨K,O⟩:=h;simp only at K O;subst K O;simp[Fam.B9,Fam.FX,mN]
theorem UM(h:¬(old.l=false/\old.s=false))(x:LP)(K:x=.IZ sv∨x=.CI sv):(mN sv aw old,q,#[Fam.Cn F.uA,Fam.EN F.uA],some x)∈F.B9 (.Cw sv aw it old) old q:=by
 obtain⟨l,k,s,w⟩:=old;show _∈F.FX _ _ _ _ _ _;unfold Fam.FX;rw[pg];right;rw[eS rfl,d9 h];cases l<;>cases s<;>simp[mN] at h ⊢<;>rcases K with rfl | rfl<;>simp
variable{m:M4}
theorem aK(h:m≠old):(m,q,#[Fam.Cn F.uA],some (LP.EC sv aw it))∈F.B9 (.Cw sv aw it old) m q:=by
 show _∈F.FX _ _ _ _ _ _;unfold Fam.FX;rw[pg];right;rw[d9 h];exact d7.2 V
theorem dA(K:old.l=true/\old.s=false)(O:it<4)(U:old.k=false)(Y:old.w≠0):(({old with k:=true}:M4),q,#[Fam.Cn F.uA,Fam.EN F.uA],some (LP.EC sv true (it+1)))∈F.B9 (.Cw sv false it old) old q:=by
 show _∈F.FX _ _ _ _ _ _;unfold Fam.FX;rw[pg];left;rw[eS ⟨K.1,K.2,O⟩,eS ⟨rfl,U,Y⟩,eS rfl];exact d7.2 V
theorem dO(K:old.l=true/\old.s=false)(O:it<4)(U:old.k=false)(Y:old.w≠0)(hm:m≠old):(m,q,#[Fam.Cn F.uA],some (LP.EC sv false (it+1)))∈F.B9 (.Cw sv false it old) m q:=by
 show _∈F.FX _ _ _ _ _ _;unfold Fam.FX;rw[pg];left;rw[eS ⟨K.1,K.2,O⟩,eS ⟨rfl,U,Y⟩,d9 hm];exact d7.2 V
theorem RZ(K:old.l=true/\old.s=false)(O:it<4)(U:¬(aw=false/\old.k=false/\old.w≠0)):(m,q,#[],some (LP.Cw sv aw (it+1) m))∈F.B9 (.Cw sv aw it old) m q:=by
 show _∈F.FX _ _ _ _ _ _;unfold Fam.FX;rw[pg];left;rw[eS ⟨K.1,K.2,O⟩,d9 U];exact d7.2 V
theorem Hx(m:M4)(h:m.s=true):m={m with l:=m.l || !m.s}:=by
 obtain⟨l,k,s,w⟩:=m;simp only at h;subst h;simp
variable{ats:Array TypeId}{pp:String}{kk:Nat}
set_option maxHeartbeats 4000000 in
theorem YZ(ac:s.q=false)(c6:ops[i]?=some ⟨d,.call ⟨.value (.func 108),#[x],ats⟩,ty,pp,af,g⟩)(hw:AY L ops ⟨d,.call ⟨.value (.func 108),#[x],ats⟩,ty,pp,af,g⟩=some true)(c7:((b.kind != .early)&&Bo n d)=true)(c8:ev L x=some (.pointer (some F.uA)))
  (h:JL (A0 Tryz.prog false) (Stop Tryz.prog F (.lk kk .F0)) b n (Ay L d (.tuple #[])) ds (.inRegion ops rest::k) cs s):
  JL (A0 Tryz.prog false) (Stop Tryz.prog F (.lk kk (.EC false false 0))) b n L ds (.inRegion ops (i::rest)::k) cs s:=by
 refine HJ (vs:=[.pointer (some F.uA)]) c6 hw c7 Tryz.func108 (by decide+kernel) V (by simp[evs,c8]) (pt V) λb5 back=>C 20 V (JL.uA V V ?_);refine HK (kk:=kk) (p:=.EC false false 0) De.stop ac V V V V V HG IX V λb6 ek b0=>⟨some (.Cw false false 0 b6),d7.2 V,?_⟩;refine C 3 V (gw λc9 dd=>?_);have a0:∀X:Ph->GP,De Tryz.prog F X->(∀p g s,Stop Tryz.prog F p g s->X p g s)->∀L',look L' 0=some (.pointer (some F.uA))->JL (A0 Tryz.prog false) (X (.lk kk .len)) (base 108) Tryz.f108.ntmps L' [] c9 (b5::cs) s:=by
  intro X O av L' dj;rw[dd];refine Fz (L':=[(0,.pointer (some F.uA))]) ⟨dj,trivial⟩ (C 3 V ?_);refine MC (kk:=kk) (p:=.len) O ac V (λ_ _=>V) V V V V (by simp) Qx (C 3 V ?_);refine Rh (kk:=kk) (p:=.Mf) O ac V (λ_ _=>V) V V V V Tryz.underlying176 Tryz.underlying137 RP V (RE (kk:=kk) (p:=.K1) (ad:=F.uA) O ac V (λ_ _=>V) V V V V (by simp) Xl V V ?_);refine JL.done (JL.fin V V (BO.none Tryz.func108 V) (back _ _ _ _ ?_));exact O0 (λg s=>av _ g s) h
 refine JL.block (Jo ?_);refine EV [(0,.pointer (some F.uA)),(2,iV 0),(3,.bool false),(4,.bool false),(5,iV ((0:Nat):Int)),(6,.int .i32 (b6:M4).num)] V (Xj λca a5=>?_);refine WS (P:=Tryz.prog) (F:=F) (s:=s) (kk:=kk) (ph:=SW) (ok:=Xd) (head:=λ(X:Ph->GP) (a:HB)=>JL (A0 Tryz.prog false) (X (.lk kk (SW a))) (base 108) Tryz.f108.ntmps ([(0,.pointer (some F.uA)),(2,iV a.2.2.2.2),(3,.bool a.1),(4,.bool a.2.1),(5,iV (a.2.2.1:Int)),(6,.int .i32 (a.2.2.2.1:M4).num)]) [] ca (b5::cs) s) ?_ (false,false,0,b6,0) ⟨(λe=>by cases e),qc _,b0.2.2.1⟩;intro Y b1 el hC;have key:∀N (a:HB),4 - a.2.2.1<N->Xd a->(λ(X:Ph->GP) (a:HB)=>JL (A0 Tryz.prog false) (X (.lk kk (SW a))) (base 108) Tryz.f108.ntmps ([(0,.pointer (some F.uA)),(2,iV a.2.2.2.2),(3,.bool a.1),(4,.bool a.2.1),(5,iV (a.2.2.1:Int)),(6,.int .i32 (a.2.2.2.1:M4).num)]) [] ca (b5::cs) s) Y a:=by
  intro N
  induction N with
  | zero=>intro a ci;omega
  | succ N b2=>
   rintro⟨sv,aw,it,old,wt⟩ ea b0;simp only at ea;have eb:aw=true->old.k=true:=b0.1;have cc:Dk old:=b0.2.2;have a1:Cy old:=cc.Cy;show JL (A0 Tryz.prog false) (Y (.lk kk (.Cw sv aw it old))) (base 108) Tryz.f108.ntmps [(0,.pointer (some F.uA)),(2,iV wt),(3,.bool sv),(4,.bool aw),(5,iV (it:Int)),(6,.int .i32 (old:M4).num)] [] ca (b5::cs) s;rw[a5];refine C 2 V (BF (λL s'=>s=s'/\L=[(0,.pointer (some F.uA)),(2,iV wt),(3,.bool sv),(4,.bool aw),(5,iV (it:Int)),(6,.int .i32 (old:M4).num)]) ?_ ?_)
   rotate_left
   .intro ay;refine C 3 V (Al (v:=C6 (BQ old&&& 5)) V (λρ h=>ET (c:=5) a1 (h _ _ V) (h _ _ V) (by decide)) ?_);refine C 2 V (Nt (q:=((BQ old&&& 5:Nat):Int)=1) (i:=17) V (λco=>?_) (λco=>?_))
    .refine Al (v:=iV (it:Int)) V (λρ h=>Yl.move (h _ _ V)) (JL.canSpin (it:=(it:Int)) ac V V V V eQ V (λG0=>?_) ?_)
     .refine Al (v:=.bool true) V (λρ h=>Ns (h _ _ V) (h _ _ V)) ?_;have a2:=(jb old).1 co;refine C 5 V ?_;have b3:it<4:=by omega
      refine C 1 V (Al (v:=.bool (!aw)) V (λρ h=>Yl.not (h _ _ V)) ?_);refine C 1 V (Ln (c:= !aw) (i:=23) V (λc1=>?_) (λc1=>?_))
      .refine Al (v:=.int .i32 (old:M4).num) V (λρ h=>Yl.move (h _ _ V)) (Al (v:=C6 (BQ old&&& 2)) V (λρ h=>ET (c:=2) a1 (h _ _ V) (h _ _ V) (by decide)) ?_);refine C 3 V (Nt (q:=((BQ old&&& 2:Nat):Int)=0) (i:=28) V (λc2=>?_) (λc2=>?_))
       .refine Al (v:=.int .i32 (old:M4).num) V (λρ h=>Yl.move (h _ _ V)) (Al (v:=C6 old.w) V (λρ h=>Jt a1 (h _ _ V) (h _ _ V)) ?_);refine C 3 V (Nt (q:=(old.w:Int)≠0) (i:=33) V (λc3=>?_) (λc3=>?_))
        .have ec:aw=false:=by simpa using c1
         subst ec;have cp:=(SN old).1 c2;have ct:old.w≠0:=by omega
         refine C 2 V (JL.uA V V ?_);refine C 2 V (Al (v:=.int .i32 ({old with k:=true}:M4).num) V (λρ h=>PT (c:=2) a1 (by decide) (Tg old) V (h _ _ V) (h _ _ V)) ?_);refine U8 (kk:=kk) (p:=.Cw sv false it old) (old:=old) (nw:={old with k:=true}) b1 ac V V V V V Qa V V V (λq a3=>⟨some (.EC sv true (it+1)),dA a2 b3 cp ct,?_⟩) (λm q hm a3=>⟨some (.EC sv false (it+1)),dO a2 b3 cp ct hm,?_⟩);refine Al (v:=.bool true) V (λρ h=>Ns (h _ _ V) (h _ _ V)) (C 7 V ?_);refine JL.ext (v:=.tuple #[]) V V V Nw V V (C 4 V ?_);refine Al (v:=iV ((it+1:Nat):Int)) V (λρ h=>DO (h _ _ V) (h _ _ V) (by unfold Au;rw[eS (by omega)];congr 1)) (C 6 V ?_);refine JL.uA V V (HK (kk:=kk) (p:=.EC sv true (it+1)) b1 ac V V V V V HG IX V λa6 cw bo=>⟨some (.Cw sv true (it+1) a6),d7.2 V,?_⟩);refine C 3 V (JL.again ?_);rw[← a5];exact EV [(0,.pointer (some F.uA)),(2,iV wt),(3,.bool sv),(4,.bool true),(5,iV ((it+1:Nat):Int)),(6,.int .i32 (a6:M4).num)] V (b2 (sv,true,it+1,a6,wt) (by show 4 - (it+1)<N;omega) ⟨bo.2.2.2,(by show it+1<=4;omega),bo.2.2.1⟩);refine Al (v:=.bool false) V (λρ h=>Ns (h _ _ V) (h _ _ V)) (C 5 V ?_);refine JL.ext (v:=.tuple #[]) V V V Nw V V (C 4 V ?_);refine Al (v:=iV ((it+1:Nat):Int)) V (λρ h=>DO (h _ _ V) (h _ _ V) (by unfold Au;rw[eS (by omega)];congr 1)) (C 6 V ?_);refine JL.uA V V (HK (kk:=kk) (p:=.EC sv false (it+1)) b1 ac V V V V V HG IX V λa6 cw bo=>⟨some (.Cw sv false (it+1) a6),d7.2 V,?_⟩);refine C 3 V (JL.again ?_);rw[← a5];exact EV [(0,.pointer (some F.uA)),(2,iV wt),(3,.bool sv),(4,.bool false),(5,iV ((it+1:Nat):Int)),(6,.int .i32 (a6:M4).num)] V (b2 (sv,false,it+1,a6,wt) (by show 4 - (it+1)<N;omega) ⟨bo.2.2.2,(by show it+1<=4;omega),bo.2.2.1⟩)
        .refine I1 V V V (C 12 V ?_);refine JL.ext (v:=.tuple #[]) V V V Nw V V (C 4 V ?_);refine Al (v:=iV ((it+1:Nat):Int)) V (λρ h=>DO (h _ _ V) (h _ _ V) (by unfold Au;rw[eS (by omega)];congr 1)) (C 6 V ?_);refine JL.uA V V (HK (kk:=kk) (p:=.Cw sv aw it old) b1 ac V V V V V HG IX V λm q a3=>⟨some (.Cw sv aw (it+1) m),RZ a2 b3 (λe=>c3 (by omega)),?_⟩);refine C 3 V (JL.again ?_);rw[← a5];exact EV [(0,.pointer (some F.uA)),(2,iV wt),(3,.bool sv),(4,.bool aw),(5,iV ((it+1:Nat):Int)),(6,.int .i32 (m:M4).num)] V (b2 (sv,aw,it+1,m,wt) (by show 4 - (it+1)<N;omega) ⟨a3.2.2.2.2.2,(by show it+1<=4;omega),a3.2.2.2.2.1⟩)
       .refine I1 V V V (C 17 V ?_);refine JL.ext (v:=.tuple #[]) V V V Nw V V (C 4 V ?_);refine Al (v:=iV ((it+1:Nat):Int)) V (λρ h=>DO (h _ _ V) (h _ _ V) (by unfold Au;rw[eS (by omega)];congr 1)) (C 6 V ?_);refine JL.uA V V (HK (kk:=kk) (p:=.Cw sv aw it old) b1 ac V V V V V HG IX V λm q a3=>⟨some (.Cw sv aw (it+1) m),RZ a2 b3 (λe=>c2 ((SN old).2 e.2.1)),?_⟩);refine C 3 V (JL.again ?_);rw[← a5];exact EV [(0,.pointer (some F.uA)),(2,iV wt),(3,.bool sv),(4,.bool aw),(5,iV ((it+1:Nat):Int)),(6,.int .i32 (m:M4).num)] V (b2 (sv,aw,it+1,m,wt) (by show 4 - (it+1)<N;omega) ⟨a3.2.2.2.2.2,(by show it+1<=4;omega),a3.2.2.2.2.1⟩)
      .refine I1 V V V (C 22 V ?_);refine JL.ext (v:=.tuple #[]) V V V Nw V V (C 4 V ?_);refine Al (v:=iV ((it+1:Nat):Int)) V (λρ h=>DO (h _ _ V) (h _ _ V) (by unfold Au;rw[eS (by omega)];congr 1)) (C 6 V ?_);refine JL.uA V V (HK (kk:=kk) (p:=.Cw sv aw it old) b1 ac V V V V V HG IX V λm q a3=>⟨some (.Cw sv aw (it+1) m),RZ a2 b3 (λe=>by rw[e.1] at c1;cases c1),?_⟩);refine C 3 V (JL.again ?_);rw[← a5];exact EV [(0,.pointer (some F.uA)),(2,iV wt),(3,.bool sv),(4,.bool aw),(5,iV ((it+1:Nat):Int)),(6,.int .i32 (m:M4).num)] V (b2 (sv,aw,it+1,m,wt) (by show 4 - (it+1)<N;omega) ⟨a3.2.2.2.2.2,(by show it+1<=4;omega),a3.2.2.2.2.1⟩)
     .refine Al (v:=.bool false) V (λρ h=>Ns (h _ _ V) (h _ _ V)) (C 3 V ?_);exact AF (ay _ _ ⟨V,V⟩) V
    .refine I1 V V V (C 5 V ?_);exact AF (ay _ _ ⟨V,V⟩) V
   rintro _ _ ⟨rfl,rfl⟩;refine C 6 V (BF (λL s'=>s=s'/\L=[(0,.pointer (some F.uA)),(2,iV wt),(3,.bool sv),(4,.bool aw),(5,iV (it:Int)),(6,.int .i32 (old:M4).num),(7,.int .i32 ({old with l:=old.l || !old.s}:M4).num)]) ?_ ?_)
   rotate_left
   .intro ay;refine C 3 V (Al (v:=C6 (BQ old&&& 4)) V (λρ h=>ET (c:=4) a1 (h _ _ V) (h _ _ V) (by decide)) ?_);refine C 2 V (GN (p:=((BQ old&&& 4:Nat):Int)=0) V (λc=>?_) (λc=>?_));refine JL.region (C 1 V ?_);refine Al (v:=.int .i32 ({old with l:=true}:M4).num) V (λρ h=>PT (c:=1) a1 (by decide) (js old) V (h _ _ V) (h _ _ V)) (C 2 V ?_);refine Fz ?_ (ay _ _ ⟨V,V⟩);exact⟨V,V,V,V,V,V,pB (λm:M4=>some (Value.int .i32 m.num)) (by rw[(Io old).1 c];simp),trivial⟩;refine JL.skip (Fz ?_ (ay _ _ ⟨V,V⟩));exact⟨V,V,V,V,V,V,pB (λm:M4=>some (Value.int .i32 m.num)) ((sC old.s).elim (Hx old) (λhh=>absurd ((Io old).2 hh) c)),trivial⟩
   rintro _ _ ⟨rfl,rfl⟩;have em:Cy {old with l:=old.l || !old.s}:=a1;refine JL.seq (BF (λL s'=>s=s'/\L=[(0,.pointer (some F.uA)),(2,iV wt),(3,.bool sv),(4,.bool aw),(5,iV (it:Int)),(6,.int .i32 (old:M4).num),(7,.int .i32 ({old with l:=old.l || !old.s,w:=if old.l=true∨old.s=true then old.w+1 else old.w}:M4).num)]) ?_ ?_)
   rotate_left
   .intro ay;refine C 3 V (Al (v:=C6 (BQ old&&& 5)) V (λρ h=>ET (c:=5) a1 (h _ _ V) (h _ _ V) (by decide)) ?_);refine C 2 V (GN (p:=((BQ old&&& 5:Nat):Int)≠0) V (λc=>?_) (λc=>?_));refine JL.region (C 1 V ?_);refine Al (v:=.int .i32 ({old with l:=old.l || !old.s,w:=old.w+1}:M4).num) V (λρ h=>bL (m:={old with l:=old.l || !old.s}) cc (h _ _ V) (h _ _ V)) (C 2 V ?_);refine Fz ?_ (ay _ _ ⟨V,V⟩);exact⟨V,V,V,V,V,V,pB (λm:M4=>some (Value.int .i32 m.num)) (by rw[eS (by have:=λe=>c ((NT old).2 e);cases eo:old.l<;>cases ep:old.s<;>simp_all)]),trivial⟩;refine JL.skip (Fz ?_ (ay _ _ ⟨V,V⟩));exact⟨V,V,V,V,V,V,pB (λm:M4=>some (Value.int .i32 m.num)) (by rw[d9 (by have:=(NT old).1 (qY.1 c);rw[this.1,this.2];simp)]),trivial⟩
   rintro _ _ ⟨rfl,rfl⟩;have cy:Cy ({old with l:=old.l || !old.s,w:=if old.l=true∨old.s=true then old.w+1 else old.w}:M4):=by unfold Dk at cc;unfold Cy;simp only;split<;>omega
   refine JL.seq (BF (λL s'=>s=s'/\L=[(0,.pointer (some F.uA)),(2,iV wt),(3,.bool sv),(4,.bool aw),(5,iV (it:Int)),(6,.int .i32 (old:M4).num),(7,.int .i32 ({old with l:=old.l || !old.s,s:=old.s || (sv&&old.l),w:=if old.l=true∨old.s=true then old.w+1 else old.w}:M4).num)]) ?_ ?_)
   rotate_left
   .intro ay;refine C 4 V (Ln (c:=sv) (i:=61) V (λc1=>?_) (λc1=>?_))
    .refine Al (v:=.int .i32 (old:M4).num) V (λρ h=>Yl.move (h _ _ V)) (Al (v:=C6 (BQ old&&& 1)) V (λρ h=>ET (c:=1) a1 (h _ _ V) (h _ _ V) (by decide)) ?_);refine C 3 V (GN (p:=((BQ old&&& 1:Nat):Int)≠0) V (λc=>?_) (λc=>?_))
     .refine JL.region (C 1 V ?_);refine Al (v:=.int .i32 ({old with s:=true,l:=old.l || !old.s,w:=if old.l=true∨old.s=true then old.w+1 else old.w}:M4).num) V (λρ h=>PT (c:=4) (m:={old with l:=old.l || !old.s,w:=if old.l=true∨old.s=true then old.w+1 else old.w}) cy (by decide) (jq _) V (h _ _ V) (h _ _ V)) ?_
      refine C 2 V (Fz ?_ (ay _ _ ⟨V,V⟩));exact⟨V,V,V,V,V,V,pB (λm:M4=>some (Value.int .i32 m.num)) (by rcases sC old.l with hh | hh<;>first | exact absurd ((SH old).2 hh) c | (rw[c1,hh];simp)),trivial⟩
     .refine JL.skip (Fz ?_ (ay _ _ ⟨V,V⟩));exact⟨V,V,V,V,V,V,pB (λm:M4=>some (Value.int .i32 m.num)) (by have:=(SH old).1 (qY.1 c);rw[this];simp),trivial⟩
    .refine I1 V V V (C 6 V ?_);refine Fz ?_ (ay _ _ ⟨V,V⟩);exact⟨V,V,V,V,V,V,pB (λm:M4=>some (Value.int .i32 m.num)) (by rw[c1];simp),trivial⟩
   rintro _ _ ⟨rfl,rfl⟩;have c0:Cy ({old with l:=old.l || !old.s,s:=old.s || (sv&&old.l),w:=if old.l=true∨old.s=true then old.w+1 else old.w}:M4):=cy
   refine JL.seq (BF (λL s'=>s=s'/\L=[(0,.pointer (some F.uA)),(2,iV wt),(3,.bool sv),(4,.bool aw),(5,iV (it:Int)),(6,.int .i32 (old:M4).num),(7,.int .i32 (mN sv aw old:M4).num)]) ?_ ?_)
   rotate_left
   .intro ay;refine C 4 V (Ry (t:=aw) V (λc=>?_) (λc=>?_))
    .have c4:old.k=true:=eb c;refine C 4 V ?_;refine Al (v:=C6 (BQ ({old with l:=old.l || !old.s,s:=old.s || (sv&&old.l),w:=if old.l=true∨old.s=true then old.w+1 else old.w}:M4)&&& 2)) V (λρ h=>ET (c:=2) (m:={old with l:=old.l || !old.s,s:=old.s || (sv&&old.l),w:=if old.l=true∨old.s=true then old.w+1 else old.w}) c0 (h _ _ V) (h _ _ V) (by decide)) ?_
     refine Al (v:=.bool false) V (λρ h=>Yl.to (Yl.eql (h _ _ V) (h _ _ V)) (by rw[p5 (λe=>by have q:=(SN _).1 e;simp only at q;rw[c4] at q;cases q)])) (C 5 V ?_);refine Al (v:=.int .i32 ({old with k:=false,l:=old.l || !old.s,s:=old.s || (sv&&old.l),w:=if old.l=true∨old.s=true then old.w+1 else old.w}:M4).num) V (λρ h=>Yl.RR (m:={old with l:=old.l || !old.s,s:=old.s || (sv&&old.l),w:=if old.l=true∨old.s=true then old.w+1 else old.w}) c0 c4 (h _ _ V) (h _ _ V)) ?_
     refine C 2 V (Fz ?_ (ay _ _ ⟨V,V⟩));exact⟨V,V,V,V,V,V,pB (λm:M4=>some (Value.int .i32 m.num)) (by simp[mN,c]),trivial⟩
    .refine JL.skip (Fz ?_ (ay _ _ ⟨V,V⟩));exact⟨V,V,V,V,V,V,pB (λm:M4=>some (Value.int .i32 m.num)) (by simp[mN,c]),trivial⟩
   rintro _ _ ⟨rfl,rfl⟩;refine C 4 V (JL.uA V V ?_);refine C 2 V (λT ed=>(A0 Tryz.prog false).stop (hC (sv,aw,it,old,wt) _ b0 λX er ee O av b4=>?_));refine Rw (kk:=kk) (p:=.Cw sv aw it old) (old:=old) (nw:=mN sv aw old) ee ac V V V V V Qa V V V (λq a3=>?_) (λm q hm a3=>⟨some (.EC sv aw it),aK hm,?_⟩) T ed
   .by_cases a2:old.l=false/\old.s=false;refine⟨some .len,bY a2,?_⟩;refine C 6 V (Al (v:=C6 (BQ old&&& 5)) V (λρ h=>ET (c:=5) a1 (h _ _ V) (h _ _ V) (by decide)) ?_);refine Al (v:=.bool true) V (λρ h=>Yl.to (Yl.eql (h _ _ V) (h _ _ V)) (by rw[qf ((NT old).2 a2)])) (C 3 V ?_);exact a0 X O av _ V
    .by_cases c5:wt=0
     .refine⟨some ((.IZ sv)),UM a2 _ (.inl V),?_⟩;refine C 6 V (Al (v:=C6 (BQ old&&& 5)) V (λρ h=>ET (c:=5) a1 (h _ _ V) (h _ _ V) (by decide)) ?_);refine Al (v:=.bool false) V (λρ h=>Yl.to (Yl.eql (h _ _ V) (h _ _ V)) (by rw[p5 (λe=>a2 ((NT old).1 e))])) ?_;refine C 13 V (Al (v:=.bool true) V (λρ h=>Yl.to (Yl.eql (h _ _ V) (h _ _ V)) (by rw[qf c5])) ?_);refine C 3 V (Rg (kk:=kk) (p:=.IZ sv) O ac V V V V V Sm SE λm a4 v ai=>⟨some (.CI sv),d7.2 V,?_⟩);refine C 6 V (Al (v:=.pointer (some F.qA)) V (λρ h=>Kh (a:=F.uA) 0 1 Tryz.underlying92 OC V V V (h _ _ V)) ?_);refine C 1 V (T9 (kk:=kk) (sv:=sv) O ac V V V V Wz V V ?_);refine JL.done ?_;cases sv
      .rw [d9 (by decide)];refine C 4 V (Rg (kk:=kk) (p:=.Gs) O ac V V V V V Sm SE λef eg v2 ej=>⟨some (.EW (decide (IntKind.i64.wrap (v2 - v)>1000000))),by (cases decide (IntKind.i64.wrap (v2 - v)>1000000)<;>simp[Fam.B9]),?_⟩);refine C 1 V (Al (v:=.int .i64 (IntKind.i64.wrap (v2 - v))) V (λρ h=>Yl.sub (h _ _ V) (h _ _ V)) ?_);refine C 4 V ?_;generalize decide (IntKind.i64.wrap (v2 - v)>1000000)=aq;refine C 4 V (JL.uA V V ?_);refine HK (kk:=kk) (p:=.EW aq) O ac V V V V V HG IX V ?_;intro m ce az;have a7:Dk m:=az.2.2;have al:Cy m:=a7.Cy;by_cases ag:m.s=true
       .refine⟨some (.EA (!aq || m.w==1)),by simp[Fam.B9,ag],?_⟩;refine C 2 V ?_;let⟨bv,bw,bx⟩:=az.1 ag;refine C 4 V (Al (v:=C6 (BQ m&&& 4)) V (λρ h=>ET (c:=4) al (h _ _ V) (h _ _ V) (by decide)) ?_);refine Al (v:=.bool true) V (λρ h=>Yl.to (Ic (h _ _ V) (h _ _ V)) (by have bz:(((BQ m&&& 4:Nat):Int)≠0):=(λe=>by rw[(Io m).1 e] at ag;cases ag);rw[qf bz])) ?_;refine C 6 V (Al (v:=C6 (BQ m&&& 3)) V (λρ h=>ET (c:=3) al (h _ _ V) (h _ _ V) (by decide)) ?_);refine Al (v:=.bool false) V (λρ h=>Yl.to (Ic (h _ _ V) (h _ _ V)) (by rw[(Qp m).2 ⟨bv,bw⟩];rfl)) (C 2 V ?_);refine Al (v:=C6 m.w) V (λρ h=>Jt al (h _ _ V) (h _ _ V)) (Al (v:=.bool false) V (λρ h=>Yl.to (Yl.eql (h _ _ V) (h _ _ V)) (by rw[p5 (λe=>bx (by omega))])) ?_);refine C 12 V (Al (v:=.bool (!aq)) V (λρ h=>Yl.not (h _ _ V)) ?_);refine C 1 V (Ln (c:= !aq) (i:=119) V (λd1=>?_) (λd1=>?_))
        .refine I1 V V V (C 5 V ?_);have hex:(!aq || m.w==1)=true:=by rw[d1];simp
         rw[hex];refine C 2 V (Al (v:=.int .i32 (-11)) V (λρ h=>Yl.to (Yl.sub (h _ _ V) (h _ _ V)) V) ?_);refine C 6 V (JL.uA V V ?_);refine C 1 V (HH (kk:=kk) (p:=.EA true) (dl:= -11) O ac V V V V V HR V V λK a4 ai=>⟨⟨true,K.k,false,K.w - 1⟩,some .len,?_,d7.2 V,?_⟩)
         .obtain⟨a8,a9,bb,w3⟩:=K;obtain⟨U,g2,Z,am,be,ap⟩:=ai;simp only at U g2 Z am;subst U g2 Z;have bi:w3<134217728:=ap;have e:(⟨false,false,true,w3⟩:M4).num+(-11)=((8*(w3 - 1)+1:Nat):Int):=by simp only[M4.num,pI,pu];omega
          rw[e,FT (by omega)];simp only[M4.num,pI,pu];omega
         exact C 2 V (a0 X O av _ V)
        .refine Al (v:=.int .i32 (m:M4).num) V (λρ h=>Yl.move (h _ _ V)) (Al (v:=C6 m.w) V (λρ h=>Jt al (h _ _ V) (h _ _ V)) ?_);refine C 3 V (GN (p:=(m.w:Int)=1) V (λd2=>?_) (λd2=>?_))
         .have hex:(!aq || m.w==1)=true:=by rw[d1];simp;omega
          rw[hex];refine C 2 V (Al (v:=.int .i32 (-11)) V (λρ h=>Yl.to (Yl.sub (h _ _ V) (h _ _ V)) V) ?_);refine C 6 V (JL.uA V V ?_);refine C 1 V (HH (kk:=kk) (p:=.EA true) (dl:= -11) O ac V V V V V HR V V λK a4 ai=>⟨⟨true,K.k,false,K.w - 1⟩,some .len,?_,d7.2 V,?_⟩)
          .obtain⟨a8,a9,bb,w3⟩:=K;obtain⟨U,g2,Z,am,be,ap⟩:=ai;simp only at U g2 Z am;subst U g2 Z;have bi:w3<134217728:=ap;have e:(⟨false,false,true,w3⟩:M4).num+(-11)=((8*(w3 - 1)+1:Nat):Int):=by simp only[M4.num,pI,pu];omega
           rw[e,FT (by omega)];simp only[M4.num,pI,pu];omega
          exact C 2 V (a0 X O av _ V)
         .have hex:(!aq || m.w==1)=false:=by rw[d1];simp;omega
          rw[hex];refine C 5 V (JL.uA V V ?_);refine C 1 V (HH (kk:=kk) (p:=.EA false) (dl:= -7) O ac V V V V V HR V V λK a4 ai=>⟨⟨true,K.k,true,K.w - 1⟩,some .len,?_,d7.2 V,?_⟩)
          .obtain⟨a8,a9,bb,w3⟩:=K;obtain⟨U,g2,Z,am,be,ap⟩:=ai;simp only at U g2 Z am;subst U g2 Z;have bi:w3<134217728:=ap;have e:(⟨false,false,true,w3⟩:M4).num+(-7)=((8*(w3 - 1)+5:Nat):Int):=by simp only[M4.num,pI,pu];omega
           rw[e,FT (by omega)];simp only[M4.num,pI,pu];omega
          exact C 2 V (a0 X O av _ V)
       .refine⟨some (.Cw aq true 0 m),by simp[Fam.B9,ag],?_⟩;refine C 2 V ?_;have bn:m.s=false:=by simpa using ag
        refine C 4 V (Al (v:=C6 (BQ m&&& 4)) V (λρ h=>ET (c:=4) al (h _ _ V) (h _ _ V) (by decide)) ?_);refine Al (v:=.bool false) V (λρ h=>Yl.to (Ic (h _ _ V) (h _ _ V)) (by rw[(Io m).2 bn];rfl)) (C 11 V ?_);refine JL.again ?_;rw[← a5];exact EV [(0,.pointer (some F.uA)),(2,iV v),(3,.bool aq),(4,.bool true),(5,iV ((0:Nat):Int)),(6,.int .i32 (m:M4).num)] V (b4 (aq,true,0,m,v) ⟨λ_=>az.2.1 bn,qc _,a7⟩)
      .rw [eS rfl];refine C 15 V (JL.uA V V ?_);refine HK (kk:=kk) (p:=.EW true) O ac V V V V V HG IX V ?_;intro m ce az;have a7:Dk m:=az.2.2;have al:Cy m:=a7.Cy;by_cases ag:m.s=true
       .refine⟨some (.EA (!true || m.w==1)),by simp[Fam.B9,ag],?_⟩;refine C 2 V ?_;let⟨bv,bw,bx⟩:=az.1 ag;refine C 4 V (Al (v:=C6 (BQ m&&& 4)) V (λρ h=>ET (c:=4) al (h _ _ V) (h _ _ V) (by decide)) ?_);refine Al (v:=.bool true) V (λρ h=>Yl.to (Ic (h _ _ V) (h _ _ V)) (by have bz:(((BQ m&&& 4:Nat):Int)≠0):=(λe=>by rw[(Io m).1 e] at ag;cases ag);rw[qf bz])) ?_;refine C 6 V (Al (v:=C6 (BQ m&&& 3)) V (λρ h=>ET (c:=3) al (h _ _ V) (h _ _ V) (by decide)) ?_);refine Al (v:=.bool false) V (λρ h=>Yl.to (Ic (h _ _ V) (h _ _ V)) (by rw[(Qp m).2 ⟨bv,bw⟩];rfl)) (C 2 V ?_);refine Al (v:=C6 m.w) V (λρ h=>Jt al (h _ _ V) (h _ _ V)) (Al (v:=.bool false) V (λρ h=>Yl.to (Yl.eql (h _ _ V) (h _ _ V)) (by rw[p5 (λe=>bx (by omega))])) ?_);refine C 12 V (Al (v:=.bool (!true)) V (λρ h=>Yl.not (h _ _ V)) ?_);refine C 1 V (Ln (c:= !true) (i:=119) V (λd1=>?_) (λd1=>?_))
        .refine I1 V V V (C 5 V ?_);have hex:(!true || m.w==1)=true:=by rw[d1];simp
         rw[hex];refine C 2 V (Al (v:=.int .i32 (-11)) V (λρ h=>Yl.to (Yl.sub (h _ _ V) (h _ _ V)) V) ?_);refine C 6 V (JL.uA V V ?_);refine C 1 V (HH (kk:=kk) (p:=.EA true) (dl:= -11) O ac V V V V V HR V V λK a4 ai=>⟨⟨true,K.k,false,K.w - 1⟩,some .len,?_,d7.2 V,?_⟩)
         .obtain⟨a8,a9,bb,w3⟩:=K;obtain⟨U,g2,Z,am,be,ap⟩:=ai;simp only at U g2 Z am;subst U g2 Z;have bi:w3<134217728:=ap;have e:(⟨false,false,true,w3⟩:M4).num+(-11)=((8*(w3 - 1)+1:Nat):Int):=by simp only[M4.num,pI,pu];omega
          rw[e,FT (by omega)];simp only[M4.num,pI,pu];omega
         exact C 2 V (a0 X O av _ V)
        .refine Al (v:=.int .i32 (m:M4).num) V (λρ h=>Yl.move (h _ _ V)) (Al (v:=C6 m.w) V (λρ h=>Jt al (h _ _ V) (h _ _ V)) ?_);refine C 3 V (GN (p:=(m.w:Int)=1) V (λd2=>?_) (λd2=>?_))
         .have hex:(!true || m.w==1)=true:=by rw[d1];simp;omega
          rw[hex];refine C 2 V (Al (v:=.int .i32 (-11)) V (λρ h=>Yl.to (Yl.sub (h _ _ V) (h _ _ V)) V) ?_);refine C 6 V (JL.uA V V ?_);refine C 1 V (HH (kk:=kk) (p:=.EA true) (dl:= -11) O ac V V V V V HR V V λK a4 ai=>⟨⟨true,K.k,false,K.w - 1⟩,some .len,?_,d7.2 V,?_⟩)
          .obtain⟨a8,a9,bb,w3⟩:=K;obtain⟨U,g2,Z,am,be,ap⟩:=ai;simp only at U g2 Z am;subst U g2 Z;have bi:w3<134217728:=ap;have e:(⟨false,false,true,w3⟩:M4).num+(-11)=((8*(w3 - 1)+1:Nat):Int):=by simp only[M4.num,pI,pu];omega
           rw[e,FT (by omega)];simp only[M4.num,pI,pu];omega
          exact C 2 V (a0 X O av _ V)
         .have hex:(!true || m.w==1)=false:=by rw[d1];simp;omega
          rw[hex];refine C 5 V (JL.uA V V ?_);refine C 1 V (HH (kk:=kk) (p:=.EA false) (dl:= -7) O ac V V V V V HR V V λK a4 ai=>⟨⟨true,K.k,true,K.w - 1⟩,some .len,?_,d7.2 V,?_⟩)
          .obtain⟨a8,a9,bb,w3⟩:=K;obtain⟨U,g2,Z,am,be,ap⟩:=ai;simp only at U g2 Z am;subst U g2 Z;have bi:w3<134217728:=ap;have e:(⟨false,false,true,w3⟩:M4).num+(-7)=((8*(w3 - 1)+5:Nat):Int):=by simp only[M4.num,pI,pu];omega
           rw[e,FT (by omega)];simp only[M4.num,pI,pu];omega
          exact C 2 V (a0 X O av _ V)
       .refine⟨some (.Cw true true 0 m),by simp[Fam.B9,ag],?_⟩;refine C 2 V ?_;have bn:m.s=false:=by simpa using ag
        refine C 4 V (Al (v:=C6 (BQ m&&& 4)) V (λρ h=>ET (c:=4) al (h _ _ V) (h _ _ V) (by decide)) ?_);refine Al (v:=.bool false) V (λρ h=>Yl.to (Ic (h _ _ V) (h _ _ V)) (by rw[(Io m).2 bn];rfl)) (C 11 V ?_);refine JL.again ?_;rw[← a5];exact EV [(0,.pointer (some F.uA)),(2,iV v),(3,.bool true),(4,.bool true),(5,iV ((0:Nat):Int)),(6,.int .i32 (m:M4).num)] V (b4 (true,true,0,m,v) ⟨λ_=>az.2.1 bn,qc _,a7⟩)
     .refine⟨some ((.CI sv)),UM a2 _ (.inr V),?_⟩;refine C 6 V (Al (v:=C6 (BQ old&&& 5)) V (λρ h=>ET (c:=5) a1 (h _ _ V) (h _ _ V) (by decide)) ?_);refine Al (v:=.bool false) V (λρ h=>Yl.to (Yl.eql (h _ _ V) (h _ _ V)) (by rw[p5 (λe=>a2 ((NT old).1 e))])) ?_;refine C 13 V (Al (v:=.bool false) V (λρ h=>Yl.to (Yl.eql (h _ _ V) (h _ _ V)) (by rw[p5 c5])) ?_);refine C 7 V (Al (v:=.pointer (some F.qA)) V (λρ h=>Kh (a:=F.uA) 0 1 Tryz.underlying92 OC V V V (h _ _ V)) ?_);refine C 1 V (T9 (kk:=kk) (sv:=sv) O ac V V V V Wz V V ?_);refine JL.done ?_;cases sv
      .rw [d9 (by decide)];refine C 4 V (Rg (kk:=kk) (p:=.Gs) O ac V V V V V Sm SE λef eg v2 ej=>⟨some (.EW (decide (IntKind.i64.wrap (v2 - wt)>1000000))),by (cases decide (IntKind.i64.wrap (v2 - wt)>1000000)<;>simp[Fam.B9]),?_⟩);refine C 1 V (Al (v:=.int .i64 (IntKind.i64.wrap (v2 - wt))) V (λρ h=>Yl.sub (h _ _ V) (h _ _ V)) ?_);refine C 4 V ?_;generalize decide (IntKind.i64.wrap (v2 - wt)>1000000)=aq;refine C 4 V (JL.uA V V ?_);refine HK (kk:=kk) (p:=.EW aq) O ac V V V V V HG IX V ?_;intro m ce az;have a7:Dk m:=az.2.2;have al:Cy m:=a7.Cy;by_cases ag:m.s=true
       .refine⟨some (.EA (!aq || m.w==1)),by simp[Fam.B9,ag],?_⟩;refine C 2 V ?_;let⟨bv,bw,bx⟩:=az.1 ag;refine C 4 V (Al (v:=C6 (BQ m&&& 4)) V (λρ h=>ET (c:=4) al (h _ _ V) (h _ _ V) (by decide)) ?_);refine Al (v:=.bool true) V (λρ h=>Yl.to (Ic (h _ _ V) (h _ _ V)) (by have bz:(((BQ m&&& 4:Nat):Int)≠0):=(λe=>by rw[(Io m).1 e] at ag;cases ag);rw[qf bz])) ?_;refine C 6 V (Al (v:=C6 (BQ m&&& 3)) V (λρ h=>ET (c:=3) al (h _ _ V) (h _ _ V) (by decide)) ?_);refine Al (v:=.bool false) V (λρ h=>Yl.to (Ic (h _ _ V) (h _ _ V)) (by rw[(Qp m).2 ⟨bv,bw⟩];rfl)) (C 2 V ?_);refine Al (v:=C6 m.w) V (λρ h=>Jt al (h _ _ V) (h _ _ V)) (Al (v:=.bool false) V (λρ h=>Yl.to (Yl.eql (h _ _ V) (h _ _ V)) (by rw[p5 (λe=>bx (by omega))])) ?_);refine C 12 V (Al (v:=.bool (!aq)) V (λρ h=>Yl.not (h _ _ V)) ?_);refine C 1 V (Ln (c:= !aq) (i:=119) V (λd1=>?_) (λd1=>?_))
        .refine I1 V V V (C 5 V ?_);have hex:(!aq || m.w==1)=true:=by rw[d1];simp
         rw[hex];refine C 2 V (Al (v:=.int .i32 (-11)) V (λρ h=>Yl.to (Yl.sub (h _ _ V) (h _ _ V)) V) ?_);refine C 6 V (JL.uA V V ?_);refine C 1 V (HH (kk:=kk) (p:=.EA true) (dl:= -11) O ac V V V V V HR V V λK a4 ai=>⟨⟨true,K.k,false,K.w - 1⟩,some .len,?_,d7.2 V,?_⟩)
         .obtain⟨a8,a9,bb,w3⟩:=K;obtain⟨U,g2,Z,am,be,ap⟩:=ai;simp only at U g2 Z am;subst U g2 Z;have bi:w3<134217728:=ap;have e:(⟨false,false,true,w3⟩:M4).num+(-11)=((8*(w3 - 1)+1:Nat):Int):=by simp only[M4.num,pI,pu];omega
          rw[e,FT (by omega)];simp only[M4.num,pI,pu];omega
         exact C 2 V (a0 X O av _ V)
        .refine Al (v:=.int .i32 (m:M4).num) V (λρ h=>Yl.move (h _ _ V)) (Al (v:=C6 m.w) V (λρ h=>Jt al (h _ _ V) (h _ _ V)) ?_);refine C 3 V (GN (p:=(m.w:Int)=1) V (λd2=>?_) (λd2=>?_))
         .have hex:(!aq || m.w==1)=true:=by rw[d1];simp;omega
          rw[hex];refine C 2 V (Al (v:=.int .i32 (-11)) V (λρ h=>Yl.to (Yl.sub (h _ _ V) (h _ _ V)) V) ?_);refine C 6 V (JL.uA V V ?_);refine C 1 V (HH (kk:=kk) (p:=.EA true) (dl:= -11) O ac V V V V V HR V V λK a4 ai=>⟨⟨true,K.k,false,K.w - 1⟩,some .len,?_,d7.2 V,?_⟩)
          .obtain⟨a8,a9,bb,w3⟩:=K;obtain⟨U,g2,Z,am,be,ap⟩:=ai;simp only at U g2 Z am;subst U g2 Z;have bi:w3<134217728:=ap;have e:(⟨false,false,true,w3⟩:M4).num+(-11)=((8*(w3 - 1)+1:Nat):Int):=by simp only[M4.num,pI,pu];omega
           rw[e,FT (by omega)];simp only[M4.num,pI,pu];omega
          exact C 2 V (a0 X O av _ V)
         .have hex:(!aq || m.w==1)=false:=by rw[d1];simp;omega
          rw[hex];refine C 5 V (JL.uA V V ?_);refine C 1 V (HH (kk:=kk) (p:=.EA false) (dl:= -7) O ac V V V V V HR V V λK a4 ai=>⟨⟨true,K.k,true,K.w - 1⟩,some .len,?_,d7.2 V,?_⟩)
          .obtain⟨a8,a9,bb,w3⟩:=K;obtain⟨U,g2,Z,am,be,ap⟩:=ai;simp only at U g2 Z am;subst U g2 Z;have bi:w3<134217728:=ap;have e:(⟨false,false,true,w3⟩:M4).num+(-7)=((8*(w3 - 1)+5:Nat):Int):=by simp only[M4.num,pI,pu];omega
           rw[e,FT (by omega)];simp only[M4.num,pI,pu];omega
          exact C 2 V (a0 X O av _ V)
       .refine⟨some (.Cw aq true 0 m),by simp[Fam.B9,ag],?_⟩;refine C 2 V ?_;have bn:m.s=false:=by simpa using ag
        refine C 4 V (Al (v:=C6 (BQ m&&& 4)) V (λρ h=>ET (c:=4) al (h _ _ V) (h _ _ V) (by decide)) ?_);refine Al (v:=.bool false) V (λρ h=>Yl.to (Ic (h _ _ V) (h _ _ V)) (by rw[(Io m).2 bn];rfl)) (C 11 V ?_);refine JL.again ?_;rw[← a5];exact EV [(0,.pointer (some F.uA)),(2,iV wt),(3,.bool aq),(4,.bool true),(5,iV ((0:Nat):Int)),(6,.int .i32 (m:M4).num)] V (b4 (aq,true,0,m,wt) ⟨λ_=>az.2.1 bn,qc _,a7⟩)
      .rw [eS rfl];refine C 15 V (JL.uA V V ?_);refine HK (kk:=kk) (p:=.EW true) O ac V V V V V HG IX V ?_;intro m ce az;have a7:Dk m:=az.2.2;have al:Cy m:=a7.Cy;by_cases ag:m.s=true
       .refine⟨some (.EA (!true || m.w==1)),by simp[Fam.B9,ag],?_⟩;refine C 2 V ?_;let⟨bv,bw,bx⟩:=az.1 ag;refine C 4 V (Al (v:=C6 (BQ m&&& 4)) V (λρ h=>ET (c:=4) al (h _ _ V) (h _ _ V) (by decide)) ?_);refine Al (v:=.bool true) V (λρ h=>Yl.to (Ic (h _ _ V) (h _ _ V)) (by have bz:(((BQ m&&& 4:Nat):Int)≠0):=(λe=>by rw[(Io m).1 e] at ag;cases ag);rw[qf bz])) ?_;refine C 6 V (Al (v:=C6 (BQ m&&& 3)) V (λρ h=>ET (c:=3) al (h _ _ V) (h _ _ V) (by decide)) ?_);refine Al (v:=.bool false) V (λρ h=>Yl.to (Ic (h _ _ V) (h _ _ V)) (by rw[(Qp m).2 ⟨bv,bw⟩];rfl)) (C 2 V ?_);refine Al (v:=C6 m.w) V (λρ h=>Jt al (h _ _ V) (h _ _ V)) (Al (v:=.bool false) V (λρ h=>Yl.to (Yl.eql (h _ _ V) (h _ _ V)) (by rw[p5 (λe=>bx (by omega))])) ?_);refine C 12 V (Al (v:=.bool (!true)) V (λρ h=>Yl.not (h _ _ V)) ?_);refine C 1 V (Ln (c:= !true) (i:=119) V (λd1=>?_) (λd1=>?_))
        .refine I1 V V V (C 5 V ?_);have hex:(!true || m.w==1)=true:=by rw[d1];simp
         rw[hex];refine C 2 V (Al (v:=.int .i32 (-11)) V (λρ h=>Yl.to (Yl.sub (h _ _ V) (h _ _ V)) V) ?_);refine C 6 V (JL.uA V V ?_);refine C 1 V (HH (kk:=kk) (p:=.EA true) (dl:= -11) O ac V V V V V HR V V λK a4 ai=>⟨⟨true,K.k,false,K.w - 1⟩,some .len,?_,d7.2 V,?_⟩)
         .obtain⟨a8,a9,bb,w3⟩:=K;obtain⟨U,g2,Z,am,be,ap⟩:=ai;simp only at U g2 Z am;subst U g2 Z;have bi:w3<134217728:=ap;have e:(⟨false,false,true,w3⟩:M4).num+(-11)=((8*(w3 - 1)+1:Nat):Int):=by simp only[M4.num,pI,pu];omega
          rw[e,FT (by omega)];simp only[M4.num,pI,pu];omega
         exact C 2 V (a0 X O av _ V)
        .refine Al (v:=.int .i32 (m:M4).num) V (λρ h=>Yl.move (h _ _ V)) (Al (v:=C6 m.w) V (λρ h=>Jt al (h _ _ V) (h _ _ V)) ?_);refine C 3 V (GN (p:=(m.w:Int)=1) V (λd2=>?_) (λd2=>?_))
         .have hex:(!true || m.w==1)=true:=by rw[d1];simp;omega
          rw[hex];refine C 2 V (Al (v:=.int .i32 (-11)) V (λρ h=>Yl.to (Yl.sub (h _ _ V) (h _ _ V)) V) ?_);refine C 6 V (JL.uA V V ?_);refine C 1 V (HH (kk:=kk) (p:=.EA true) (dl:= -11) O ac V V V V V HR V V λK a4 ai=>⟨⟨true,K.k,false,K.w - 1⟩,some .len,?_,d7.2 V,?_⟩)
          .obtain⟨a8,a9,bb,w3⟩:=K;obtain⟨U,g2,Z,am,be,ap⟩:=ai;simp only at U g2 Z am;subst U g2 Z;have bi:w3<134217728:=ap;have e:(⟨false,false,true,w3⟩:M4).num+(-11)=((8*(w3 - 1)+1:Nat):Int):=by simp only[M4.num,pI,pu];omega
           rw[e,FT (by omega)];simp only[M4.num,pI,pu];omega
          exact C 2 V (a0 X O av _ V)
         .have hex:(!true || m.w==1)=false:=by rw[d1];simp;omega
          rw[hex];refine C 5 V (JL.uA V V ?_);refine C 1 V (HH (kk:=kk) (p:=.EA false) (dl:= -7) O ac V V V V V HR V V λK a4 ai=>⟨⟨true,K.k,true,K.w - 1⟩,some .len,?_,d7.2 V,?_⟩)
          .obtain⟨a8,a9,bb,w3⟩:=K;obtain⟨U,g2,Z,am,be,ap⟩:=ai;simp only at U g2 Z am;subst U g2 Z;have bi:w3<134217728:=ap;have e:(⟨false,false,true,w3⟩:M4).num+(-7)=((8*(w3 - 1)+5:Nat):Int):=by simp only[M4.num,pI,pu];omega
           rw[e,FT (by omega)];simp only[M4.num,pI,pu];omega
          exact C 2 V (a0 X O av _ V)
       .refine⟨some (.Cw true true 0 m),by simp[Fam.B9,ag],?_⟩;refine C 2 V ?_;have bn:m.s=false:=by simpa using ag
        refine C 4 V (Al (v:=C6 (BQ m&&& 4)) V (λρ h=>ET (c:=4) al (h _ _ V) (h _ _ V) (by decide)) ?_);refine Al (v:=.bool false) V (λρ h=>Yl.to (Ic (h _ _ V) (h _ _ V)) (by rw[(Io m).2 bn];rfl)) (C 11 V ?_);refine JL.again ?_;rw[← a5];exact EV [(0,.pointer (some F.uA)),(2,iV wt),(3,.bool true),(4,.bool true),(5,iV ((0:Nat):Int)),(6,.int .i32 (m:M4).num)] V (b4 (true,true,0,m,wt) ⟨λ_=>az.2.1 bn,qc _,a7⟩)
   .refine JL.done (C 4 V ?_);refine JL.uA V V (HK (kk:=kk) (p:=.EC sv aw it) O ac V V V V V HG IX V λa6 cw bo=>⟨some (.Cw sv aw it a6),d7.2 V,?_⟩);refine C 3 V (JL.again ?_);rw[← a5];exact EV [(0,.pointer (some F.uA)),(2,iV wt),(3,.bool sv),(4,.bool aw),(5,iV (it:Int)),(6,.int .i32 (a6:M4).num)] V (b4 (sv,aw,it,a6,wt) ⟨bo.2.2.2,b0.2.1,bo.2.2.1⟩)
 exact λa ci=>key 5 a (by omega) ci
set_option maxHeartbeats 4000000 in
theorem YM(K:s.q=false)(O:ops[i]?=some ⟨d,.call ⟨.value (.func 84),#[x],ats⟩,ty,pp,af,g⟩)(hw:AY L ops ⟨d,.call ⟨.value (.func 84),#[x],ats⟩,ty,pp,af,g⟩=some true)(U:((b.kind != .early)&&Bo n d)=true)(Y:ev L x=some (.pointer (some F.uA)))
  (h:JL (A0 Tryz.prog false) (Stop Tryz.prog F (.lk kk .F0)) b n (Ay L d (.tuple #[])) ds (.inRegion ops rest::k) cs s):
  JL (A0 Tryz.prog false) (Stop Tryz.prog F (.lk kk .Gv)) b n L ds (.inRegion ops (i::rest)::k) cs s:=by
 refine HJ (vs:=[.pointer (some F.uA)]) O hw U Tryz.func84 (by decide+kernel) V (by simp[evs,Y]) (pt V) λac back=>C 2 V (MC (kk:=kk) (p:=.Gv) De.stop K V (λ_ _=>V) V V V V (by simp) Xm ?_);refine C 6 V (JL.uA V V ?_);refine U8 (kk:=kk) (p:=.HN) (old:=M4.zero) (nw:=⟨true,false,false,0⟩) De.stop K V V V V V Qa V V V (λq Z=>⟨some .len,by simp[Fam.B9],?_⟩) (λm q hm Z=>⟨some (.EC false false 0),by simp[Fam.B9,hm],?_⟩);refine JL.done (C 5 V ?_);refine MC (kk:=kk) (p:=.len) De.stop K V (λ_ _=>V) V V V V (by simp) Qx (C 3 V ?_);refine Rh (kk:=kk) (p:=.Mf) De.stop K V (λ_ _=>V) V V V V Tryz.underlying176 Tryz.underlying137 RP V (RE (kk:=kk) (p:=.K1) (ad:=F.uA) De.stop K V (λ_ _=>V) V V V V (by simp) Xl V V ?_);exact JL.done (JL.ret V V (BO.none Tryz.func84 V) (back _ _ _ _ h));refine JL.done (C 4 V ?_);refine YZ (kk:=kk) K V V V V (JL.done ?_);exact JL.fin V V (BO.none Tryz.func84 V) (back _ _ _ _ h)
set_option maxHeartbeats 4000000 in
theorem Zp(K:s.q=false)(O:ops[i]?=some ⟨d,.call ⟨.value (.func 47),#[x],ats⟩,ty,pp,af,g⟩)(hw:AY L ops ⟨d,.call ⟨.value (.func 47),#[x],ats⟩,ty,pp,af,g⟩=some true)(U:((b.kind != .early)&&Bo n d)=true)(Y:ev L x=some (.pointer (some F.uA)))
  (h:JL (A0 Tryz.prog false) (Stop Tryz.prog F (.lk kk .F0)) b n (Ay L d (.tuple #[])) ds (.inRegion ops rest::k) cs s):
  JL (A0 Tryz.prog false) (Stop Tryz.prog F (.lk kk .Gv)) b n L ds (.inRegion ops (i::rest)::k) cs s:=by
 refine HJ (vs:=[.pointer (some F.uA)]) O hw U Tryz.func47 (by decide+kernel) V (by simp[evs,Y]) (pt V) λZ back=>C 3 V (Al (v:=.pointer (some F.uA)) V (λρ h=>Kh (a:=F.uA) 1 0 Tryz.underlying94 (A2 Tryz.type92) V V V (h _ _ V)) ?_);refine YM (kk:=kk) K V V V V (JL.done ?_);exact JL.fin V V (BO.none Tryz.func47 V) (back _ _ _ _ h)
def Jh(m:M4):LP:=if m.l=false/\m.k=false/\m.s=false/\m.w≠0 then .Ff m else .FG
def S4(m:M4):LP:=if m.s=true then .FE true else if m.k=false/\m.w≠0 then .Ff {m with l:=false} else .FG
set_option maxHeartbeats 4000000 in
theorem YS{Z:Operand}{nw:M4}(U:s.q=false)(a2:ops[i]?=some ⟨d,.call ⟨.value (.func 110),#[x,Z],ats⟩,ty,pp,af,g⟩)(hw:AY L ops ⟨d,.call ⟨.value (.func 110),#[x,Z],ats⟩,ty,pp,af,g⟩=some true)(a3:((b.kind != .early)&&Bo n d)=true)(a4:ev L x=some (.pointer (some F.uA)))(a5:ev L Z=some (.int .i32 nw.num))(ai:nw.l=false)(a6:Dk nw)(ac:Cy nw)
  (h:JL (A0 Tryz.prog false) (Stop Tryz.prog F (.lk kk .FG)) b n (Ay L d (.tuple #[])) ds (.inRegion ops rest::k) cs s):
  JL (A0 Tryz.prog false) (Stop Tryz.prog F (.lk kk (if nw.s=true then .FE true else if nw.k=false/\nw.w≠0 then .Ff nw else .FG))) b n L ds (.inRegion ops (i::rest)::k) cs s:=by
 refine HJ (vs:=[.pointer (some F.uA),.int .i32 nw.num]) a2 hw a3 Tryz.func110 (by decide+kernel) V (by simp[evs,a4,a5]) (pt V) λal back=>C 4 V (Al (v:=.int .i32 ({nw with l:=true}:M4).num) V (λρ h=>cH ac ai (h _ _ V) (h _ _ V)) ?_);refine Al (v:=C6 (BQ ({nw with l:=true}:M4)&&& 1)) V (λρ h=>ET (c:=1) (m:={nw with l:=true}) ac (h _ _ V) (h _ _ V) (by decide)) (Al (v:=.bool false) V (λρ h=>Yl.to (Yl.eql (h _ _ V) (h _ _ V)) (by rw[p5 (λe=>by have q:=(SH _).1 e;cases q)])) ?_);refine C 6 V (Al (v:=C6 (BQ nw&&& 4)) V (λρ h=>ET (c:=4) ac (h _ _ V) (h _ _ V) (by decide)) ?_);refine C 2 V (GN (p:=((BQ nw&&& 4:Nat):Int)=0) V (λc=>?_) (λc=>?_))
 .have am:=(Io nw).1 c;rw[d9 (by rw[am];exact q2)];refine C 6 V ?_;refine Jo ?_;refine EV [(0,.pointer (some F.uA)),(4,.int .i32 nw.num)] V ?_;refine Xj λap aq=>?_;have a7:(if nw.k=false/\nw.w≠0 then LP.Ff nw else .FG)=Jh nw:=by unfold Jh;rw[ai,am];simp
  rw[a7];refine WS (P:=Tryz.prog) (F:=F) (s:=s) (kk:=kk) (ph:=λm=>LP.Ff m) (ok:=Dk) (head:=λ(X:Ph->GP) (a:M4)=>JL (A0 Tryz.prog false) (X (.lk kk (Jh a))) (base 110) Tryz.f110.ntmps ([(0,.pointer (some F.uA)),(4,.int .i32 (a:M4).num)]) [] ap (al::cs) s) ?_ nw a6;intro Y bw av hC old aw;have K:Cy old:=aw.Cy;show JL (A0 Tryz.prog false) (Y (.lk kk (Jh old))) (base 110) Tryz.f110.ntmps [(0,.pointer (some F.uA)),(4,.int .i32 old.num)] [] ap (al::cs) s;rw[aq];refine C 5 V (Al (v:=C6 old.w) V (λρ h=>Jt K (h _ _ V) (h _ _ V)) ?_);refine C 2 V (Nt (q:=(old.w:Int)=0) (i:=17) V (λc2=>?_) (λc2=>?_))
  .have O:Jh old=.FG:=by unfold Jh;rw[d9 (λe=>e.2.2.2 (by omega))]
   refine C 6 V ?_;rw[O];exact JL.ret V V (BO.none Tryz.func110 V) (back _ _ _ _ (O0 (λg s=>av _ g s) h))
  .refine Al (v:=.int .i32 (old:M4).num) V (λρ h=>Yl.move (h _ _ V)) (Al (v:=C6 (BQ old&&& 7)) V (λρ h=>ET (c:=7) K (h _ _ V) (h _ _ V) (by decide)) ?_);refine C 3 V (GN (p:=((BQ old&&& 7:Nat):Int)≠0) V (λc3=>?_) (λc3=>?_))
   .have O:Jh old=.FG:=by unfold Jh;rw[d9 (λe=>c3 ((Xr old).2 ⟨e.1,e.2.1,e.2.2.1⟩))]
    rw[O];exact JL.ret V V (BO.none Tryz.func110 V) (back _ _ _ _ (O0 (λg s=>av _ g s) h))
   .have a8:=(Xr old).1 (qY.1 c3);obtain⟨l0,bx,bz,w0⟩:=old;obtain⟨z1,ay,az⟩:=a8;simp only at z1 ay az c2;subst z1 ay az;have a0:w0≠0:=by omega
    have O:Jh ⟨false,false,false,w0⟩=.Ff ⟨false,false,false,w0⟩:=by unfold Jh;rw[eS ⟨rfl,rfl,rfl,a0⟩]
    rw[O];refine C 4 V (Al (v:=.int .i32 (⟨false,false,false,w0 - 1⟩:M4).num) V (λρ h=>dD (m:=⟨false,false,false,w0⟩) K a0 (h _ _ V) (h _ _ V)) ?_);refine Al (v:=.int .i32 (⟨false,true,false,w0 - 1⟩:M4).num) V (λρ h=>PT (c:=2) (m:=⟨false,false,false,w0 - 1⟩) (by unfold Cy at K ⊢;simp only at K ⊢;omega) (by decide) (Tg _) V (h _ _ V) (h _ _ V)) (C 7 V ?_);refine JL.uA V V (C 2 V ?_);refine λT a9=>(A0 Tryz.prog false).stop (hC ⟨false,false,false,w0⟩ _ aw λX b0 bb a1 be bi=>?_);refine Rw (kk:=kk) (p:=.Ff ⟨false,false,false,w0⟩) (old:=⟨false,false,false,w0⟩) (nw:=⟨false,true,false,w0 - 1⟩) bb U V V V V V Qa V V V (λq bn=>⟨some (.FE false),by simp[Fam.B9],?_⟩) (λm q hm bn=>⟨some .HU,by simp[Fam.B9,hm],?_⟩) T a9;refine JL.done (C 5 V ?_);refine Al (v:=.pointer (some F.qA)) V (λρ h=>Kh (a:=F.uA) 0 1 Tryz.underlying92 OC V V V (h _ _ V)) (Ui (kk:=kk) (st:=false) a1 U V V V V W5 V V ?_);exact JL.done (JL.ret V V (BO.none Tryz.func110 V) (back _ _ _ _ (O0 (λg s=>be _ g s) h)));refine JL.done (C 5 V ?_);refine JL.uA V V (HK (kk:=kk) (p:=.HU) a1 U V V V V V HG il V λag b1 bo=>⟨some (Jh ag),d7.2 V,?_⟩);refine C 3 V (JL.again ?_);rw[← aq];exact EV [(0,.pointer (some F.uA)),(4,.int .i32 ag.num)] V (bi ag bo)
 .have bv:nw.s=true:=by rcases sC nw.s with hh | hh;exact hh;exact absurd ((Io nw).2 hh) c
  rw[eS bv];refine C 3 V (Al (v:=.pointer (some F.qA)) V (λρ h=>Kh (a:=F.uA) 0 1 Tryz.underlying92 OC V V V (h _ _ V)) ?_);refine Ui (kk:=kk) (st:=true) De.stop U V V V V W5 V V (JL.done ?_);exact JL.fin V V (BO.none Tryz.func110 V) (back _ _ _ _ h)
set_option maxHeartbeats 4000000 in
theorem X1(K:s.q=false)(ai:ops[i]?=some ⟨d,.call ⟨.value (.func 85),#[x],ats⟩,ty,pp,af,g⟩)(hw:AY L ops ⟨d,.call ⟨.value (.func 85),#[x],ats⟩,ty,pp,af,g⟩=some true)(al:((b.kind != .early)&&Bo n d)=true)(am:ev L x=some (.pointer (some F.uA)))
  (h:JL (A0 Tryz.prog false) (Stop Tryz.prog F .Iu) b n (Ay L d (.tuple #[])) ds (.inRegion ops rest::k) cs s):
  JL (A0 Tryz.prog false) (Stop Tryz.prog F (.lk kk .Hf)) b n L ds (.inRegion ops (i::rest)::k) cs s:=by
 refine HJ (vs:=[.pointer (some F.uA)]) ai hw al Tryz.func85 (by decide+kernel) V (by simp[evs,am]) (pt V) λaz back=>C 6 V (JL.uA V V ?_);refine HK (kk:=kk) (p:=.Hf) De.stop K V V V V V HG iC V λa0 a1 a2=>⟨some .K5,d7.2 V,?_⟩;refine C 4 V (Rh (kk:=kk) (p:=.K5) De.stop K V (λ_ _=>V) V V V V Tryz.underlying176 Tryz.underlying137 RP V ?_);refine RE (kk:=kk) (p:=.K6) (ad:=F.uA) De.stop K V (λ_ _=>V) V V V V (by simp) je V V (C 2 V ?_);refine MC (kk:=kk) (p:=.K0) De.stop K V (λ_ _=>V) V V V V (by simp) Xm (C 5 V ?_);refine JL.uA V V (HH (kk:=kk) (p:=.Ir) (dl:= -1) De.stop K V V V V V HR V V λm q Y=>⟨{m with l:=false},some (S4 m),?_,d7.2 V,?_⟩)
 .obtain⟨ap,O,U,w3⟩:=m;obtain⟨Z,aq⟩:=Y;simp only at Z;subst Z;have a3:w3<134217728:=aq;have a4:=rF O;have a5:=rF U;have e:(⟨true,O,U,w3⟩:M4).num+(-1)=((2*O.toNat+4*U.toNat+8*w3:Nat):Int):=by simp only[M4.num,pI];omega
  rw[e,FT (by omega)];simp only[M4.num,pu];omega
 .have ac:Dk m:=Y.2;have av:Cy ({m with l:=false}:M4):=(show Dk ({m with l:=false}:M4) from ac).Cy;refine C 8 V ?_;refine GN (p:=({m with l:=false}:M4).num≠0) V (λc=>?_) (λc=>?_);refine JL.region (C 2 V ?_);refine YS (kk:=kk) (nw:={m with l:=false}) K V V V V V V ac av (C 2 V ?_);refine MC (kk:=kk) (p:=.FG) De.stop K V (λ_ _=>V) V V V V (by simp) Qx (JL.done ?_);exact JL.fin V V (BO.none Tryz.func85 V) (back _ _ _ _ h)
  .have aw:({m with l:=false}:M4).num=0:=qY.1 c;have ag:m.k=false/\m.s=false/\m.w=0:=by
    obtain⟨ap,O,U,w3⟩:=m;cases O<;>cases U<;>simp[M4.num] at aw ⊢<;>omega
   have ay:S4 m=.FG:=by unfold S4;rw[d9 (by rw[ag.2.1];exact q2),d9 (λe=>e.2 ag.2.2)]
   rw[ay];refine C 2 V (MC (kk:=kk) (p:=.FG) De.stop K V (λ_ _=>V) V V V V (by simp) Qx ?_);exact JL.done (JL.fin V V (BO.none Tryz.func85 V) (back _ _ _ _ h))
theorem JO.bZ{M:Env}(K:b.roundOf=none)(O:s.q=false)(h:JO (A0 Tryz.prog false) (Stop Tryz.prog F .Iu) b n M ds cs s):
  JO (A0 Tryz.prog false) (Stop Tryz.prog F (.lk kk .Hf)) b n M (dcall 48 #[.pointer (some F.uA)]::ds) cs s:=by
 refine JO.enter (vs:=[.pointer (some F.uA)]) K Tryz.func48 (by decide+kernel) V (pt V) λT U todo=>C 3 V (Al (v:=.pointer (some F.uA)) V (λρ h=>Kh (a:=F.uA) 1 0 Tryz.underlying94 (A2 Tryz.type92) V V V (h _ _ V)) ?_);refine X1 (kk:=kk) O V V V V (JL.done ?_);exact JL.out V (JO.leaveD V Tryz.func48 V (.inl V) (h T U todo))
end Pal
namespace Pal
open Go Go.Conc
open Go.ConcN (upd)
variable {ops:Ao_}{i:Nat}{rest:List Nat}{d:Option Tmp}{f:FuncId}{z:Operand}{ats:Array TypeId}{ty t u tw:TypeId}{pp:String}{af:Ae_}{g:On_}{kk:Nat}
variable{w:World}
section
variable {P:Program}{F:Fam}{n:Nat}{L L':Env}{ds:Ld_}{k:Li_}{cs:Lf_}{s s':St}{b:Frame}
variable {x y:Operand}
theorem X9{m:Nat}(h:Bp P t=some m)(w:World):(Go.sizeOf t).run P w=.ok m w:=by
 unfold Bp at h;simp only[Go.sizeOf,typeInfo,bind,Sem.bind,program,Sem.run];cases hi:P.info? t with
 | none=>rw[hi] at h;cases h
 | some j=>rw[hi] at h;simp at h;subst h;rfl
theorem bU{K:Nat->Value}(h:F.FD w K)(O:kk<F.n):w.cell? ⟨F.fd,kk,none⟩=some (K kk)/\w.frozen? ⟨F.fd,kk,none⟩=false:=by
 unfold Fam.FD Fam.Jg at h;constructor;simp[World.cell?,h,O];simp[World.frozen?,h]
theorem YG{O:Nat->Value}{v:Value}(h:F.FD w O)(ac:kk<F.n):w.setCell ⟨F.fd,kk,none⟩ v=F.HW w (upd O kk v):=by
 unfold Fam.HW World.setCell;congr 1;apply qm;intro i;unfold Fam.FD Fam.Jg at h;rw[qT];have U:F.fd<w.heap.size:=by
  rcases mt F.fd w.heap.size with K | K;exact K;simp[py K] at h
 by_cases e:F.fd=i;subst e;rw[pq U,h];simp only[qs,qH,Fam.Jg,qv,Obj.cells.injEq,tH];apply Array.ext;simp;intro j ag Y;by_cases e2:kk=j;subst e2;simp[upd];have Z:¬j=kk:=λe=>e2 e.symm;simp[upd,Z];rw[Array.getElem_setIfInBounds (by simpa using Y),d9 e2];simp;rw[pe e,d9 e]
theorem Yy{X:Ph->GP}(aq:De P F X){a:Option Addr}{l c:Nat}(av:s.q=false)(Y:kk<F.n)
  (aw:ops[i]?=some ⟨d,.store t x y,ty,pp,af,g⟩) (Z:b.roundOf=none) (hw:AY L ops ⟨d,.store t x y,ty,pp,af,g⟩=some true) (U:((b.kind != .early)&&Bo n d)=true)
  (ay:Bp P t=some 1) (az:(P.funcs[b.fn]?).any (·.norace)=false) (a0:ev L x=some (.pointer (some ⟨F.fd,kk,none⟩))) (a1:ev L y=some (.slice a l c)) (hm:F.msg kk (.slice a l c) s.E)
  (h:JL (A0 P false) (X (.lk kk .Hf)) b n (Ay L d undef) ds (.inRegion ops rest::k) cs s):
  JL (A0 P false) (X (.lk kk .F0)) b n L ds (.inRegion ops (i::rest)::k) cs s:=λT K=>by
 simp only[gQ] at U
 refine(A0 P _).stop (aq _ _ _ {
  run:=rfl,offers:=rfl,quiet:=(by simp[Fam.CZ]),live:=λ_=>av,act:=(by simp[Fam.act]),JE:=(by simp),FF:=(by simp),go:=(by simp),lk:=λk' l e a2=>by cases e;exact absurd rfl a2
  CI:=(by simp),store:=λk' e=>?_,fin:=(by simp)})
 cases e
 refine⟨_,hm,G (fr b (CV T d undef) ds (.inRegion ops rest::k)) cs,rfl,λw a3 ac=>?_,h _ (K.put U.2 _)⟩
 let⟨c1,c2⟩:=bU ac Y
 have ag:execOp (⟨T,ds⟩:Act).eval ⟨d,.store t x y,ty,pp,af,g⟩=(do Instr.storeAt t (.pointer (some ⟨F.fd,kk,none⟩)) (.slice a l c);pure Next.skip):=by
  rw[Mp];simp only[execOp,K.ev a0,K.ev a1]
 have ai:(Value.slice a l c).cells=#[.slice a l c]:=rfl;have al:(Value.slice a l c).oneCell'=true:=rfl;have am:(Addr.add ⟨F.fd,kk,none⟩ 0)=⟨F.fd,kk,none⟩:=by rw[Ek rfl];rfl
 have ap:=X9 (P:=P) ay w;have O:=run_store P w ⟨F.fd,kk,none⟩ (.slice a l c) .plain al;rw[c1] at O;simp only[c2,px,qp] at O;rw[BV Z,BV Z,stepG_none (a:=⟨T,ds⟩) (w':=F.HW w (upd a3 kk (.slice a l c))) aw (Ck K hw) (by simpa using U.1) (by
  rw[ag]
  simp[Instr.storeAt,Instr.sureAddr,storeVar,ai,ap,storeCells,am,O,YG ac Y,Result.andThen]),Et]
 have e2:listed P b.fn ⟨T,ds⟩ ⟨d,.store t x y,ty,pp,af,g⟩ w=#[⟨.cell ⟨F.fd,kk,none⟩,true,false⟩]:=by
  unfold listed;rw[ag];have a4:=events_store (P:=P) (w:=w) (es:=#[]) ⟨F.fd,kk,none⟩ (.slice a l c) .plain al;have a5:(do Instr.storeAt t (.pointer (some ⟨F.fd,kk,none⟩)) (.slice a l c);pure Next.skip:Sem Next).events P w #[]=#[⟨.cell ⟨F.fd,kk,none⟩,true,false⟩]:=by
   simp[Instr.storeAt,Instr.sureAddr,storeVar,ai,ap,storeCells,am,O,c1,c2,a4,Result.evThen]
  rw[a5,seen_def];simp[seenStep,az]
 rw[e2]
end
end Pal
namespace Pal
open Go Go.Conc Go.Proofs
open Go.Proofs.Tryz
open Go.Conc.Lib Go.ConcR.Gen
theorem iw:(Tryz.prog.funcs[43]?).any (·.norace)=false:=by rw[func43];rfl
def JH(fu_:Nat)(K:Bq)(p:AH)(j:Nat):Option (List Int):=
 (f120 fu_ K).bind λO=>
 (f119 fu_ ([O]:List (List (AV))) ((j:Nat):Int) p ([]:List ((Nat×Bt)×Bool))).bind λU=>
 some U.1
variable{F:Fam}{Z ac ai al c2 fu_ j kf:Nat}{a1 ap:Aw}{p:AH}{O:Bq}
set_option maxHeartbeats 1000000 in
theorem gH{E:LH}{am:Aw}{aq op ag oi off:Nat}(a2:At E ac op [.slice ap p.length Z])(a3:Ap AE E ap Z p)(a4:At E ag ai [sV a1 O.1 c2,sV am O.2 aq])(a5:Ap (rL rI) E a1 c2 O.1)(a6:Ap AE E am aq O.2)(hi:At E al oi [iV ((j:Nat):Int)])(a7:At E kf off [.slice (some ⟨F.fd,0,none⟩) F.n F.n]){r:List Int}(ay:JH fu_ O p j=some r)(az:j<F.n)(a8:∀E' a c,Le E E'->Ap rI E' a c r->(r=[]->a=none)->F.msg j (.slice a r.length c) E'):
  Way Tryz.prog false (Stop Tryz.prog F (F.start j)) (born Tryz.prog ⟨.fn (.func 43) [.pointer (some F.sA),As ac op,As ag ai,As al oi,.pointer (some F.uA),As kf off].toArray,#[]⟩) ⟨E,λ_=>none,false⟩:=by
 refine aT (fn:=Tryz.f43) (vs:=[.pointer (some F.sA),As ac op,As ag ai,As al oi,.pointer (some F.uA),As kf off]) func43 (by decide+kernel) V (by simp) (pt V) ?_;obtain⟨H,a9⟩:∃H:LH,H=λ_=>none:=⟨_,V⟩;rw[← a9];have bb:Aq E H []:=trivial;refine(?_:JL (A0 Tryz.prog false) (Stop Tryz.prog F (.lk j .Gv)) (baseD 43) Tryz.f43.ntmps (GQ 0 [.pointer (some F.sA),As ac op,As ag ai,As al oi,.pointer (some F.uA),As kf off]) [] [.code _] [MS Tryz.prog] (Aj E H []));unfold JH at ay;refine C 2 V (JL.defer (vs:=[.pointer (some F.sA)]) V V V V V ?_);refine C 3 V (DC 0 a2 Bx V V V ?_);refine JS.makeMap V V V bb λr1 be=>Al (v:=.agg #[sV ap p Z,.map (some r1)]) V (λρ h=>DR [(0,1),(1,1)] h (DL type105) underlying105 ⟨V,A2 type57,V,A2 type103,trivial⟩ V V) (JS.box (v:=.agg #[sV ap p Z,.map (some r1)]) V V V be V λcp bi=>?_);refine C 3 V (ED 1 bi V λct K bn bo=>?_);refine FU 5 λav=>Dw 0 av V V (KT 1 av (a4.M K) GB Es V V V ?_);refine Fs 4 av 0 (hi.M K) By V V V V ?_;let⟨a0,bv,bw⟩:=bs ay;refine JG.call (i:=2) (vs:=[.agg #[sV a1 O.1 c2,sV am O.2 aq]]) (gj (a5.M K) (a6.M K) bv) (by decide+kernel) V V V (Be func46 V) V bo ?_;rintro _ cw _ U ⟨bx,bz,rfl,rfl,b0⟩ b1;refine JG.one (i:=3) V (by decide+kernel) (Take.FC (pp:=(rL (rM rI false rI false))) [sV bx a0 bz] ([a0]:List (List AV)) b1 V V V underlying110 KC Ov (by decide) V V V ⟨⟨_,_,V,b0⟩,trivial⟩ λcy c0 b2 b3=>?_);refine Dl [5,6] (CH 3 b2 b3 V λc1 Y b4 b5=>?_);let⟨b6,ca,cc⟩:=bs bw;refine Cr 0 (fb b4 (bn.M (U.Ad Y)) (a3.M ((K.Ad U).Ad Y)) BW.nil ca) V V (Be func45 V) b5 V ?_;rintro _ c3 _ aw ⟨c4,c5,c6,rfl,rfl,ce,ci,c7⟩ c8;refine C 3 V ?_;have co:r=b6.1:=(f5 cc).symm;subst co;refine JL.region (Zp (kk:=j) V V V V V ?_);refine C 3 V (JL.defer (vs:=[.pointer (some F.uA)]) V V V V V ?_);refine C 2 V (DC 0 (a7.M (((K.Ad U).Ad Y).Ad aw)) F3 V V V ?_);refine DC 0 (hi.M (((K.Ad U).Ad Y).Ad aw)) By V V V (C 1 V ?_);refine Al (v:=As F.fd j) V (λρ h=>Yl.to (EH (xs:=List.replicate F.n ()) (m:=((j:Nat):Int)) (xv:=()) (rU) (by simp[ix,az]) underlying25 GC (h _ _ V) (h _ _ V)) (by show As F.fd (j*1)=_;rw[Nat.mul_one])) (Yy (kk:=j) De.stop V az V V V V GC iw V V (a8 _ _ _ (((K.Ad U).Ad Y).Ad aw) ce ci) ?_);exact JL.done (JL.out V (JO.bZ (kk:=j) V V (JO.iJ Tryz.LG V V (JO.leaveD V func43 V (.inr V) Yq))))
variable{c:Nat}
theorem OL.dU{e:TypeId}{E:LH}{r:Nat}{seg:Seg}{xs:Lv_}(h:OL e rV E (A7 r) c seg xs)(Y:c=xs.length):seg=[(r,.cells xs.toArray e (0,0))]:=by
 obtain⟨wss,ag,K,Z⟩:=h;rcases ag with⟨ai,_⟩ | ⟨bk,f,al,e2,ac,am,O⟩;cases ai
 cases al;have hw:wss=xs.map λx=>[x]:=by
  apply qN;intro i;rw[qe];cases U:xs[i]? with
  | none=>rw[pU (by rw[K];exact List.getElem?_eq_none_iff.1 U)];rfl
  | some x=>
   have hi:i<wss.length:=by rw[K];exact(fx.1 U).1
   have:=(Z i x wss[i] U (d6 hi)).1;rw[d6 hi,this];rfl
 have ap:wss.flatten=xs:=by
  rw[hw];clear hw O Z K ac am Y
  induction xs with
  | nil=>rfl
  | cons x xs aq=>simp[aq]
 rw[ap] at O;have aw:rV.n=1:=V;have av:f.toList=xs:=by
  rw[O];rw[qJ (by rw[sY,ac,Y];exact no _)]
 rw[e2,← av]
noncomputable def LK:Code:=match(Tryz.f24.body).bind (Kn 0) with | some (.loop c)=>c | _=>.skip
noncomputable def Xx:Code:=match(Tryz.f24.body).bind (Kn 2) with | some (.loop c)=>c | _=>.skip
variable{n:Nat}{xs:Nat->List Int}{H:LH}{k:Li_}{cs:Lf_}
set_option maxHeartbeats 1000000 in
theorem dL(av:F.n=n)(bw:0<n)(bx:n<=1000){E:LH}{ai:Aw}{am:Nat}(aw:Ap AE E ap al p)(ay:Ap (rL rI) E a1 c2 O.1)(az:Ap AE E ai am O.2)(hlen:p.length=n){Y:Nat}(a0:At E Y 0 [.slice ap p.length al])(a2:At E Z 0 [sV a1 O.1 c2,sV ai O.2 am])(a3:At E kf 0 [.slice (some ⟨F.fd,0,none⟩) F.n F.n])(a4:∀j,j<n->JH fu_ O p j=some (xs j))(a5:∀j,j<n->∀E' a c,Ap rI E' a c (xs j)->(xs j=[]->a=none)->F.msg j (.slice a (xs j).length c) E')(ac:j<n){ag:LH}(hle:Le E ag)(a6:Aq ag H [])
  (h:∀U,Le E U->Aq U H []->JL (A0 Tryz.prog true) (Stop Tryz.prog F (F.EZ j)) (base 24) Tryz.f24.ntmps [(2,As Z 0),(3,As Y 0),(6,.pointer (some F.uA)),(7,.pointer (some F.sA)),(8,As kf 0),(19,iV (p.length:Int)),(20,iV ((j+1:Nat):Int))] [] (.inLoop LK::k) cs (Aj U H [])):
  JL (A0 Tryz.prog true) (Stop Tryz.prog F (.GW j)) (base 24) Tryz.f24.ntmps [(2,As Z 0),(3,As Y 0),(6,.pointer (some F.uA)),(7,.pointer (some F.sA)),(8,As kf 0),(19,iV (p.length:Int)),(20,iV ((j:Nat):Int))] [] (.code LK:: .inLoop LK::k) cs (Aj ag H []):=by
 refine C 2 V (Al (v:=.bool true) V (λρ h=>Yl.to (Yl.lss (h _ _ V) (h _ _ V)) (by rw[qf (show((j:Nat):Int)<(p.length:Int) by omega)])) ?_);refine C 9 V (Cd a6 Dh λrn a7=>?_);refine JS.sx 0 a7 AW λa8=>?_;refine ED 0 a8 V λU a9 bb be=>IL (S':=[]) (by simp) be λbi=>?_;have K:=hle.trans a9;refine C 3 V (Zw Tryz.LG V V V V V V ?_);refine C 2 V (Al (v:=.func (.func 43) #[] ([.pointer (some F.sA),As Y 0,As Z 0,As rn 0,.pointer (some F.uA),As kf 0]:Lv_).toArray) V (λρ h=>Mr (by simp) (by simp[h (.tmp 7) _ rfl,h (.tmp 3) _ rfl,h (.tmp 2) _ rfl,h (.tmp 9) _ rfl,h (.tmp 6) _ rfl,h (.tmp 8) _ rfl])) ?_);have aq:=gH (F:=F) (j:=j) (a0.M K) (aw.M K) (a2.M K) (ay.M K) (az.M K) bb (a3.M K) (a4 j ac) (by rw[av];exact ac) (λE' a c _ bn bo=>a5 j ac E' a c bn bo);refine fY (fi:=#[]) V V V V V V V (by first | exact aq | (simp only[List.append_toArray,qr,sn,Array.empty_append];exact aq)) ?_
 refine C 3 V ?_;have bv:Au (((j:Nat):Int)+1)=some (((j+1:Nat)):Int):=by unfold Au;rw[eS (by omega)];simp
 refine Bz bv V V V (C 2 V ?_);exact AF (h U K bi) V
theorem YI(Y:F.n=n)(av:0<n)(aw:n<=1000){E:LH}{ag:Aw}(ay:Ap AE E ap ai p)(az:Ap (rL rI) E a1 c2 O.1)(a0:Ap AE E ag al O.2)(hlen:p.length=n)(a2:At E Z 0 [.slice ap p.length ai])(a3:At E ac 0 [sV a1 O.1 c2,sV ag O.2 al])(a4:At E kf 0 [.slice (some ⟨F.fd,0,none⟩) F.n F.n])(a5:∀j,j<n->JH fu_ O p j=some (xs j))(a6:∀j,j<n->∀E' a c,Ap rI E' a c (xs j)->(xs j=[]->a=none)->F.msg j (.slice a (xs j).length c) E')
  (h:∀K,Le E K->Aq K H []->JL (A0 Tryz.prog true) (Stop Tryz.prog F .DF) (base 24) Tryz.f24.ntmps [(2,As ac 0),(3,As Z 0),(6,.pointer (some F.uA)),(7,.pointer (some F.sA)),(8,As kf 0),(19,iV (p.length:Int)),(20,iV (p.length:Int))] [] (.code LK:: .inLoop LK::k) cs (Aj K H [])):
  ∀(m j:Nat),j+m=n->0<m->∀U,Le E U->Aq U H []->JL (A0 Tryz.prog true) (Stop Tryz.prog F (.GW j)) (base 24) Tryz.f24.ntmps [(2,As ac 0),(3,As Z 0),(6,.pointer (some F.uA)),(7,.pointer (some F.sA)),(8,As kf 0),(19,iV (p.length:Int)),(20,iV ((j:Nat):Int))] [] (.code LK:: .inLoop LK::k) cs (Aj U H []):=by
 intro m
 induction m with
 | zero=>intro j _ a7;cases a7
 | succ m a8=>
  intro j be _ U hle a9;refine dL Y av aw ay az a0 hlen a2 a3 a4 a5 a6 (by omega) hle a9 λK am aq=>JL.again ?_;by_cases hm:m=0
  .subst hm;have bb:j+1=F.n:=by rw[Y];omega
   have e:F.EZ j=.DF:=by unfold Fam.EZ;rw[eS bb]
   rw[e];have e2:((j+1:Nat):Int)=(p.length:Int):=by rw[hlen];omega
   rw[e2];exact h K am aq
  .have e:F.EZ j=.GW (j+1):=by unfold Fam.EZ;rw[d9 (by rw[Y];omega)]
   rw[e];exact a8 (j+1) (by omega) (by omega) K am aq
def Kp(fu_:Nat)(K:Bq)(p:AH)(j:Nat):List Int:=(JH fu_ K p j).getD []
def ML(n:Nat)(xs:Nat->List Int):(List Int)×Bool:=match(List.range n).find? (λj=> !(xs j).isEmpty) with | some j=>(xs j,true) | none=>([],false)
def f77(fu_:Nat)(K:Bq)(p:AH):Option ((List Int)×Bool):=if p.length=0 then some ([],true) else if p.length<=1000/\(List.range p.length).all (λj=>(JH fu_ K p j).isSome)=true then some (ML p.length (Kp fu_ K p)) else none
theorem ZC{i:Nat}(hi:i<n)(K:xs i≠ [])(O:∀k,k<i->xs k=[]):ML n xs=(xs i,true):=by
 unfold ML;have:(List.range n).find? (λj=> !(xs j).isEmpty)=some i:=by
  rw[qP];refine⟨by simp[K],by simpa using hi,λj U=>by simp[O j U]⟩
 rw[this]
theorem Zm(K:∀k,k<n->xs k=[]):ML n xs=([],false):=by
 unfold ML;have:(List.range n).find? (λj=> !(xs j).isEmpty)=none:=by
  rw[q6];intro j O;simp[K j (pw.1 O)]
 rw[this]
theorem dE{E:LH}{a:Aw}{xs:List Int}(h:Ap rI E a c xs)(K:xs≠ []):a.isNone=false:=by
 rcases h.2 with⟨e,_⟩ | ⟨bk,off,e,_⟩;exact absurd e K;rw[e];rfl
set_option maxHeartbeats 1000000 in
theorem dR{J:Judge Tryz.prog}{Q:Gs_}{Y:Frame}{fd:Nat}{f:Nat->Value}(aw:n<=1000){E:LH}(ag:Aq E H [[(fd,.cells (Array.ofFn λi:Fin n=>f i) 22 (0,0))]])(hm:∀k,k<n->∃a c,f k=.slice a (xs k).length c/\Ap rI E a c (xs k)/\(xs k=[]->a=none))
  (ai:∀i a c L',i<n->xs i≠ []->(∀k,k<i->xs k=[])->Ap rI E a c (xs i)->look L' 4=some (.slice a (xs i).length c)->look L' 5=some (.bool true)->∀k',JL J Q (base 24) Tryz.f24.ntmps L' [] (.code .ret::k') (Y::cs) (Aj E H [[(fd,.cells (Array.ofFn λi:Fin n=>f i) 22 (0,0))]]))
  (al:(∀k,k<n->xs k=[])->JL J Q (base 24) Tryz.f24.ntmps [] [] k (Y::cs) (Aj E H [[(fd,.cells (Array.ofFn λi:Fin n=>f i) 22 (0,0))]])):
  ∀m i,i+m=n->(∀k,k<i->xs k=[])->JL J Q (base 24) Tryz.f24.ntmps [(27,.slice (A7 fd) n n),(28,iV (n:Int)),(29,iV (i:Int))] [] (.code Xx:: .inLoop Xx:: .inBlock 2::k) (Y::cs) (Aj E H [[(fd,.cells (Array.ofFn λi:Fin n=>f i) 22 (0,0))]]):=by
 intro m
 induction m with
 | zero=>
  intro i hi K;refine C 2 V (Al (v:=.bool false) V (λρ h=>Yl.to (Yl.lss (h _ _ V) (h _ _ V)) (by rw[p5 (show ¬((i:Int)<(n:Int)) by omega)])) ?_);refine C 4 V (EV [] V ?_);exact al λk ay=>K k (by omega)
 | succ m am=>
  intro i hi K;have O:i<n:=by omega
  let⟨a,c,ap,ac,aq⟩:=hm i O;refine C 2 V (Al (v:=.bool true) V (λρ h=>Yl.to (Yl.lss (h _ _ V) (h _ _ V)) (by rw[qf (show(i:Int)<(n:Int) by omega)])) ?_);refine C 8 V (Al (v:=As fd i) V (λρ h=>Yl.to (EH (xs:=List.replicate n ()) (m:=((i:Nat):Int)) (xv:=()) (rU) (by simp[ix,O]) underlying25 GC (h _ _ V) (h _ _ V)) (by show As fd (i*1)=_;rw[Nat.mul_one])) ?_);refine Al (v:=.slice a (xs i).length c) V (λρ h=>Yl.load J1 (h _ _ V) (B6 (j:=0) (off:=i) ag V (by simp[O,ap]))) (C 5 V ?_);refine Al (v:=.bool (!a.isNone)) V (λρ h=>YX underlying22 (h _ _ V) (h _ _ V)) (JL.done ?_);by_cases U:xs i=[]
  .have Z:(!a.isNone)=false:=by rw[aq U];rfl
   rw[Z];refine C 4 V ?_;have av:Au (((i:Nat):Int)+1)=some (((i+1:Nat)):Int):=by unfold Au;rw[eS (by omega)];simp
   refine Bz av V V V ?_;refine C 2 V ?_;refine JL.again ?_;refine Fz ?_ (am (i+1) (by omega) (λk az=>by
    by_cases e:k=i;subst e;exact U
    .exact K k (by omega)))
   exact⟨V,V,V,trivial⟩
  .have Z:(!a.isNone)=true:=by rw[dE ac U];rfl
   rw[Z];exact C 7 V (ai i a c _ O U K ac V V _)
set_option maxHeartbeats 2000000 in
theorem gY{E:LH}{a7:Aw}{a8 a9:Nat}(ca:Ap (rL rI) E a1 c2 O.1)(cc:Ap AE E a7 a8 O.2)(ce:Ap AE E ap a9 p){r:(List Int)×Bool}(U:f77 fu_ O p=some r):
  A6 (Ho Tryz.prog) 24 [.agg #[sV a1 O.1 c2,sV a7 O.2 a8],sV ap p a9] E [] (λw E' B'=>∃(bb:Aw) (be:Nat),w=.tuple #[sV bb r.1 be,.bool r.2]/\B'=[]/\Ap rI E' bb be r.1):=by
 refine SC func24 V V λQ ew cs H ci Y=>?_;unfold f77 at U;refine C 2 V (Ew ci λco ex cp ct cw=>?_);refine Ew cw λcy ey bi al c0=>?_;refine IL (S':=[]) (by simp) c0 λbn=>?_;have bo:=cp.Ad bi;refine C 6 V (DC 0 al Bx V V V ?_);refine JL.ln underlying57 V V V (C 2 V ?_);refine GN (p:=(p.length:Int)=0) V (λc1=>?_) (λc1=>?_);rw[eS (by omega)] at U;have Z:=(f5 U).symm;subst Z;refine C 5 V (Ba func24 V V ?_);exact Y _ _ _ _ bo V ⟨none,0,V,V,Ap.nil⟩ bn
 rw[d9 (by omega)] at U;split at U
 rotate_left
 .cases U
 rename_i hb;obtain⟨bv,c3⟩:=hb;have Z:=(f5 U).symm;have ag:∀j,j<p.length->JH fu_ O p j=some (Kp fu_ O p j):=λj ay=>by
  have am:=pJ.1 c3 j (pw.2 ay);let⟨x,az⟩:=sj.1 am;unfold Kp;rw[az];rfl
 generalize eA:Kp fu_ O p=xs at ag Z;have bw:0<p.length:=by omega
 refine C 3 V (Cd bn (DL type94) λmu c4=>?_);refine C 3 V (Cd c4 (DL type100) λwg c5=>?_);refine JL.done (IL (S':=[[(mu,.cells #[.int .i32 0,.int .u32 0] 94 (0,0))],[(wg,.cells #[.int .u64 0,.int .u32 0] 100 (0,0))]]) (by simp[Value.cells]) c5 λc6=>?_);refine C 2 V (DC 0 al Bx V V V ?_);refine JL.ln underlying57 V V V ?_;have c7:LF (p.length:Int) (Value.slice none 0 0)=some (List.replicate p.length nS):=by unfold LF;rw[eS (by omega)];simp
 refine JS.make (pp:=rV) c7 V V V V V underlying25 GC (EG type22) (by decide) Nj (by decide) ⟨V,V⟩ c6 λfd eC c8 bx=>?_;have c9:=OL.dU c8 V;subst c9;obtain⟨K,bz⟩:∃K,K=List.replicate p.length (Value.slice none 0 0):=⟨_,V⟩;have b0:(List.replicate p.length (Value.slice none 0 0)).length=p.length:=by simp
 rw[← bz] at bx b0 ⊢;rw[b0];refine Cd bx (DL type25) λkf dd=>?_;refine JS.sx 3 dd FP λdj=>?_;refine ED 3 dj V λac aq b1 ea=>IL (S':=[[(mu,.cells #[.int .i32 0,.int .u32 0] 94 (0,0))],[(wg,.cells #[.int .u64 0,.int .u32 0] 100 (0,0))],[(fd,.cells K.toArray 22 (0,0))]]) (by simp) ea λai=>?_;have av:=bo.Ad aq;refine C 4 V (DC 0 (al.M aq) Bx V V V ?_);refine JL.ln underlying57 V V V (C 3 V ?_);refine Jo (EV [(2,As co 0),(3,As cy 0),(6,.pointer (some (⟨mu,0,none⟩:Addr))),(7,.pointer (some (⟨wg,0,none⟩:Addr))),(8,As kf 0),(19,iV (p.length:Int)),(20,iV ((0:Nat):Int))] V ?_);have b2:=Nd.iff.1 ai;intro T eb;let F:Fam:=⟨wg,mu,fd,100,94,22,p.length,λkk v E=>kk<p.length/\∃a c,v=.slice a (xs kk).length c/\Ap rI E a c (xs kk)/\(xs kk=[]->a=none),λg s=>(Ho Tryz.prog).ok Q g s⟩;have aw:=b2.1;simp only[pY,sJ,pG,qQ,qr,pW,th,rH,iO,pn,not_or,qu,not_false_eq_true,tH,s0] at aw;have ec:(Aj ac H [[(mu,.cells #[.int .i32 0,.int .u32 0] 94 (0,0))],[(wg,.cells #[.int .u64 0,.int .u32 0] 100 (0,0))],[(fd,.cells K.toArray 22 (0,0))]]).H fd=some (F.Jg λ_=>nS):=by
  rw[KX (j:=2) ai rfl];have:(Array.ofFn λ_:Fin p.length=>Value.slice none 0 0)=K.toArray:=by
   rw[bz];apply Array.ext;simp;intro i am b3;simp
  show some (Obj.cells K.toArray 22 (0,0))=some (Obj.cells (Array.ofFn λ_:Fin p.length=>Value.slice none 0 0) 22 (0,0));rw[this]
 refine dJ F (f₀:=λ_=>.slice none 0 0) (show 1<=p.length by omega) (show p.length<134217728 by omega) ?_ aw.1.1 (λe=>aw.2 e.symm) (λe=>aw.1.2 e.symm) (KX (j:=1) ai V) (KX (j:=0) ai V) ec ?_ (λg s h=>h);rintro kk v eN e0 ed ⟨am,a,c,b3,a0,a2⟩;exact⟨am,a,c,b3,a0.M ed,a2⟩
 have ee:=YJ ai;show Way Tryz.prog true (Stop Tryz.prog F (.GW 0)) _ (⟨(Aj ac H [[(mu,.cells #[.int .i32 0,.int .u32 0] 94 (0,0))],[(wg,.cells #[.int .u64 0,.int .u32 0] 100 (0,0))],[(fd,.cells K.toArray 22 (0,0))]]).E,KP (Aj ac H [[(mu,.cells #[.int .i32 0,.int .u32 0] 94 (0,0))],[(wg,.cells #[.int .u64 0,.int .u32 0] 100 (0,0))],[(fd,.cells K.toArray 22 (0,0))]]).H wg mu fd,false⟩:St);rw[show(Aj ac H [[(mu,.cells #[.int .i32 0,.int .u32 0] 94 (0,0))],[(wg,.cells #[.int .u64 0,.int .u32 0] 100 (0,0))],[(fd,.cells K.toArray 22 (0,0))]]).E=ac from rfl,ee];have ef:Aq ac H []:=trivial;have eg:H fd=none:=(b2.2 (fd,.cells K.toArray 22 (0,0)) (by simp)).2;refine YI (F:=F) (n:=p.length) V bw bv (ce.M av) (ca.M av) (cc.M av) V (al.M aq) (ct.M (bi.Ad aq)) b1 ag (λj ay E' a c ej ek=>⟨ay,a,c,V,ej,ek⟩) (λel b4 e1=>?_) p.length 0 (by omega) bw ac AQ ef T eb;refine C 2 V ?_;refine Al (v:=.bool false) V (λρ h=>Yl.to (Yl.lss (h _ _ V) (h _ _ V)) (by rw[p5 (show ¬((p.length:Int)<(p.length:Int)) by omega)])) ?_;refine C 6 V ?_;refine JL.wait Tryz.LG (F:=F) (show p.length<2147483648 by omega) V V V V V (Q:=Q) (λg s h=>h) λa3 f b5 em e3 eo=>?_;have a4:Aq a3 H [[(fd,F.Jg f)]]:=Nd.iff.2 ⟨by simp,λq ag=>by
  simp at ag;subst ag;exact⟨em,eg⟩⟩
 have es:(⟨a3,F.KR (Aj el H []).H f,false⟩:St)=Aj a3 H [[(fd,F.Jg f)]]:=by
  unfold Aj mk;congr 1
 rw[es];have b6:=(av.Ad b4).Ad b5;refine C 4 V (DC 0 (b1.M (b4.Ad b5)) F3 V V V ?_);refine JL.ln underlying25 V V V (C 3 V ?_);refine Jo (EV [(27,.slice (A7 fd) p.length p.length),(28,iV (p.length:Int)),(29,iV ((0:Nat):Int))] V ?_);refine dR (n:=p.length) (f:=f) (xs:=xs) bv a4 (λk Y=>?_) (λi a c L' hi az a5 ep a0 a2 k'=>?_) (λa5=>?_) p.length 0 (by omega) (λk Y=>absurd Y (Nat.not_lt_zero _));let⟨_,a,c,er,e2,eu⟩:=eo k Y;exact⟨a,c,er,e2,eu⟩;rw[ZC hi az a5] at Z;subst Z;exact JL.ret (v:=.tuple #[.slice a (xs i).length c,.bool true]) V V (BO.list func24 V (vs:=[.slice a (xs i).length c,.bool true]) ⟨a0,a2,trivial⟩) (T3 a4 λa6=>Y _ _ _ _ b6 V ⟨a,c,V,V,ep⟩ a6);rw[Zm a5] at Z;subst Z;refine C 5 V (Ba func24 V V ?_);exact T3 a4 λa6=>Y _ _ _ _ b6 V ⟨none,0,V,V,Ap.nil⟩ a6
end Pal
namespace Pal
open Go Go.Conc Go.Proofs
open Go.Proofs.Tryz
def PV(fu_:Nat)(Z:Bq×Int)(O:AL)(K:Int):Option (Bj Int ((AH×(List Int)×Int)⊕(Unit))):=if K<(O.length:Int) then((ix O K).bind λU=>(f77 fu_ Z.1 U).bind λY=>if Y.2=true then(some (.done (Sum.inl (U,Y.1,0)))) else((Au (K+1)).bind λac=>some (.more ac))) else(some (.done (Sum.inr ())))
def f27(fu_:Nat)(p0:Bq):Option (AH×(List Int)×Int):=(f70 fu_ p0 ([])).bind λK=>if K.2≠0 then(some ([],[],K.2)) else((f71 fu_ K.1 0).bind λO=>(f76 fu_ O).bind λU=>Option.bind (iter (PV fu_ K U) fu_ 0) λY=>Sum.elim (λr=>some r) (λZ=>some ([],[],11)) Y)
variable{a1:Aw}{c2 fu_:Nat}
theorem Xf{E:LH}{ai:Aw}{al:Nat}{p0:Bq}(cc:Ap (rL rI) E a1 c2 p0.1)(ce:Ap AE E ai al p0.2){r:AH×(List Int)×Int}(a7:f27 fu_ p0=some r):A6 (Ho Tryz.prog) 8 [.agg #[sV a1 p0.1 c2,sV ai p0.2 al]] E [] (λw E' B'=>∃(a8:Aw) (a9:Nat) (bb:Aw) (be:Nat),w=.tuple #[sV a8 r.1 a9,sV bb r.2.1 be,iV r.2.2]/\B'=[]/\Ap AE E' a8 a9 r.1/\Ap rI E' bb be r.2.1):=by
 refine Bu func8 λQ fv cs H ci a0=>?_;unfold f27 at a7;refine C 2 V (Ew ci λco fw Y cp ct=>?_);refine C 6 V (Du cp Gm DK V V ?_);let⟨K,cw,cy⟩:=bs a7;refine Cl (MN (cc.M Y) (ce.M Y) Ap.nil cw) V V Mk ct ?_;rintro _ fN _ a2 ⟨am,ap,aq,av,rfl,rfl,bi,bn⟩ c0;refine C 3 V (Cd c0 ID λbo c1=>?_);refine JS.sx 3 c1 Es λc3=>?_;refine ED 3 c3 V λgc O bv bw=>C 8 V (A4 cy (λc4 c5=>?_) (λc4 c6=>?_));refine C 7 V ?_;cases c5;exact Ba func8 V V (a0 ((Y.Ad a2).Ad O) V ⟨none,0,none,0,V,V,Ap.nil,Ap.nil⟩ bw);refine C 3 V (Du bv GB Es V V ?_);let⟨ge,c7,c8⟩:=bs c6;refine Cl (SI (bi.M O) (bn.M O) c7) V V QP bw ?_;rintro _ gg gh Z ⟨aw,ay,_,rfl,rfl,c9⟩ dd;let⟨ac,dj,ea⟩:=bs c8;refine C 5 V (Cr 4 (eI c9 dj) V V (Be func23 V) dd V ?_);rintro _ eb ec ag ⟨rfl,ed,a3⟩ ee;refine Fz (L':=[(23,.tuple #[]),(0,.agg #[.slice a1 p0.1.length c2,.slice ai p0.2.length al]),(1,As co 0),(2,.slice none 0 0),(3,.slice none 0 0),(4,iV 0),(13,.agg #[.slice a1 p0.1.length c2,.slice ai p0.2.length al]),(14,.tuple #[.agg #[.slice am K.1.1.length ap,.slice aq K.1.2.length av],iV K.2]),(12,.tuple #[.agg #[.slice am K.1.1.length ap,.slice aq K.1.2.length av],iV K.2]),(15,.agg #[.slice am K.1.1.length ap,.slice aq K.1.2.length av]),(16,iV K.2),(5,As bo 0),(6,iV K.2),(17,iV K.2),(18,.bool (decide (K.2≠0))),(20,.agg #[.slice am K.1.1.length ap,.slice aq K.1.2.length av]),(21,.slice aw ac.length ay),(7,.slice aw ac.length ay),(22,.slice aw ac.length ay)]) ⟨V,V,V,V,V,V,V,V,V,V,V,V,V,V,V,V,by rw[a3];rfl,by rw[a3];rfl,by rw[a3];rfl,trivial⟩ ?_;refine C 5 V (JL.ln underlying60 V V V ?_);let⟨bx,ef,bz⟩:=bs ea;refine C 2 V (BF (λL s=>∃(b0:Unit) (b1:LH),bx=Sum.inr b0/\Jm eb H b1 [] [] L s) ?_ ?_);rintro _ _ ⟨b0,b1,rfl,rfl,rfl,eg,ej⟩;have ek:=elim_inr bz;refine C 6 V ?_;cases ek;exact Ba func8 V V (a0 (((((Y.Ad a2).Ad O).Ad Z).Ad ag).Ad eg) V ⟨none,0,none,0,V,V,Ap.nil,Ap.nil⟩ ej);intro el;refine JL.block (Ez ef (λa4=>[ec]) (λa4=>[(5,As bo 0),(24,sV aw ac ay),(25,iV (ac.length:Int)),(26,iV a4)]) AQ ee ?_);rintro a4 em U a5 b2 ⟨gt,az⟩ eo;have b3:=az;unfold PV at b3;refine C 5 V (A4 b3 (λep er=>?_) (λep eu=>?_));let⟨ew,ex,ey⟩:=bs er;refine C 5 V (Pm 0 (ed.M U) ex V V V V V V underlying60 AU ?_);rintro gB gE f93 _ eA ⟨b4,b5,rfl,b6⟩ eC gO g1 g3 g4;refine Al (v:=sV b4 ew b5) V (λρ h=>Yl.load Bx (h _ _ V) (B6 (j:=0) a5 eA (eC 0 _ V))) (C 4 V ?_);refine Du (bv.M ((Z.Ad ag).Ad U)) GB Es V V ?_;let⟨g5,eN,e0⟩:=bs ey;refine C 1 V (Cl (gY (bi.M (((O.Ad Z).Ad ag).Ad U)) (bn.M (((O.Ad Z).Ad ag).Ad U)) b6 eN) V V (Be func24 V) a5 ?_);rintro _ g6 _ a6 ⟨e1,e3,rfl,rfl,e4⟩ ca;refine C 10 V (CO e0 (λe5 e6=>?_) (λe5 e7=>?_));refine C 8 V (JS.drop 0 ca V λe8=>?_);cases e6;obtain rfl:=b2 _ az;have ff:=elim_inl bz;cases ff;exact Ba func8 V V (a0 ((((((Y.Ad a2).Ad O).Ad Z).Ad ag).Ad U).Ad a6) V ⟨b4,b5,e1,e3,V,V,(b6.M a6),e4⟩ e8);let⟨fk,fl,fm⟩:=bs e7;refine C 3 V (Bz fl V V V ?_);refine C 2 V ?_;cases fm;exact eo fk (U.Ad a6) ca V az;refine JL.exit V (JS.drop 0 a5 V λfo=>?_);cases eu;have fs:bx=(Sum.inr ()):=(b2 _ az).symm;exact AF (el _ _ ⟨(),em,fs,V,V,U,fo⟩) V
variable {J:Judge Tryz.prog}
variable {E:LH}
def WO(fu_:Nat)(p0:List Int)(K:AH×Int):Option (Bj (AH×Int) (AH)):=(Au (K.2+2)).bind λO=>if O<(p0.length:Int) then((ix p0 K.2).bind λU=>(Au (K.2+1)).bind λY=>(ix p0 Y).bind λZ=>(Au (K.2+2)).bind λac=>(ix p0 ac).bind λag=>(Ey K.1 ([(U,Z,ag)]:AH)).bind λai=>(Au (K.2+3)).bind λal=>some (.more (ai,al))) else(some (.done K.1))
def f67(fu_:Nat)(p0:List Int):Option (AH):=Option.bind (iter (WO fu_ p0) fu_ ([],0)) λK=>some K
theorem Qk{p0:List Int}(ap:Ap rI E a1 c2 p0){r:AH}(a0:f67 fu_ p0=some r):A6 J 33 [sV a1 p0 c2] E [] (λw E' B'=>∃(a2:Aw) (a3:Nat) (g0:Seg),w= sV a2 r a3/\B'=g0/\OL 31 AE E' a2 a3 g0 r):=by
 refine Bu func33 λQ em cs H bb be=>?_;unfold f67 at a0;let⟨a4,bi,bn⟩:=bs a0;refine C 13 V (BF (λL s=>∃(aq:LH) (Y:Aw) (Z:Nat) (ac:Seg),Jn E H aq [ac] [(3,sV Y a4 Z)] L s (OL 31 AE aq Y Z ac a4)) ?_ ?_);rintro _ _ ⟨aq,Y,Z,ac,rfl,rfl,bo,bv,bw⟩;refine C 5 V ?_;cases bn;exact Ba func33 V V (be bo V ⟨Y,Z,ac,V,(by first | rfl | simp | (simp[Value.cells])),bw⟩ bv);intro bx;refine JL.block (Cv bi (λL s ag=>∃(ai:LH) (al:Aw) (am:Nat) (O:Seg),Jn E H ai [O] [(0,sV a1 p0 c2),(3,sV al ag.1 am),(4,iV ag.2)] L s (OL 31 AE ai al am O ag.1)) ⟨E,none,0,[],V,V,AQ,bb,OL.nil⟩ ?_);rintro _ _ ag ⟨ai,al,am,O,rfl,rfl,U,a5,a6⟩ bz ⟨eo,av⟩ b0;have a7:=av;unfold WO at a7;let⟨ep,b1,b2⟩:=bs a7;refine C 4 V (Bz b1 V V V ?_);refine C 1 V (JL.ln underlying22 V V V ?_);refine C 2 V (A4 b2 (λb3 b4=>?_) (λb3 b5=>?_));refine C 3 V (FU 17 λK=>?_);refine A5 K V [0,1,2] V ?_;let⟨aw,b6,ca⟩:=bs b4;refine F9 3 (ap.M U) b6 K underlying22 AW ?_;rintro er eu _ rfl cc;refine Fs 4 K 0 cc By V V V V (A5 K V [5,6] V ?_);let⟨ew,ce,ci⟩:=bs ca;refine AP 7 K V V (λρ h s' a8=>DO (h _ _ V) (h _ _ V) ce) ?_;let⟨ay,co,cp⟩:=bs ci;refine F9 8 (ap.M U) co K underlying22 AW ?_;rintro ex ey _ rfl ct;refine Fs 9 K 0 ct By V V V V (A5 K V [10,11] V ?_);let⟨eA,cw,cy⟩:=bs cp;refine AP 12 K V V (λρ h s' a8=>DO (h _ _ V) (h _ _ V) cw) ?_;let⟨az,c0,c1⟩:=bs cy;refine F9 13 (ap.M U) c0 K underlying22 AW ?_;rintro eC eN _ rfl c3;refine Fs 14 K 0 c3 By V V V V (AP (v:=.agg #[iV aw,iV ay,iV az]) 15 K V V (λρ h s' a8=>DR [(0,1),(1,1),(2,1)] h B5 underlying31 ⟨V,A2 type3,V,A2 type3,V,A2 type3,trivial⟩ V V) ?_);refine JG.one (i:=16) V (by decide+kernel) (Take.FC (pp:=AE) [.agg #[iV aw,iV ay,iV az]] ([(aw,ay,az)]:AH) a5 V V V underlying26 BJ B5 (by decide) V V V ⟨⟨_,_,V,V,⟨_,_,V,V,V⟩⟩,trivial⟩ λe0 c4 c5 c6=>?_);refine Dl [17,18] (B7 (S':=[O,c4]) V c6 λc7=>?_);refine CH 1 c5 c7 V λc8 a9 c9 dd=>?_;let⟨dj,ea,eb⟩:=bs c1;refine KM (pp:=AE) 0 ea V V V V V V V underlying26 underlying26 BJ (EG type31) B5 V (by decide) (by decide) (a6.M a9) c9 dd V λec ed ee ef eg=>?_;let⟨ej,ek,el⟩:=bs eb;refine C 5 V (Bz ek V V V ?_);refine C 2 V ?_;cases el;exact AF (b0 _ _ (dj,ej) ⟨c8,ec,ed,ee,V,V,(U.Ad a9),eg,ef⟩ av) V;refine JL.exit V ?_;cases b5;obtain rfl:=bz _ av;exact AF (bx _ _ ⟨ai,al,am,O,V,V,U,a5,a6⟩) V
def f110(fu_:Nat)(p0:List Int)(p1:List Int):Option (Bq):=(f67 fu_ ([0,1,5,1,2,5,2,3,2,0,3,1,3,1,1]:List Int)).bind λK=>(f67 fu_ p1).bind λO=>(Ey K O).bind λU=>some (([p0,[],([3]:List Int),([1]:List Int)]:Bt),U)
variable{kf:Nat}{r:Bq}
theorem Sj{av:Aw}{p0 p1:List Int}(a7:Ap rI E a1 c2 p0)(a8:Ap rI E av kf p1)(ay:f110 fu_ p0 p1=some r):A6 J 51 [sV a1 p0 c2,sV av p1 kf] E [] (λw E' B'=>∃(az:Aw) (a0:Nat) (a2:Aw) (a3:Nat),w=.agg #[sV az r.1 a0,sV a2 r.2 a3]/\B'=[]/\Ap (rL rI) E' az a0 r.1/\Ap AE E' a2 a3 r.2):=by
 refine Bu func51 λQ em cs H a9 bb=>?_;unfold f110 at ay;refine C 2 V (Cd a9 KB λY be=>?_);refine C 4 V (Gr (pp:=rI) [iV 3] [3] V V V underlying22 AW Dh (by decide) V V V ⟨V,trivial⟩ be λbi bn bo bv=>?_);refine Gr (pp:=rI) [iV 1] [1] V V V underlying22 AW Dh (by decide) V V V ⟨V,trivial⟩ bv λbw bx bz b0=>B7 (S':=[[],[(Y,.cells #[nS,nS] 28 (0,0))],bn,bx]) V b0 λb1=>CH 2 bo b1 V λeo ac b2 b3=>CH 3 (bz.M ac) b3 V λep ag b4 b5=>Gr (pp:=(rL rI)) [sV a1 p0 c2,nS,.slice (A7 bi) (([3]:List Int)).length 1,.slice (A7 bw) (([1]:List Int)).length 1] [p0,[],([3]:List Int),([1]:List Int)] V V V underlying25 GC Nj (by decide) V V V ⟨⟨_,_,V,(a7.M (ac.Ad ag))⟩,⟨_,_,V,Ap.nil⟩,⟨_,_,V,(b2.M ag)⟩,⟨_,_,V,b4⟩,trivial⟩ b5 λK ai b6 ca=>B7 (S':=[[],[(Y,.cells #[nS,nS] 28 (0,0))],[],[],ai]) V ca λcc=>Gr (pp:=rI) [iV 0,iV 1,iV 5,iV 1,iV 2,iV 5,iV 2,iV 3,iV 2,iV 0,iV 3,iV 1,iV 3,iV 1,iV 1] [0,1,5,1,2,5,2,3,2,0,3,1,3,1,1] V V V underlying22 AW Dh (by decide) V V V ⟨V,V,V,V,V,V,V,V,V,V,V,V,V,V,V,trivial⟩ cc λer eu ce ci=>CH 5 ce ci V λew al co cp=>?_;let⟨ex,ct,cw⟩:=bs ay;refine Cl (Qk co ct) V V Ow cp ?_;rintro _ ey cy am ⟨eA,eC,_,rfl,rfl,c0⟩ c1;refine B7 (S':=[[],[(Y,.cells #[nS,nS] 28 (0,0))],[],[],ai,[],cy]) V c1 λc3=>?_;let⟨eN,c4,c5⟩:=bs cw;refine C 1 V (Cl (Qk (a8.M (((ac.Ad ag).Ad al).Ad am)) c4) V V Ow c3 ?_);rintro _ e0 e1 ap ⟨e3,e4,_,rfl,rfl,c6⟩ c7;refine CH 7 c6 c7 V λe5 aq c8 c9=>?_;let⟨Z,dd,dj⟩:=bs c5;refine KM (pp:=AE) 6 dd V V V V V V V underlying26 underlying26 BJ (EG type31) B5 V (by decide) (by decide) (c0.M (ap.Ad aq)) c8 c9 V λO U ea eb ec=>B7 (S':=[[],[(Y,.cells #[nS,nS] 28 (0,0))],[],[],ai,[],ea,[]]) V ec λed=>Al (v:=.agg #[.slice (A7 K) (([p0,[],([3]:List Int),([1]:List Int)]:Bt)).length 4,sV O Z U]) V (λρ h=>DR [(0,1),(1,1)] h KB underlying28 ⟨V,A2 type25,V,A2 type26,trivial⟩ V V) (JS.sx 1 ed DK λee=>?_);refine JL.done (CH 4 (b6.M (((al.Ad am).Ad ap).Ad aq)) ee V λe6 a4 ef eg=>?_);refine CH 6 (eb.M a4) eg V λe7 a5 ej ek=>B7 (S':=[[],[(Y,.cells #[.slice (A7 K) (([p0,[],([3]:List Int),([1]:List Int)]:Bt)).length 4,sV O Z U] 28 (0,0))],[],[],[],[],[],[]]) V ek λa6=>?_;cases dj;refine JL.ret (v:=.agg #[.slice (A7 K) (([p0,[],([3]:List Int),([1]:List Int)]:Bt)).length 4,sV O Z U]) V V (BO.list func51 V (vs:=[.agg #[.slice (A7 K) (([p0,[],([3]:List Int),([1]:List Int)]:Bt)).length 4,sV O Z U]]) ⟨⟨_,V,Ld.many (vs:=[.slice (A7 K) (([p0,[],([3]:List Int),([1]:List Int)]:Bt)).length 4,sV O Z U]) Gm DK (GH (off:=0) 1 a6 V V)⟩,trivial⟩) (ES 1 a6 V λel=>?_);exact bb (((((((ac.Ad ag).Ad al).Ad am).Ad ap).Ad aq).Ad a4).Ad a5) V ⟨(A7 K),4,O,U,V,V,(ef.M a5),ej⟩ el
def f63(fu_:Nat):Option (Bq):=(f110 fu_ ([1,2,3]:List Int) ([])).bind λK=>some K
theorem Qb(ac:f63 fu_=some r):A6 J 26 [] E [] (λw E' B'=>∃(ag:Aw) (ai:Nat) (al:Aw) (am:Nat),w=.agg #[sV ag r.1 ai,sV al r.2 am]/\B'=[]/\Ap (rL rI) E' ag ai r.1/\Ap AE E' al am r.2):=by
 refine Bu func26 λQ bb cs H aq av=>?_;unfold f63 at ac;refine C 2 V (Cd aq KB λr1 aw=>?_);refine C 3 V (Gr (pp:=rI) [iV 1,iV 2,iV 3] [1,2,3] V V V underlying22 AW Dh (by decide) V V V ⟨V,V,V,trivial⟩ aw λbe bi ay az=>?_);refine CH 2 ay az V λbn a0 a1 a2=>?_;let⟨K,a3,a4⟩:=bs ac;refine Cl (Sj a1 Ap.nil a3) V V QK a2 ?_;rintro _ bo _ a5 ⟨O,U,Y,Z,rfl,rfl,a6,a7⟩ a8;refine JS.sx 1 a8 DK λap=>?_;refine JL.done ?_;obtain rfl:=(oi a4);refine JL.ret (v:=.agg #[sV O K.1 U,sV Y K.2 Z]) V V (BO.list func26 V (vs:=[.agg #[sV O K.1 U,sV Y K.2 Z]]) ⟨⟨_,V,Ld.many (vs:=[sV O K.1 U,sV Y K.2 Z]) Gm DK (GH (off:=0) 1 ap V V)⟩,trivial⟩) (ES 1 ap V λa9=>?_);exact av (a0.Ad a5) V ⟨O,U,Y,Z,V,V,a6,a7⟩ a9
def f64(fu_:Nat):Option (Bq):=(f110 fu_ ([]) ([])).bind λK=>some K
theorem iK(ac:f64 fu_=some r):A6 J 29 [] E [] (λw E' B'=>∃(ag:Aw) (ai:Nat) (al:Aw) (am:Nat),w=.agg #[sV ag r.1 ai,sV al r.2 am]/\B'=[]/\Ap (rL rI) E' ag ai r.1/\Ap AE E' al am r.2):=by
 refine Bu func29 λQ a5 cs H aq av=>?_;unfold f64 at ac;refine C 2 V (Cd aq KB λr1 aw=>?_);let⟨K,ay,az⟩:=bs ac;refine C 3 V (Cl (Sj Ap.nil Ap.nil ay) V V QK aw ?_);rintro _ a6 _ a0 ⟨O,U,Y,Z,rfl,rfl,a1,a2⟩ a3;refine JS.sx 1 a3 DK λap=>?_;refine JL.done ?_;obtain rfl:=(oi az);refine JL.ret (v:=.agg #[sV O K.1 U,sV Y K.2 Z]) V V (BO.list func29 V (vs:=[.agg #[sV O K.1 U,sV Y K.2 Z]]) ⟨⟨_,V,Ld.many (vs:=[sV O K.1 U,sV Y K.2 Z]) Gm DK (GH (off:=0) 1 ap V V)⟩,trivial⟩) (ES 1 ap V λa4=>?_);exact av a0 V ⟨O,U,Y,Z,V,V,a1,a2⟩ a4
def f65(fu_:Nat):Option (Bq):=(f110 fu_ ([5,1]:List Int) ([])).bind λK=>some K
theorem iu(ac:f65 fu_=some r):A6 J 30 [] E [] (λw E' B'=>∃(ag:Aw) (ai:Nat) (al:Aw) (am:Nat),w=.agg #[sV ag r.1 ai,sV al r.2 am]/\B'=[]/\Ap (rL rI) E' ag ai r.1/\Ap AE E' al am r.2):=by
 refine Bu func30 λQ bb cs H aq av=>?_;unfold f65 at ac;refine C 2 V (Cd aq KB λr1 aw=>?_);refine C 3 V (Gr (pp:=rI) [iV 5,iV 1] [5,1] V V V underlying22 AW Dh (by decide) V V V ⟨V,V,trivial⟩ aw λbe bi ay az=>?_);refine CH 2 ay az V λbn a0 a1 a2=>?_;let⟨K,a3,a4⟩:=bs ac;refine Cl (Sj a1 Ap.nil a3) V V QK a2 ?_;rintro _ bo _ a5 ⟨O,U,Y,Z,rfl,rfl,a6,a7⟩ a8;refine JS.sx 1 a8 DK λap=>?_;refine JL.done ?_;obtain rfl:=(oi a4);refine JL.ret (v:=.agg #[sV O K.1 U,sV Y K.2 Z]) V V (BO.list func30 V (vs:=[.agg #[sV O K.1 U,sV Y K.2 Z]]) ⟨⟨_,V,Ld.many (vs:=[sV O K.1 U,sV Y K.2 Z]) Gm DK (GH (off:=0) 1 ap V V)⟩,trivial⟩) (ES 1 ap V λa9=>?_);exact av (a0.Ad a5) V ⟨O,U,Y,Z,V,V,a6,a7⟩ a9
def f66(fu_:Nat):Option (AH):=(f67 fu_ ([0,1,1,0,2,3,0,3,2]:List Int)).bind λK=>some K
theorem iN{r:AH}(K:f66 fu_=some r):A6 J 32 [] E [] (λw E' B'=>∃(O:Aw) (U:Nat),w= sV O r U/\B'=[]/\Ap AE E' O U r):=by
 refine Bu func32 λQ a4 cs H Y Z=>?_;unfold f66 at K;refine C 6 V (Gr (pp:=rI) [iV 0,iV 1,iV 1,iV 0,iV 2,iV 3,iV 0,iV 3,iV 2] [0,1,1,0,2,3,0,3,2] V V V underlying22 AW Dh (by decide) V V V ⟨V,V,V,V,V,V,V,V,V,trivial⟩ Y λr1 g2 ac ag=>?_);refine CH 1 ac ag V λa5 ai al am=>?_;let⟨a6,ap,aq⟩:=bs K;refine Cl (Qk al ap) V V Ow am ?_;rintro _ a7 a8 av ⟨aw,ay,_,rfl,rfl,az⟩ a0;refine C 2 V (CH 2 az a0 V λa9 a1 a2 a3=>?_);cases aq;exact Ba func32 V V (Z ((ai.Ad av).Ad a1) V ⟨aw,ay,V,V,a2⟩ a3)
def WT(fu_:Nat)(p0:List Int)(p1:List Int)(K:Int):Option (Bj Int ((Bool)⊕(Unit))):=Option.bind (if K<(p0.length:Int) then(some (decide (K<(p1.length:Int)))) else(some false)) λO=>if O=true then((ix p0 K).bind λU=>(ix p1 K).bind λY=>if U≠Y then(some (.done (Sum.inl false))) else((Au (K+1)).bind λZ=>some (.more Z))) else(some (.done (Sum.inr ())))
def f29(fu_:Nat)(p0:List Int)(p1:List Int):Option Bool:=Option.bind (iter (WT fu_ p0 p1) fu_ 0) λK=>Sum.elim (λr=>some r) (λO=>some (decide ((p0.length:Int)=(p1.length:Int)))) K
variable{O:Aw}{U:Nat}
theorem Qe{p0 p1:List Int}(a5:Ap rI E a1 c2 p0)(a6:Ap rI E O U p1){r:Bool}(ap:f29 fu_ p0 p1=some r):A6 J 31 [sV a1 p0 c2,sV O p1 U] E [] (λw E' B'=>w=.bool r/\B'=[]):=by
 refine Bu func31 λQ c3 cs H a7 aq=>?_;unfold f29 at ap;let⟨av,a8,aw⟩:=bs ap;refine C 9 V (BF (λL s=>∃(ay:Unit) (az:LH),av=Sum.inr ay/\Jm E H az [] [(0,sV a1 p0 c2),(1,sV O p1 U)] L s) ?_ ?_);rintro _ _ ⟨ay,az,rfl,rfl,rfl,a9,bb⟩;have be:=elim_inr aw;refine C 3 V (JL.ln underlying22 V V V ?_);refine C 1 V (JL.ln underlying22 V V V ?_);refine C 3 V ?_;cases be;exact Ba func31 V V (aq a9 V ⟨V,V⟩ bb);intro bi;refine JL.block (Ez a8 (λac=>[]) (λac=>[(0,sV a1 p0 c2),(1,sV O p1 U),(5,iV ac)]) AQ a7 ?_);rintro ac ai Y a0 a2 ⟨c4,ag⟩ bn;have a3:=ag;unfold WT at a3;refine C 5 V (JL.ln underlying22 V V V ?_);let⟨bo,bv,bw⟩:=bs a3;refine C 2 V (IK [] (λL s=>∃(al:LH),Jm ai H al [] [(0,sV a1 p0 c2),(1,sV O p1 U),(5,iV ac),(15,.bool bo)] L s) ?_ ?_);rintro _ _ ⟨al,rfl,rfl,Z,am⟩;refine JL.done (CO bw (λbx bz=>?_) (λbx b0=>?_));refine C 4 V (FU 8 λK=>?_);refine A5 K V [0,1] V ?_;let⟨c5,b1,b2⟩:=bs bz;refine F9 2 (a5.M (Y.Ad Z)) b1 K underlying22 AW ?_;rintro c6 c7 _ rfl b3;refine Fs 3 K 0 b3 By V V V V (A5 K V [4,5] V ?_);let⟨c8,b4,b5⟩:=bs b2;refine F9 6 (a6.M (Y.Ad Z)) b4 K underlying22 AW ?_;rintro c9 dd _ rfl b6;refine Fs 7 K 0 b6 By V V V V (Dl [8] ?_);refine C 2 V (A4 b5 (λca cc=>?_) (λca ce=>?_));refine C 4 V ?_;cases cc;obtain rfl:=a2 _ ag;have ci:=elim_inl aw;cases ci;exact Ba func31 V V (aq (Y.Ad Z) V ⟨V,V⟩ am);let⟨co,cp,ct⟩:=bs ce;refine C 4 V (Bz cp V V V ?_);refine C 2 V ?_;cases ct;exact bn co (Y.Ad Z) am V ag;refine JL.exit V ?_;cases b0;have cw:av=(Sum.inr ()):=(a2 _ ag).symm;exact AF (bi _ _ ⟨(),al,cw,V,V,(Y.Ad Z),am⟩) V;intro a4;refine I2 10 bv (λcy c0=>?_) (λcy c1=>?_);refine C 2 V (JL.ln underlying22 V V V ?_);refine C 2 V ?_;cases c0;exact AF (a4 _ _ ⟨ai,V,V,AQ,a0⟩) V;refine C 5 V ?_;cases c1;exact AF (a4 _ _ ⟨ai,V,V,AQ,a0⟩) V
def P1(fu_:Nat)(p0:AH)(p1:AH)(K:Int):Option (Bj Int ((Bool)⊕(Unit))):=Option.bind (if K<(p0.length:Int) then(some (decide (K<(p1.length:Int)))) else(some false)) λO=>if O=true then((ix p0 K).bind λU=>(ix p1 K).bind λY=>if U≠Y then(some (.done (Sum.inl false))) else((Au (K+1)).bind λZ=>some (.more Z))) else(some (.done (Sum.inr ())))
def f26(fu_:Nat)(p0:AH)(p1:AH):Option Bool:=Option.bind (iter (P1 fu_ p0 p1) fu_ 0) λK=>Sum.elim (λr=>some r) (λO=>some (decide ((p0.length:Int)=(p1.length:Int)))) K
theorem SG{p0 p1:AH}(a7:Ap AE E a1 c2 p0)(a8:Ap AE E O U p1){r:Bool}(av:f26 fu_ p0 p1=some r):A6 J 10 [sV a1 p0 c2,sV O p1 U] E [] (λw E' B'=>w=.bool r/\B'=[]):=by
 refine Bu func10 λQ c5 cs H a9 aw=>?_;unfold f26 at av;let⟨ay,bb,az⟩:=bs av;refine C 9 V (BF (λL s=>∃(a0:Unit) (a2:LH),ay=Sum.inr a0/\Jm E H a2 [] [(0,sV a1 p0 c2),(1,sV O p1 U)] L s) ?_ ?_);rintro _ _ ⟨a0,a2,rfl,rfl,rfl,be,bi⟩;have bn:=elim_inr az;refine C 3 V (JL.ln underlying26 V V V ?_);refine C 1 V (JL.ln underlying26 V V V ?_);refine C 3 V ?_;cases bn;exact Ba func10 V V (aw be V ⟨V,V⟩ bi);intro bo;refine JL.block (Ez bb (λal=>[]) (λal=>[(0,sV a1 p0 c2),(1,sV O p1 U),(5,iV al)]) AQ a9 ?_);rintro al ap Y a3 a4 ⟨c6,am⟩ bv;have a5:=am;unfold P1 at a5;refine C 5 V (JL.ln underlying26 V V V ?_);let⟨bw,bx,bz⟩:=bs a5;refine C 2 V (IK [] (λL s=>∃(Z:LH),Jm ap H Z [] [(0,sV a1 p0 c2),(1,sV O p1 U),(5,iV al),(15,.bool bw)] L s) ?_ ?_);rintro _ _ ⟨Z,rfl,rfl,ac,aq⟩;refine JL.done (CO bz (λb0 b1=>?_) (λb0 b2=>?_));refine C 4 V (FU 8 λK=>?_);refine A5 K V [0,1] V ?_;let⟨ag,b3,b4⟩:=bs b1;refine F9 2 (a7.M (Y.Ad ac)) b3 K underlying26 BJ ?_;rintro c7 c8 _ ⟨_,_,rfl,rfl,⟨_,_,rfl,rfl,rfl⟩⟩ b5;refine KT 3 K b5 ER BJ V V V (A5 K V [4,5] V ?_);let⟨ai,b6,ca⟩:=bs b4;refine F9 6 (a8.M (Y.Ad ac)) b6 K underlying26 BJ ?_;rintro c9 dd _ ⟨_,_,rfl,rfl,⟨_,_,rfl,rfl,rfl⟩⟩ cc;refine KT 7 K cc ER BJ V V V (Dl [8] ?_);refine Al (v:=.bool (decide (ag≠ai))) V (λρ h=>VR (E:=Z) (E':=Z) (ws:=[iV ag.1,iV ag.2.1,iV ag.2.2]) (ws':=[iV ai.1,iV ai.2.1,iV ai.2.2]) (a:=ag) (b:=ai) hJ (by decide) (by decide+kernel) ⟨_,_,V,V,⟨_,_,V,V,V⟩⟩ ⟨_,_,V,V,⟨_,_,V,V,V⟩⟩ (h _ _ V) (h _ _ V)) (JL.done ?_);refine A4 ca (λce ci=>?_) (λce co=>?_);refine C 4 V ?_;cases ci;obtain rfl:=a4 _ am;have cp:=elim_inl az;cases cp;exact Ba func10 V V (aw (Y.Ad ac) V ⟨V,V⟩ aq);let⟨ct,cw,cy⟩:=bs co;refine C 4 V (Bz cw V V V ?_);refine C 2 V ?_;cases cy;exact bv ct (Y.Ad ac) aq V am;refine JL.exit V ?_;cases b2;have c0:ay=(Sum.inr ()):=(a4 _ am).symm;exact AF (bo _ _ ⟨(),Z,c0,V,V,(Y.Ad ac),aq⟩) V;intro a6;refine I2 10 bx (λc1 c3=>?_) (λc1 c4=>?_);refine C 2 V (JL.ln underlying26 V V V ?_);refine C 2 V ?_;cases c3;exact AF (a6 _ _ ⟨ap,V,V,AQ,a3⟩) V;refine C 5 V ?_;cases c4;exact AF (a6 _ _ ⟨ap,V,V,AQ,a3⟩) V
def f18(fu_:Nat):Option Bool:=(f63 fu_).bind λx1=>(f43 fu_ x1).bind λO=>(f63 fu_).bind λag=>(f33 fu_ ag).bind λU=>(f63 fu_).bind λai=>(f22 fu_ ai).bind λY=>(f63 fu_).bind λal=>(f24 fu_ al).bind λZ=>(f64 fu_).bind λam=>(f39 fu_ am).bind λac=>(f65 fu_).bind λap=>(f27 fu_ ap).bind λK=>Option.bind (if O.2=0 then(some (decide (U.2=0))) else(some false)) λaq=>Option.bind (if aq=true then(some (decide (Y.2=0))) else(some false)) λav=>Option.bind (if av=true then(some (decide (Z.2=0))) else(some false)) λaw=>Option.bind (if aw=true then(some (decide (ac.2=0))) else(some false)) λay=>Option.bind (if ay=true then(some (decide (K.2.2=0))) else(some false)) λaz=>Option.bind (if az=true then(some (decide (Z.1=16))) else(some false)) λa0=>Option.bind (if a0=true then((f29 fu_ O.1 ([(-6),1,3,2]:List Int)).bind λa1=>some a1) else(some false)) λa2=>Option.bind (if a2=true then((f29 fu_ U.1 ([1,2,3]:List Int)).bind λa3=>some a3) else(some false)) λa4=>Option.bind (if a4=true then((f66 fu_).bind λa5=>(f26 fu_ Y.1 a5).bind λa6=>some a6) else(some false)) λa7=>Option.bind (if a7=true then((f29 fu_ ac.1 ([0]:List Int)).bind λa8=>some a8) else(some false)) λa9=>Option.bind (if a9=true then((f67 fu_ ([0,2,6,2,3,3,3,1,1]:List Int)).bind λbb=>(f26 fu_ K.1 bb).bind λbe=>some be) else(some false)) λbi=>Option.bind (if bi=true then((f29 fu_ K.2.1 ([0,1,2]:List Int)).bind λbn=>some bn) else(some false)) λbo=>some bo
theorem Xa{E:LH}{r:Bool}(b1:f18 fu_=some r):A6 (Ho Tryz.prog) 9 [] E [] (λw E' B'=>w=.bool r/\B'=[]):=by
 refine Bu func9 λQ kT cs H el em=>?_;unfold f18 at b1;let⟨x1,eo,ep⟩:=bs b1;refine C 6 V (Cl (Qb eo) V V Ou el ?_);rintro _ kU _ er ⟨kV,kW,kX,kY,rfl,rfl,eu,ew⟩ ex;let⟨a5,ey,eA⟩:=bs ep;refine Cl (iM eu ew ey) V V (Be func25 V) ex ?_;rintro _ kZ _ eC ⟨a6,a7,rfl,rfl,eN⟩ e0;let⟨k0,e1,e3⟩:=bs eA;refine C 8 V (Cl (Qb e1) V V Ou e0 ?_);rintro _ k1 _ b2 ⟨k2,k3,k4,k5,rfl,rfl,e4,e5⟩ e6;refine B7 (S':=[[],[],[],[]]) V e6 λe7=>?_;let⟨aq,e8,ff⟩:=bs e3;refine Cl (gX e4 e5 e8) V V (Be func27 V) e7 ?_;rintro _ k6 _ b3 ⟨av,aw,rfl,rfl,fk⟩ fl;let⟨k7,fm,fo⟩:=bs ff;refine C 8 V (Cl (Qb fm) V V Ou fl ?_);rintro _ k8 _ bx ⟨k9,la,lb,ld,rfl,rfl,fs,fv⟩ fw;let⟨ag,fN,gc⟩:=bs fo;refine Cl (Xe fs fv fN) V V (Be func7 V) fw ?_;rintro _ lf _ bz ⟨am,ap,rfl,rfl,ge⟩ gg;refine B7 (S':=[[],[],[],[],[],[],[]]) V gg λgh=>?_;let⟨lg,gt,gB⟩:=bs gc;refine C 8 V (Cl (Qb gt) V V Ou gh ?_);rintro _ lh _ bi ⟨li,lj,ll,lm,rfl,rfl,gE,gO⟩ g1;let⟨ay,g3,g4⟩:=bs gB;refine Dg (iW gE gO g3) V V (Be func28 V) g1 λlq bn g5=>?_;let⟨lr,g6,g7⟩:=bs g4;refine C 8 V (Cl (iK g6) V V (Be func29 V) g5 ?_);rintro _ ls _ bo ⟨lu,lw,lx,lz,rfl,rfl,g8,ha⟩ hb;refine B7 (S':=[[],[],[],[],[],[],[],[],[],[]]) V hb λhc=>?_;let⟨O,he,hf⟩:=bs g7;refine Cl (Xc g8 ha he) V V (Be func6 V) hc ?_;rintro _ lA _ bv ⟨ai,al,rfl,rfl,hg⟩ hj;let⟨lB,hk,hl⟩:=bs hf;refine C 8 V (Cl (iu hk) V V (Be func30 V) hj ?_);rintro _ lC _ a9 ⟨lD,lE,lF,lG,rfl,rfl,hm,hn⟩ ho;let⟨K,hp,hq⟩:=bs hl;refine Cl (Xf hm hn hp) V V (Be func8 V) ho ?_;rintro _ lH _ bb ⟨Z,ac,U,Y,rfl,rfl,hr,hs⟩ ht;refine B7 (S':=[[],[],[],[],[],[],[],[],[],[],[],[],[]]) V ht λb4=>?_;let⟨hu,hv,hw⟩:=bs hq;refine C 13 V (Ga 6 52 [] [(1,sV a6 a5.1 a7),(3,sV av aq.1 aw),(5,sV am ag.1 ap),(6,iV ag.2),(7,iV ay.1),(8,iV ay.2),(9,sV ai O.1 al),(10,iV O.2),(11,sV Z K.1 ac),(12,sV U K.2.1 Y),(13,iV K.2.2),(50,.bool hu)] (λlI az b5=>?_) (λb6=>?_));let⟨hx,hy,hz⟩:=bs hw;refine C 1 V (Ga 10 48 [] [(1,sV a6 a5.1 a7),(3,sV av aq.1 aw),(5,sV am ag.1 ap),(7,iV ay.1),(8,iV ay.2),(9,sV ai O.1 al),(10,iV O.2),(11,sV Z K.1 ac),(12,sV U K.2.1 Y),(13,iV K.2.2),(54,.bool hx)] (λlJ a0 ca=>?_) (λcc=>?_));let⟨hA,hB,hC⟩:=bs hz;refine C 1 V (Ga 14 44 [] [(1,sV a6 a5.1 a7),(3,sV av aq.1 aw),(5,sV am ag.1 ap),(7,iV ay.1),(9,sV ai O.1 al),(10,iV O.2),(11,sV Z K.1 ac),(12,sV U K.2.1 Y),(13,iV K.2.2),(58,.bool hA)] (λlK a1 ce=>?_) (λci=>?_));let⟨hD,hE,hF⟩:=bs hC;refine C 1 V (Ga 18 40 [] [(1,sV a6 a5.1 a7),(3,sV av aq.1 aw),(5,sV am ag.1 ap),(7,iV ay.1),(9,sV ai O.1 al),(11,sV Z K.1 ac),(12,sV U K.2.1 Y),(13,iV K.2.2),(62,.bool hD)] (λlL a2 co=>?_) (λcp=>?_));let⟨hG,hH,hI⟩:=bs hF;refine C 1 V (Ga 22 36 [] [(1,sV a6 a5.1 a7),(3,sV av aq.1 aw),(5,sV am ag.1 ap),(7,iV ay.1),(9,sV ai O.1 al),(11,sV Z K.1 ac),(12,sV U K.2.1 Y),(66,.bool hG)] (λlM a3 ct=>?_) (λcw=>?_));let⟨hK,hL,hM⟩:=bs hI;refine C 1 V (Ga 26 32 [] [(1,sV a6 a5.1 a7),(3,sV av aq.1 aw),(5,sV am ag.1 ap),(9,sV ai O.1 al),(11,sV Z K.1 ac),(12,sV U K.2.1 Y),(70,.bool hK)] (λlN a4 cy=>?_) (λc0=>?_));let⟨hN,hO,hP⟩:=bs hM;refine C 1 V (Ga 31 27 [] [(3,sV av aq.1 aw),(5,sV am ag.1 ap),(9,sV ai O.1 al),(11,sV Z K.1 ac),(12,sV U K.2.1 Y),(75,.bool hN)] (λlO a8 c1=>?_) (λc2=>?_));let⟨hQ,hR,hS⟩:=bs hP;refine C 1 V (Ga 36 22 [] [(5,sV am ag.1 ap),(9,sV ai O.1 al),(11,sV Z K.1 ac),(12,sV U K.2.1 Y),(80,.bool hQ)] (λlP be c3=>?_) (λc4=>?_));obtain⟨hT,hU,hV⟩:=bs hS;refine C 1 V (Ga 41 17 [] [(9,sV ai O.1 al),(11,sV Z K.1 ac),(12,sV U K.2.1 Y),(85,.bool hT)] (λlQ bw c5=>?_) (λc6=>?_));let⟨hW,hX,hY⟩:=bs hV;refine C 1 V (Ga 46 12 [] [(11,sV Z K.1 ac),(12,sV U K.2.1 Y),(90,.bool hW)] (λlR b0 c7=>?_) (λc8=>?_));let⟨h0,h1,h2⟩:=bs hY;refine C 1 V (Ga 52 6 [] [(12,sV U K.2.1 Y),(96,.bool h0)] (λlS c9 dd=>?_) (λdj=>?_));let⟨h3,h4,h5⟩:=bs h2;refine C 1 V (Ga 57 1 [] [(101,.bool h3)] (λlT h6 h7=>?_) (λea=>?_));refine C 2 V ?_;cases h5;exact Ba func9 V V (em (((((((((((((((((((((((er.Ad eC).Ad b2).Ad b3).Ad bx).Ad bz).Ad bi).Ad bn).Ad bo).Ad bv).Ad a9).Ad bb).Ad az).Ad a0).Ad a1).Ad a2).Ad a3).Ad a4).Ad a8).Ad be).Ad bw).Ad b0).Ad c9).Ad h6) V ⟨V,V⟩ h7);refine FR 97 h4 (λh8 h9=>?_) (λh8 ia=>?_);refine C 1 V (Gr (pp:=rI) [iV 0,iV 1,iV 2] [0,1,2] V V V underlying22 AW Dh (by decide) V V V ⟨V,V,V,trivial⟩ dd λlU lV ih ii=>?_);refine CH 0 ih ii V λlW eb io i0=>?_;let⟨lX,i1,i3⟩:=bs h9;refine Dg (Qe (hs.M (((((((((((az.Ad a0).Ad a1).Ad a2).Ad a3).Ad a4).Ad a8).Ad be).Ad bw).Ad b0).Ad c9).Ad eb)) io i1) V V Ox i0 λlY i4 i5=>B7 (S':=[[],[]]) V i5 λi6=>C 1 V ?_;cases i3;exact ea (eb.Ad i4) i6 V;refine C 4 V ?_;cases ia;exact ea AQ dd V;refine FR 91 h1 (λi7 i8=>?_) (λi7 i9=>?_);refine C 1 V (Gr (pp:=rI) [iV 0,iV 2,iV 6,iV 2,iV 3,iV 3,iV 3,iV 1,iV 1] [0,2,6,2,3,3,3,1,1] V V V underlying22 AW Dh (by decide) V V V ⟨V,V,V,V,V,V,V,V,V,trivial⟩ c7 λlZ l3 jg jj=>?_);refine CH 0 jg jj V λl4 ec jp jr=>?_;let⟨l5,jt,jy⟩:=bs i8;refine Cl (Qk jp jt) V V Ow jr ?_;rintro _ l6 jA ed ⟨l7,l8,_,rfl,rfl,jB⟩ jC;refine B7 (S':=[[],jA]) V jC λjD=>CH 1 jB jD V λl9 ee jE jF=>?_;let⟨ma,jG,jH⟩:=bs jy;refine Dg (SG (hr.M ((((((((((((az.Ad a0).Ad a1).Ad a2).Ad a3).Ad a4).Ad a8).Ad be).Ad bw).Ad b0).Ad ec).Ad ed).Ad ee)) jE jG) V V QN jF λmb jI jJ=>C 1 V ?_;cases jH;exact dj (((ec.Ad ed).Ad ee).Ad jI) jJ V;refine C 5 V ?_;cases i9;exact dj AQ c7 V;refine FR 86 hX (λjK jL=>?_) (λjK jM=>?_);refine C 1 V (Gr (pp:=rI) [iV 0] [0] V V V underlying22 AW Dh (by decide) V V V ⟨V,trivial⟩ c5 λmc md jN jO=>?_);refine CH 0 jN jO V λme ef jP jQ=>?_;let⟨mf,jR,jS⟩:=bs jL;refine Dg (Qe (hg.M (((((((((((a9.Ad bb).Ad az).Ad a0).Ad a1).Ad a2).Ad a3).Ad a4).Ad a8).Ad be).Ad bw).Ad ef)) jP jR) V V Ox jQ λmg jT jU=>B7 (S':=[[],[]]) V jU λjV=>C 1 V ?_;cases jS;exact c8 (ef.Ad jT) jV V;refine C 4 V ?_;cases jM;exact c8 AQ c5 V;refine FR 81 hU (λjW jX=>?_) (λjW jY=>?_);let⟨mh,jZ,j0⟩:=bs jX;refine C 1 V (Cl (iN jZ) V V (Be func32 V) c3 ?_);rintro _ mi _ eg ⟨mj,ml,rfl,rfl,j1⟩ j2;let⟨mm,j3,j4⟩:=bs j0;refine Dg (SG (ge.M ((((((((((((((bi.Ad bn).Ad bo).Ad bv).Ad a9).Ad bb).Ad az).Ad a0).Ad a1).Ad a2).Ad a3).Ad a4).Ad a8).Ad be).Ad eg)) j1 j3) V V QN j2 λmo j5 j6=>C 1 V ?_;cases j4;exact c6 (eg.Ad j5) j6 V;refine C 4 V ?_;cases jY;exact c6 AQ c3 V;refine FR 76 hR (λj7 j8=>?_) (λj7 j9=>?_);refine C 1 V (Gr (pp:=rI) [iV 1,iV 2,iV 3] [1,2,3] V V V underlying22 AW Dh (by decide) V V V ⟨V,V,V,trivial⟩ c1 λmp mq kb kc=>?_);refine CH 0 kb kc V λmr ej ke kf=>?_;let⟨ms,kg,kh⟩:=bs j8;refine Dg (Qe (fk.M (((((((((((((((bx.Ad bz).Ad bi).Ad bn).Ad bo).Ad bv).Ad a9).Ad bb).Ad az).Ad a0).Ad a1).Ad a2).Ad a3).Ad a4).Ad a8).Ad ej)) ke kg) V V Ox kf λmw ki kj=>B7 (S':=[[],[]]) V kj λkl=>C 1 V ?_;cases kh;exact c4 (ej.Ad ki) kl V;refine C 4 V ?_;cases j9;exact c4 AQ c1 V;refine FR 71 hO (λkm kn=>?_) (λkm ko=>?_);refine C 1 V (Gr (pp:=rI) [iV (-6),iV 1,iV 3,iV 2] [(-6),1,3,2] V V V underlying22 AW Dh (by decide) V V V ⟨V,V,V,V,trivial⟩ cy λmy mz kp kq=>?_);refine CH 0 kp kq V λmB ek kr ks=>?_;let⟨mC,kt,ku⟩:=bs kn;refine Dg (Qe (eN.M ((((((((((((((((b2.Ad b3).Ad bx).Ad bz).Ad bi).Ad bn).Ad bo).Ad bv).Ad a9).Ad bb).Ad az).Ad a0).Ad a1).Ad a2).Ad a3).Ad a4).Ad ek)) kr kt) V V Ox ks λmD kv kx=>B7 (S':=[[],[]]) V kx λky=>C 1 V ?_;cases ku;exact c2 (ek.Ad kv) ky V;refine C 4 V ?_;cases ko;exact c2 AQ cy V;refine FR 67 hL (λkz kA=>?_) (λkz kB=>?_);refine C 3 V ?_;cases kA;exact c0 AQ ct V;refine C 3 V ?_;cases kB;exact c0 AQ ct V;refine FR 63 hH (λkC kD=>?_) (λkC kF=>?_);refine C 3 V ?_;cases kD;exact cw AQ co V;refine C 3 V ?_;cases kF;exact cw AQ co V;refine FR 59 hE (λkG kI=>?_) (λkG kJ=>?_);refine C 3 V ?_;cases kI;exact cp AQ ce V;refine C 3 V ?_;cases kJ;exact cp AQ ce V;refine FR 55 hB (λkK kL=>?_) (λkK kM=>?_);refine C 3 V ?_;cases kL;exact ci AQ ca V;refine C 3 V ?_;cases kM;exact ci AQ ca V;refine FR 51 hy (λkN kO=>?_) (λkN kP=>?_);refine C 3 V ?_;cases kO;exact cc AQ b5 V;refine C 3 V ?_;cases kP;exact cc AQ b5 V;refine I2 47 hv (λkQ kR=>?_) (λkQ kS=>?_);refine C 3 V ?_;cases kR;exact b6 AQ b4 V;refine C 3 V ?_;cases kS;exact b6 AQ b4 V
variable {E:LH}
def f20(fu_:Nat)(p0:List Int):Option ((Cx)):=some (p0,0,2685821657736338717)
theorem iB{p0:List Int}(Z:Ap rI E a1 c2 p0){r:(Cx)}(K:f20 fu_ p0=some r):A6 J 4 [sV a1 p0 c2] E [] (λw E' B'=>∃(O:Nat) (U:Aw) (Y:Nat),w= As O 0/\B'=[(O,.cells #[sV U r.1 Y,iV r.2.1,.int .u64 ((r.2.2:Nat):Int)] 44 (0,0))]/\Ap rI E' U Y r.1):=by
 refine Bu func4 λQ am cs H ac ag=>?_;unfold f20 at K;refine C 7 V (Al (v:=.agg #[sV a1 p0 c2,iV 0,.int .u64 ((2685821657736338717:Nat):Int)]) V (λρ h=>DR [(0,1),(1,1),(2,1)] h (DL type44) underlying44 ⟨V,A2 type22,V,A2 type3,V,A2 type42,trivial⟩ V V) ?_);refine JS.box (v:=.agg #[sV a1 p0 c2,iV 0,.int .u64 ((2685821657736338717:Nat):Int)]) V V V ac V λai al=>C 2 V ?_;cases K;exact Ba func4 V V (ag AQ V ⟨ai,a1,c2,V,(by first | rfl | simp | (simp[Value.cells])),Z⟩ al)
def f92(fu_:Nat)(p0:Int)(p1:Int)(p2:Int):Option Bool:=Option.bind (if p1<=p0 then(some (decide (p0<=p2))) else(some false)) λx1=>some x1
def f88(fu_:Nat)(p0:Int)(p1:Int×Int×Int)(p2:Int):Option Int:=(Au (p0 - 1)).bind λK=>(f92 fu_ p1.1 0 K).bind λO=>Option.bind (if(!O)=true then(some true) else((Au (p0 - 1)).bind λU=>(f92 fu_ p1.2.1 0 U).bind λY=>some (!Y))) λZ=>if Z=true then(some 3) else(if p1.1=p1.2.1 then(some 8) else((f92 fu_ p1.2.2 1 p2).bind λac=>if(!ac)=true then(some 1) else(some 0)))
def NR(fu_:Nat)(p0:Bq)(O:Int)(K:Int):Option (Bj Int ((Int)⊕(Unit))):=(ix p0.1 O).bind λU=>if K<(U.length:Int) then((ix p0.1 O).bind λY=>(ix Y K).bind λZ=>(f92 fu_ Z 1 9).bind λac=>if(!ac)=true then(some (.done (Sum.inl 1))) else((Au (K+1)).bind λag=>some (.more ag))) else(some (.done (Sum.inr ())))
def NL(fu_:Nat)(p0:Bq)(K:Int):Option (Bj Int ((Int)⊕(Unit))):=if K<(p0.1.length:Int) then((ix p0.1 K).bind λO=>if 3<(O.length:Int) then(some (.done (Sum.inl 6))) else(Option.bind (iter (NR fu_ p0 K) fu_ 0) λU=>Sum.elim (λr=>some (.done (Sum.inl r))) (λZ=>(Au (K+1)).bind λY=>some (.more Y)) U)) else(some (.done (Sum.inr ())))
def Sp(fu_:Nat)(p0:Bq)(K:Int):Option (Bj Int ((Int)⊕(Unit))):=if K<(p0.2.length:Int) then((ix p0.2 K).bind λU=>(f88 fu_ (p0.1.length:Int) U 9).bind λO=>if O≠0 then(some (.done (Sum.inl O))) else((Au (K+1)).bind λY=>some (.more Y))) else(some (.done (Sum.inr ())))
def f48(fu_:Nat)(p0:Bq):Option Int:=if(p0.1.length:Int)<2 then(some 7) else(if 5<(p0.1.length:Int) then(some 6) else(Option.bind (iter (NL fu_ p0) fu_ 0) λK=>Sum.elim (λr=>some r) (λU=>if 8<(p0.2.length:Int) then(some 6) else(Option.bind (iter (Sp fu_ p0) fu_ 0) λO=>Sum.elim (λr=>some r) (λY=>some 0) O)) K))
variable {E:LH}
def f83(fu_:Nat)(p0:Cx):Option (Nat×(Cx)):=(Au (p0.2.1+1)).bind λO=>Option.bind (if O<=(p0.1.length:Int) then((Au (O - 1)).bind λU=>(ix p0.1 U).bind λY=>some (((((Cz O)*11400714819323198485)%2^64) ^^^ (((Cz Y)*14029467366897019727)%2^64))%2^64)) else(some (((Cz O)*11400714819323198485)%2^64))) λK=>some (((((((((((p0.2.2 ^^^ K)%2^64)*18397679294719823053)%2^64) ^^^ (((((p0.2.2 ^^^ K)%2^64)*18397679294719823053)%2^64)>>>33))%2^64)*14181476777654086739)%2^64) ^^^ (((((((((p0.2.2 ^^^ K)%2^64)*18397679294719823053)%2^64) ^^^ (((((p0.2.2 ^^^ K)%2^64)*18397679294719823053)%2^64)>>>33))%2^64)*14181476777654086739)%2^64)>>>29))%2^64)>>>11,(p0.1,O,(((((p0.2.2 ^^^ K)%2^64)*18397679294719823053)%2^64) ^^^ (((((p0.2.2 ^^^ K)%2^64)*18397679294719823053)%2^64)>>>33))%2^64))
variable{bk:Nat}{p0:Cx}
theorem g9(ai:Ap rI E a1 c2 p0.1){r:Nat×(Cx)}(al:f83 fu_ p0=some r):A6 J 34 [As bk 0] E [(bk,.cells #[sV a1 p0.1 c2,iV p0.2.1,.int .u64 ((p0.2.2:Nat):Int)] 44 (0,0))] (λw E' B'=>∃(am:Aw) (ap:Nat),w=.int .u64 ((r.1:Nat):Int)/\B'=[(bk,.cells #[sV am r.2.1 ap,iV r.2.2.1,.int .u64 ((r.2.2.2:Nat):Int)] 44 (0,0))]/\Ap rI E' am ap r.2.1):=by
 refine Bu func34 λQ bo cs H aq a0=>?_;unfold f83 at al;refine C 8 V (JL.fd underlying44 AW V V V ?_);refine Al (v:=iV p0.2.1) V (λρ h=>Yl.load By (h _ _ V) (B6 (j:=0) (off:=1) aq V V)) ?_;let⟨Y,a2,a3⟩:=bs al;refine Bz a2 V V V (C 1 V ?_);refine JL.fd underlying44 AW V V V (JS.sx 0 aq AW λU=>?_);refine C 5 V (JL.fd underlying44 AW V V V ?_);refine Al (v:=iV Y) V (λρ h=>Yl.load By (h _ _ V) (B6 (j:=0) (off:=1) U V V)) (Al (v:=.int .u64 ((Cz Y:Nat):Int)) V (λρ h=>Yl.Cz underlying3 underlying42 (h _ _ V)) ?_);refine Al (v:=.int .u64 ((((Cz Y)*11400714819323198485)%2^64:Nat):Int)) V (λρ h=>PF (h _ _ V) (h _ _ V)) (C 4 V ?_);refine Em 9 [bk] ⟨⟨0,_,V⟩,trivial⟩ U λK=>A5 K V [0,1] V (JG.fd 2 K underlying44 AW V V V V ?_);refine G9 3 K 1 0 U By ?_;refine A5 K V [4,5] V (JG.fd 6 K underlying44 GC V V V V ?_);refine G9 7 K 0 0 U J1 ?_;refine AP 8 K V V (λρ h s' Z=>Yl.len V underlying22 (h _ _ V)) (Dl [9] ?_);let⟨O,a4,a5⟩:=bs a3;refine C 2 V (Fc [bX bk #[sV a1 p0.1 c2,iV Y,.int .u64 ((p0.2.2:Nat):Int)] 44] [(0,As bk 0),(3,.int .u64 ((O:Nat):Int))] (λbv av aw=>?_) (λay=>?_));refine C 5 V (JL.fd underlying44 KD V V V ?_);refine Al (v:=.int .u64 ((p0.2.2:Nat):Int)) V (λρ h=>Yl.load Ot (h _ _ V) (B6 (j:=0) (off:=2) aw V V)) (C 1 V ?_);refine Al (v:=.int .u64 (((p0.2.2 ^^^ O)%2^64:Nat):Int)) V (λρ h=>Lt (h _ _ V) (h _ _ V)) (Al (v:=.int .u64 (((((p0.2.2 ^^^ O)%2^64)*18397679294719823053)%2^64:Nat):Int)) V (λρ h=>PF (h _ _ V) (h _ _ V)) ?_);refine C 1 V (JL.fd underlying44 KD V V V ?_);refine JS.sx 0 aw KD λac=>?_;refine C 2 V (Em 11 [bk] ⟨⟨0,_,V⟩,trivial⟩ ac λK=>?_);refine A5 K V [0,1,2] V (JG.fd 3 K underlying44 KD V V V V ?_);refine G9 4 K 2 0 ac Ot ?_;refine A5 K V [5,6] V (JG.fd 7 K underlying44 KD V V V V ?_);refine G9 8 K 2 0 ac Ot ?_;refine AP (v:=.int .u64 ((((((p0.2.2 ^^^ O)%2^64)*18397679294719823053)%2^64)>>>33:Nat):Int)) 9 K V V (λρ h s' Z=>Lz 33 (h _ _ V) (h _ _ V) (by decide)) (AP (v:=.int .u64 (((((((p0.2.2 ^^^ O)%2^64)*18397679294719823053)%2^64) ^^^ (((((p0.2.2 ^^^ O)%2^64)*18397679294719823053)%2^64)>>>33))%2^64:Nat):Int)) 10 K V V (λρ h s' Z=>Lt (h _ _ V) (h _ _ V)) ?_);refine Dl [11,12,13] (C 1 V ?_);refine JL.fd underlying44 KD V V V (JS.sx 0 ac KD λaz=>?_);refine C 5 V (JL.fd underlying44 KD V V V ?_);refine Al (v:=.int .u64 (((((((p0.2.2 ^^^ O)%2^64)*18397679294719823053)%2^64) ^^^ (((((p0.2.2 ^^^ O)%2^64)*18397679294719823053)%2^64)>>>33))%2^64:Nat):Int)) V (λρ h=>Yl.load Ot (h _ _ V) (B6 (j:=0) (off:=2) az V V)) (Al (v:=.int .u64 (((((((((p0.2.2 ^^^ O)%2^64)*18397679294719823053)%2^64) ^^^ (((((p0.2.2 ^^^ O)%2^64)*18397679294719823053)%2^64)>>>33))%2^64)*14181476777654086739)%2^64:Nat):Int)) V (λρ h=>PF (h _ _ V) (h _ _ V)) ?_);refine C 6 V (Al (v:=.int .u64 ((((((((((p0.2.2 ^^^ O)%2^64)*18397679294719823053)%2^64) ^^^ (((((p0.2.2 ^^^ O)%2^64)*18397679294719823053)%2^64)>>>33))%2^64)*14181476777654086739)%2^64)>>>29:Nat):Int)) V (λρ h=>Lz 29 (h _ _ V) (h _ _ V) (by decide)) ?_);refine Al (v:=.int .u64 (((((((((((p0.2.2 ^^^ O)%2^64)*18397679294719823053)%2^64) ^^^ (((((p0.2.2 ^^^ O)%2^64)*18397679294719823053)%2^64)>>>33))%2^64)*14181476777654086739)%2^64) ^^^ (((((((((p0.2.2 ^^^ O)%2^64)*18397679294719823053)%2^64) ^^^ (((((p0.2.2 ^^^ O)%2^64)*18397679294719823053)%2^64)>>>33))%2^64)*14181476777654086739)%2^64)>>>29))%2^64:Nat):Int)) V (λρ h=>Lt (h _ _ V) (h _ _ V)) (Al (v:=.int .u64 ((((((((((((p0.2.2 ^^^ O)%2^64)*18397679294719823053)%2^64) ^^^ (((((p0.2.2 ^^^ O)%2^64)*18397679294719823053)%2^64)>>>33))%2^64)*14181476777654086739)%2^64) ^^^ (((((((((p0.2.2 ^^^ O)%2^64)*18397679294719823053)%2^64) ^^^ (((((p0.2.2 ^^^ O)%2^64)*18397679294719823053)%2^64)>>>33))%2^64)*14181476777654086739)%2^64)>>>29))%2^64)>>>11:Nat):Int)) V (λρ h=>Lz 11 (h _ _ V) (h _ _ V) (by decide)) ?_);refine C 2 V ?_;cases a5;exact Ba func34 V V (a0 av V ⟨a1,c2,V,V,(ai.M av)⟩ az);refine A4 a4 (λa6 a7=>?_) (λa6 a8=>?_);refine Em 14 [bk] ⟨⟨0,_,V⟩,trivial⟩ U λK=>A5 K V [0,1,2] V (JG.fd 3 K underlying44 GC V V V V ?_);refine G9 4 K 0 0 U J1 ?_;refine A5 K V [5,6] V (JG.fd 7 K underlying44 AW V V V V ?_);refine G9 8 K 1 0 U By ?_;let⟨bw,a9,bb⟩:=bs a7;refine AP 9 K V V (λρ h s' Z=>EF (h _ _ V) (h _ _ V) a9) ?_;let⟨ag,be,bi⟩:=bs bb;refine F9 10 ai be K underlying22 AW ?_;rintro bx bz _ rfl bn;refine JG.lp 11 K 0 bn U ⟨⟨0,_,V⟩,trivial⟩ By ?_;refine AP (v:=.int .u64 ((Cz ag:Nat):Int)) 12 K V V (λρ h s' Z=>Yl.Cz underlying3 underlying42 (h _ _ V)) (AP (v:=.int .u64 ((((Cz ag)*14029467366897019727)%2^64:Nat):Int)) 13 K V V (λρ h s' Z=>PF (h _ _ V) (h _ _ V)) ?_);refine Dl [14,15] (Al (v:=.int .u64 ((((((Cz Y)*11400714819323198485)%2^64) ^^^ (((Cz ag)*14029467366897019727)%2^64))%2^64:Nat):Int)) V (λρ h=>Lt (h _ _ V) (h _ _ V)) ?_);refine C 2 V ?_;cases bi;exact ay AQ U V;refine JL.skip ?_;cases a8;exact ay AQ U V
def f36(fu_:Nat)(p0:Cx)(p1:Int):Option (Int×(Cx)):=(f83 fu_ p0).bind λK=>if p1<1 then(some (0,K.2)) else((Qo K.1 ((Cz p1+1)%2^64)).bind λO=>some (JM O,K.2))
variable{p1:Int}
theorem MM(ap:Ap rI E a1 c2 p0.1){r:Int×(Cx)}(K:f36 fu_ p0 p1=some r):A6 J 13 [As bk 0,iV p1] E [(bk,.cells #[sV a1 p0.1 c2,iV p0.2.1,.int .u64 ((p0.2.2:Nat):Int)] 44 (0,0))] (λw E' B'=>∃(O:Aw) (U:Nat),w=iV r.1/\B'=[(bk,.cells #[sV O r.2.1 U,iV r.2.2.1,.int .u64 ((r.2.2.2:Nat):Int)] 44 (0,0))]/\Ap rI E' O U r.2.1):=by
 refine Bu func13 λQ a4 cs H aq Y=>?_;unfold f36 at K;let⟨a5,av,aw⟩:=bs K;refine C 7 V (Cr 0 (g9 ap av) V V (Be func34 V) aq V ?_);rintro _ a6 _ Z ⟨ac,ag,rfl,rfl,ai⟩ al;refine C 8 V (A4 aw (λay az=>?_) (λay a0=>?_));refine C 4 V ?_;cases az;exact Ba func13 V V (Y Z V ⟨ac,ag,V,V,ai⟩ al);refine C 5 V (Al (v:=.int .u64 ((Cz p1:Nat):Int)) V (λρ h=>Yl.Cz underlying3 underlying42 (h _ _ V)) ?_);refine Al (v:=.int .u64 (((Cz p1+1)%2^64:Nat):Int)) V (λρ h=>da (h _ _ V) (h _ _ V)) ?_;let⟨am,a2,a3⟩:=bs a0;refine Al (v:=.int .u64 ((am:Nat):Int)) V (λρ h=>aA (h _ _ V) (h _ _ V) a2) (Al (v:=iV (JM am)) V (λρ h=>Wo underlying42 underlying3 (h _ _ V)) ?_);refine C 2 V ?_;cases a3;exact Ba func13 V V (Y Z V ⟨ac,ag,V,V,ai⟩ al)
def f37(fu_:Nat)(p0:Cx)(p1:Int)(p2:Int):Option (Int×(Cx)):=(Au (p2 - p1)).bind λO=>(f36 fu_ p0 O).bind λK=>(Au (p1+K.1)).bind λU=>some (U,K.2)
theorem SK{p2:Int}(Y:Ap rI E a1 c2 p0.1){r:Int×(Cx)}(K:f37 fu_ p0 p1 p2=some r):A6 J 11 [As bk 0,iV p1,iV p2] E [(bk,.cells #[sV a1 p0.1 c2,iV p0.2.1,.int .u64 ((p0.2.2:Nat):Int)] 44 (0,0))] (λw E' B'=>∃(O:Aw) (U:Nat),w=iV r.1/\B'=[(bk,.cells #[sV O r.2.1 U,iV r.2.2.1,.int .u64 ((r.2.2.2:Nat):Int)] 44 (0,0))]/\Ap rI E' O U r.2.1):=by
 refine Bu func11 λQ a2 cs H Z ac=>?_;unfold f37 at K;let⟨a3,ag,ai⟩:=bs K;refine C 10 V (BY ag V V V ?_);let⟨a4,al,am⟩:=bs ai;refine Cr 0 (MM Y al) V V Ml Z V ?_;rintro _ a5 _ ap ⟨aq,av,rfl,rfl,aw⟩ ay;let⟨a6,az,a0⟩:=bs am;refine Bz az V V V (C 2 V ?_);cases a0;exact Ba func11 V V (ac ap V ⟨aq,av,V,V,aw⟩ ay)
def f32(fu_:Nat)(p0:Cx)(p1:Int):Option (Bool×(Cx)):=(Au (p1 - 1)).bind λO=>(f36 fu_ p0 O).bind λK=>some (decide (K.1=0),K.2)
theorem gT(Y:Ap rI E a1 c2 p0.1){r:Bool×(Cx)}(K:f32 fu_ p0 p1=some r):A6 J 12 [As bk 0,iV p1] E [(bk,.cells #[sV a1 p0.1 c2,iV p0.2.1,.int .u64 ((p0.2.2:Nat):Int)] 44 (0,0))] (λw E' B'=>∃(O:Aw) (U:Nat),w=.bool r.1/\B'=[(bk,.cells #[sV O r.2.1 U,iV r.2.2.1,.int .u64 ((r.2.2.2:Nat):Int)] 44 (0,0))]/\Ap rI E' O U r.2.1):=by
 refine Bu func12 λQ az cs H Z ac=>?_;unfold f32 at K;let⟨a0,ag,ai⟩:=bs K;refine C 8 V (BY ag V V V ?_);let⟨a2,al,am⟩:=bs ai;refine Cr 0 (MM Y al) V V Ml Z V ?_;rintro _ a3 _ ap ⟨aq,av,rfl,rfl,aw⟩ ay;refine C 3 V ?_;cases am;exact Ba func12 V V (ac ap V ⟨aq,av,V,V,aw⟩ ay)
def f81(fu_:Nat)(p0:Cx)(p1:List Int):Option (Int×(Cx)):=(Au ((p1.length:Int) - 1)).bind λO=>(f36 fu_ p0 O).bind λK=>(ix p1 K.1).bind λU=>some (U,K.2)
theorem Xg{K:Aw}{p1:List Int}(ag:Ap rI E a1 c2 p0.1)(ai:Ap rI E K kf p1){r:Int×(Cx)}(U:f81 fu_ p0 p1=some r):A6 J 14 [As bk 0,sV K p1 kf] E [(bk,.cells #[sV a1 p0.1 c2,iV p0.2.1,.int .u64 ((p0.2.2:Nat):Int)] 44 (0,0))] (λw E' B'=>∃(Y:Aw) (Z:Nat),w=iV r.1/\B'=[(bk,.cells #[sV Y r.2.1 Z,iV r.2.2.1,.int .u64 ((r.2.2.2:Nat):Int)] 44 (0,0))]/\Ap rI E' Y Z r.2.1):=by
 refine Bu func14 λQ a6 cs H al am=>?_;unfold f81 at U;refine C 9 V (JL.ln underlying22 V V V ?_);let⟨a7,ap,aq⟩:=bs U;refine BY ap V V V ?_;let⟨a8,av,aw⟩:=bs aq;refine Cr 0 (MM ag av) V V Ml al V ?_;rintro _ a9 _ ac ⟨ay,az,rfl,rfl,a0⟩ a2;let⟨bb,a3,a4⟩:=bs aw;refine JS.ix (ai.M ac) a3 underlying22 AW ?_;rintro be bi _ rfl a5;refine DC 0 a5 By V V V (C 2 V ?_);cases a4;exact Ba func14 V V (am ac V ⟨ay,az,V,V,a0⟩ a2)
def f40(fu_:Nat)(p0:Cx)(p1:Int):Option (Dq×(Cx)):=(Au (p1 - 1)).bind λZ=>(f36 fu_ p0 Z).bind λK=>(f37 fu_ K.2 1 9).bind λO=>(f81 fu_ O.2 ([1,2,2,3,O.1]:List Int)).bind λU=>(Au (p1 - 1)).bind λac=>(f37 fu_ U.2 1 ac).bind λY=>(Au (K.1+Y.1)).bind λag=>(Qy ag p1).bind λai=>some ((K.1,ai,U.1),Y.2)
theorem Xq(aw:Ap rI E a1 c2 p0.1){r:Dq×(Cx)}(ac:f40 fu_ p0 p1=some r):A6 J 15 [As bk 0,iV p1] E [(bk,.cells #[sV a1 p0.1 c2,iV p0.2.1,.int .u64 ((p0.2.2:Nat):Int)] 44 (0,0))] (λw E' B'=>∃(ag:Aw) (ai:Nat),w=.agg #[iV r.1.1,iV r.1.2.1,iV r.1.2.2]/\B'=[(bk,.cells #[sV ag r.2.1 ai,iV r.2.2.1,.int .u64 ((r.2.2.2:Nat):Int)] 44 (0,0))]/\Ap rI E' ag ai r.2.1):=by
 refine Bu func15 λQ c8 cs H ay az=>?_;unfold f40 at ac;refine C 2 V (Cd ay B5 λc9 a0=>?_);let⟨dd,a2,a3⟩:=bs ac;refine C 5 V (BY a2 V V V ?_);let⟨O,a4,a5⟩:=bs a3;refine Cr 0 (MM aw a4) V V Ml a0 V ?_;rintro _ dj _ a6 ⟨ea,eb,rfl,rfl,a7⟩ a8;let⟨al,a9,bb⟩:=bs a5;refine C 2 V (Cr 0 (SK a7 a9) V V QO a8 V ?_);rintro _ ec _ be ⟨ed,ee,rfl,rfl,bi⟩ bn;refine Gr (pp:=rI) [iV 1,iV 2,iV 2,iV 3,iV al.1] [1,2,2,3,al.1] V V V underlying22 AW Dh (by decide) V V V ⟨V,V,V,V,V,trivial⟩ bn λef eg bo bv=>CH 2 bo bv V λej am bw bx=>?_;let⟨U,bz,b0⟩:=bs bb;refine Cr 0 (Xg (bi.M am) bw bz) V V (Be func14 V) bx V ?_;rintro _ ek _ b1 ⟨el,em,rfl,rfl,b2⟩ b3;refine Al (v:=.agg #[iV O.1,iV 0,iV U.1]) V (λρ h=>DR [(0,1),(1,1),(2,1)] h B5 underlying31 ⟨V,A2 type3,V,A2 type3,V,A2 type3,trivial⟩ V V) (Cd b3 B5 λap b4=>?_);refine JS.sx 3 b4 BJ λZ=>?_;refine C 2 V (Em 8 [ap] ⟨⟨3,_,V⟩,trivial⟩ Z λK=>?_);refine JG.fd 0 K underlying31 AW V V V V (G9 1 K 0 3 Z By ?_);refine A5 K V [2,3] V ?_;let⟨b5,b6,ca⟩:=bs b0;refine AP 4 K V V (λρ h s' cc=>EF (h _ _ V) (h _ _ V) b6) (Dw 7 K V V ?_);let⟨eo,ce,ci⟩:=bs ca;refine Ur (i:=5) (vs:=[As bk 0,iV 1,iV b5]) 0 (by exact λx co=>Il.mem (bks:=[ap]) (by exact⟨⟨3,_,rfl⟩,trivial⟩) x (by simpa [AI] using co)) (SK b2 ce) (by decide+kernel) V V V QO V Z V ?_;rintro _ ep _ cp ⟨ct,cw,rfl,rfl,cy⟩ c0;let⟨er,c1,c3⟩:=bs ci;refine AP 6 K V V (λρ h s' cc=>DO (h _ _ V) (h _ _ V) c1) (Dl [8,9,10] ?_);let⟨Y,c4,c5⟩:=bs c3;refine Al (v:=iV Y) V (λρ h=>bT (h _ _ V) (h _ _ V) c4) (JL.fd underlying31 AW V V V ?_);refine JS.sx 3 c0 AW λaq=>?_;refine C 3 V (Al V (λρ h=>Ia (vs:=[iV O.1,iV Y,iV U.1]) ER BJ (h _ _ V) (GH (off:=0) 3 aq V V)) ?_);refine JS.sx 1 aq BJ λc6=>?_;refine JL.done (JS.drop 3 c6 V λav=>?_);cases c5;refine JL.ret (v:=.agg #[iV O.1,iV Y,iV U.1]) V V (BO.list func15 V (vs:=[.agg #[iV O.1,iV Y,iV U.1]]) ⟨⟨_,V,Ld.many (vs:=[iV O.1,iV Y,iV U.1]) ER BJ (GH (off:=0) 1 av V V)⟩,trivial⟩) (ES 1 av V λc7=>?_);exact az ((((a6.Ad be).Ad am).Ad b1).Ad cp) V ⟨ct,cw,V,V,cy⟩ c7
end Pal
namespace Pal
open Go Go.Conc
variable {P:Program}{J:Judge P}{Q:Gs_}{b:Frame}{n:Nat}{ds:Ld_}{ops:Ao_}{cs:Lf_}{fuel:Nat}{D:Nat->Bool}{listed:Array Bool}{L:Env}{s:St}{E' H:LH}{S:List Seg}
variable {d:Option Tmp}{t u ty e:TypeId}{p:String}{af:Ae_}{g:On_}{v:Value}{i:Nat}{kd:IntKind}
section
variable {k:Li_}{m:Nat}{E:LH}
variable {x y:Operand}
theorem Take.Wy{f:FuncId}{args:Array Operand}{ats:Array TypeId}{vs:Lv_}{seg:Seg}{R:Value->LH->Seg->Prop}(j:Nat)(O:Aq E H S)(am:A6 J f vs E seg R)
  (ap:ops[i]?=some ⟨d,.call ⟨.value (.func f),args,ats⟩,ty,p,af,g⟩) (hw:AY L ops ⟨d,.call ⟨.value (.func f),args,ats⟩,ty,p,af,g⟩=some true) (aq:Bo n d=true) (hb:Ef P f=true) (av:evs L args.toList=some vs) (U:S[j]?=some seg)
  (aw:∀v E' seg',Le E E'->R v E' seg'->Aq E' H (S.set j seg')->AT J Q b n ds ops k cs m DG fuel (Bf listed i) (Ay L d v) (Aj E' H (S.set j seg'))):
  Take J Q b n ds ops k cs m DG fuel listed L (Aj E H S) i:=by
 have Y:S.flatten.Perm (seg++(S.set j []).flatten):=(Ds (seg':=seg) U).1.trans pr;have Z:Nd E H (seg++(S.set j []).flatten):=Nd.perm O Y;have ay:Aj E H S=mk E (Bn (S.set j []).flatten H) seg:=by
  rw[show Aj E H S=mk E H S.flatten from rfl,FH O Y];unfold mk;rw[Gq]
 have ac:=Fh.M7 (am (Bn (S.set j []).flatten H) (Nd.front Z)) (by rintro v s' ⟨E',B',_,_,_,rfl⟩;rfl);rw[← ay] at ac;refine⟨_,ap,by simp[EM],aq,hw,λρ ag=>?_⟩;have az:args.map ρ=vs.toArray:=by
  rw[← G7 ag av];apply qS;simp
 have a0:ρ (.func f)=.func (.func f) #[] #[]:=ag _ _ V;simp only[execOp,resolve,bind,Sem.bind,Deferred.ofValue,a0,pure,invoke];have e: #[]++args.map ρ++ #[]=vs.toArray:=by rw[az];simp
 rw[e];refine J4 hb ?_;rw[Mo];refine⟨_,ac,?_⟩;rintro v bb ⟨⟨E',B',hle,a1,a2,rfl⟩,w,a3⟩;have e2:mk E' (Bn (S.set j []).flatten H) B'=mk E' H (B'++(S.set j []).flatten):=by unfold mk;rw[Gq]
 have a4:Nd E H (S.set j []).flatten:=by
  have:=Z;rw[Nd.iff] at this ⊢;rw[ql,qx] at this;exact⟨this.1.2.1,λq a5=>this.2 q (qd _ a5)⟩
 have a6:Nd E' H (S.set j []).flatten:=a4.grow λx K=>by
  have a7:=a3.d x K;have a8:Bn B' (Bn (S.set j []).flatten H) x=none:=a7;exact(IE a8).1
 have ai:Nd E' H (B'++(S.set j []).flatten):=Nd.glue a2 a6;have al:(B'++(S.set j []).flatten).Perm (S.set j B').flatten:=pr.trans (Ds U).2.symm;have a9:Aq E' H (S.set j B'):=Nd.perm ai al;rw[e2,FH ai al];exact⟨V,λx o K=>hle _ _ K,aw v E' B' hle a1 a9⟩
end
open Go.Proofs Go.Proofs.Tryz
variable {J:Judge Tryz.prog}{E:LH}
def PS(fu_:Nat)(Y:Bool×(Cx))(K:(List Int)×Int×Nat×(List Int)×Int):Option (Bj ((List Int)×Int×Nat×(List Int)×Int) ((List Int)×Cx)):=if 0<K.2.2.2.2 then(Option.bind (if Y.1=true then((room K.2.2.2.1 1).bind λZ=>some (Z,K.1,K.2.1,K.2.2.1)) else((f81 fu_ (K.1,K.2.1,K.2.2.1) ([1,1,2,2,3,5]:List Int)).bind λO=>(room K.2.2.2.1 O.1).bind λac=>some (ac,O.2.1,O.2.2.1,O.2.2.2))) λU=>(Au (K.2.2.2.2 - 1)).bind λag=>some (.more (U.2.1,U.2.2.1,U.2.2.2,U.1,ag))) else(some (.done (K.2.2.2.1,K.1,K.2.1,K.2.2.1)))
def P4(fu_:Nat)(Y:Int×(Cx))(Z:Bool×(Cx))(K:Bt×(List Int)×Int×Nat×Int):Option (Bj (Bt×(List Int)×Int×Nat×Int) ((List Int)×Int×Nat×Bt)):=if K.2.2.2.2<Y.1 then((f36 fu_ (K.2.1,K.2.2.1,K.2.2.2.1) 3).bind λO=>Option.bind (iter (PS fu_ Z) fu_ (O.2.1,O.2.2.1,O.2.2.2,[],O.1)) λU=>(room K.1 U.1).bind λac=>(Au (K.2.2.2.2+1)).bind λag=>some (.more (ac,U.2.1,U.2.2.1,U.2.2.2,ag))) else(some (.done (K.2.1,K.2.2.1,K.2.2.2.1,K.1)))
def PQ(fu_:Nat)(U:Int×(Cx))(K:AH×(List Int)×Int×Nat×Int):Option (Bj (AH×(List Int)×Int×Nat×Int) ((List Int)×Int×Nat×AH)):=if 0<K.2.2.2.2 then((f40 fu_ (K.2.1,K.2.2.1,K.2.2.2.1) U.1).bind λO=>(Ey K.1 ([O.1]:AH)).bind λY=>(Au (K.2.2.2.2 - 1)).bind λZ=>some (.more (Y,O.2.1,O.2.2.1,O.2.2.2,Z))) else(some (.done (K.2.1,K.2.2.1,K.2.2.2.1,K.1)))
def f31(fu_:Nat)(p0:Cx)(p1:Int)(p2:Int):Option (Bq×(Cx)):=(f37 fu_ p0 2 p1).bind λZ=>(f32 fu_ Z.2 3).bind λK=>Option.bind (iter (P4 fu_ Z K) fu_ ([],K.2.1,K.2.2.1,K.2.2.2,0)) λO=>(f36 fu_ (O.1,O.2.1,O.2.2.1) p2).bind λU=>Option.bind (iter (PQ fu_ Z) fu_ ([],U.2.1,U.2.2.1,U.2.2.2,U.1)) λY=>some ((O.2.2.2,Y.2.2.2),(Y.1,Y.2.1,Y.2.2.1))
variable {J:Judge Tryz.prog}{E:LH}
variable {J:Judge Tryz.prog}{E:LH}
end Pal
namespace Pal
def Ao{α:Type}(o:Option α)(Q:α->Prop):Prop:=∃a,o=some a/\Q a
variable {α β:Type}{Q R:α->Prop}
theorem An{a:α}(h:Q a):Ao (some a) Q:=⟨a,V,h⟩
theorem Ao.M{o:Option α}(h:Ao o R)(k:∀a,R a->Q a):Ao o Q:=let ⟨a,K,O⟩:=h;⟨a,K,k a O⟩
theorem AG{o:Option β}{f:β->Option α}{S:β->Prop}(h:Ao o S)(k:∀b,S b->Ao (f b) Q):Ao (o.bind f) Q:=by
 obtain⟨b,rfl,hb⟩:=h;let⟨a,K,O⟩:=k b hb;exact⟨a,K,O⟩
theorem Bg{o:Option β}{f:β->Option α}{b:β}(h:o=some b)(k:Ao (f b) Q):Ao (o.bind f) Q:=by subst h;exact k
theorem Ao.jk{f:Int->Option α}{x:Int}(K: -9223372036854775808<=x)(O:x<=9223372036854775807)(k:Ao (f x) Q):Ao ((Au x).bind f) Q:=Bg (eS ⟨K,O⟩) k
theorem HO{xs:List β}{i:Int}{m:Nat}{b:β}(h:i=(m:Int))(hb:xs[m]?=some b):ix xs i=some b:=by subst h;simpa [ix] using hb
theorem Bi{f:β->Option α}{xs:List β}{i:Int}{m:Nat}(h:i=(m:Int))(hm:m<xs.length)(k:Ao (f xs[m]) Q):Ao ((ix xs i).bind f) Q:=Bg (HO h (d6 hm)) k
theorem Jp{f:List β->Option α}{xs:List β}{x:β}(h:xs.length+1<=2^40)(k:Ao (f (xs++ [x])) Q):Ao ((room xs x).bind f) Q:=Bg (eS h) k
variable{c:Prop}
theorem Bs [Decidable c] {x y:Option α}(K:c->Ao x Q)(O:¬c->Ao y Q):Ao (if c then x else y) Q:=by
 by_cases h:c;rw[eS h];exact K h;rw[d9 h];exact O h
theorem B3 [Decidable c] {x y:Option α}(h:c)(k:Ao x Q):Ao (if c then x else y) Q:=by rw[eS h];exact k
theorem Cb [Decidable c] {x y:Option α}(h:¬c)(k:Ao y Q):Ao (if c then x else y) Q:=by rw[d9 h];exact k
def Bj.sat{S A:Type}(I:S->Prop)(Q:A->Prop):Bj S A->Prop
 | .more s=>I s
 | .done a=>Q a
variable{S:Type}
theorem Fy{body:S->Option (Bj S α)}(I:Nat->S->Prop)(round:∀m s,I m s->Ao (body s) (Bj.sat (λs'=>∃m',m'<m/\I m' s') Q)):
  ∀{m fuel:Nat}{s:S},I m s->m<fuel->Ao (iter body fuel s) Q:=by
 intro m
 induction m using Nat.strongRecOn with
 | _ m O=>
  intro fuel s U ag;obtain⟨fuel,rfl⟩:∃k,fuel=k+1:=⟨fuel - 1,by omega⟩;let⟨st,Y,K⟩:=round m s U;unfold Pal.iter;rw[Y];cases st with
  | more s'=>
   obtain⟨m',Z,ac⟩:=K;exact O m' Z ac (by omega)
  | done a=>exact⟨a,rfl,K⟩
variable{F:Nat}
theorem Dt{A:Type}{body:S->Option (Bj S A)}{Q:A->Prop}{K:S}(n:Nat)(I:Nat->S->Prop)(Y:I 0 K)(ac:n<F)
  (round:∀i s,i<n->I i s->Ao (body s) (Bj.sat (I (i+1)) Q)) (last:∀s,I n s->Ao (body s) (λst=>∃a,st=.done a/\Q a)):Ao (Pal.iter body F K) Q:=by
 refine Fy (λm s=>∃i,i<=n/\m=n - i/\I i s) ?_ (m:=n - 0) ⟨0,qc _,V,Y⟩ (by omega);rintro m s ⟨i,hi,rfl,O⟩;rcases mt i n with Z | ag
 .refine(round i s Z O).M ?_;intro st U;cases st with
  | more s'=>exact⟨n - (i+1),by omega,i+1,by omega,rfl,U⟩
  | done a=>exact U
 .obtain rfl:i=n:=by omega
  refine(last s O).M ?_;rintro st ⟨a,rfl,h⟩;exact h
theorem Fo{α:Type}{o:Option α}{a:α}(h:Ao o (λx=>x=a)):o=some a:=by obtain⟨x,K,rfl⟩:=h;exact K
theorem Lr{α:Type}{Q:α->Prop}{f:Int->Option α}{x:Int}(y:Int)(h:x=y)(K: -9223372036854775808<=y)(O:y<=9223372036854775807)(k:Ao (f y) Q):Ao ((Au x).bind f) Q:=by subst h;exact Ao.jk K O k
theorem Ao.E{α:Type}{Q:α->Prop}{f:Int->Option α}{x:Int}(y:Int)(h:x=y)(k:Ao (f y) Q)(K: -9223372036854775808<=y:=by omega)(O:y<=9223372036854775807:=by omega):Ao ((Au x).bind f) Q:=Lr y h K O k
theorem Ao.Oe{α β:Type}{Q:α->Prop}{f:List β->Option α}{xs ys:List β}(h:xs.length+ys.length<1000)(k:Ao (f (xs++ys)) Q):Ao ((Ey xs ys).bind f) Q:=Bg (by unfold Ey;rw[eS (by omega)]) k
abbrev JK:=List Int×Int×Nat
def BG(k:Nat)(b:JK):Prop:=0<=b.2.1/\b.2.1<=(k:Int)
variable{b:JK}
theorem BG.M{k k':Nat}(h:BG k b)(K:k<=k'):BG k' b:=⟨h.1,by have:=h.2;omega⟩
theorem fQ{k:Nat}(hb:BG k b)(K:k<1000000):Ao (f83 F b) (λr=>r.1<2^64/\BG (k+1) r.2):=by
 obtain⟨O,U⟩:=hb;unfold f83;refine Ao.E (b.2.1+1) V ?_;have key:∀x:Nat,(x%2^64)>>>11<2^64:=λx=>q4 (Nat.shiftRight_le _ _) (sE _ (sQ 64));refine AG (S:=λ_=>True) ?_ ?_;refine Bs (λh=>?_) (λh=>?_);refine Ao.E b.2.1 (by omega) (Bi (m:=b.2.1.toNat) (by omega) (by omega) ?_);exact An trivial;exact An trivial;intro x _;exact An ⟨key _,by simp only;omega,by simp only;omega⟩
theorem UA{a:Nat}(h:a<2^62):JM a=(a:Int):=by
 unfold JM;exact KH (by omega)
theorem MI{k:Nat}{m:Int}(hb:BG k b)(O:k<1000000)(hm:m<1000000):Ao (f36 F b m) (λr=>0<=r.1/\(r.1<=m∨r.1=0)/\BG (k+1) r.2):=by
 unfold f36;refine AG (fQ hb O) ?_;rintro⟨x,b'⟩ ⟨Z,K⟩;refine Bs (λh=>?_) (λh=>?_);exact An ⟨by simp,.inr V,K⟩
 .have U:Cz m=m.toNat:=by unfold Cz;omega
  have e2:(Cz m+1)%2^64=m.toNat+1:=by rw[U];omega
  have Y:x%(m.toNat+1)<m.toNat+1:=sE _ (by omega);refine Bg (b:=x%(m.toNat+1)) (by rw[e2];unfold Qo;rw[d9 (by omega)]) ?_;refine An ?_;simp only;generalize x%(m.toNat+1)=z at Y ⊢;rw[UA (by omega)];exact⟨by omega,.inl (by omega),K⟩
theorem Ss{k:Nat}{lo hi:Int}(hb:BG k b)(O:k<1000000)(Y:0<=lo)(Z:lo<=hi)(ac:hi<1000):Ao (f37 F b lo hi) (λr=>lo<=r.1/\r.1<=hi/\BG (k+1) r.2):=by
 unfold f37;refine Ao.E (hi - lo) V (AG (MI hb O (by omega)) ?_);rintro⟨x,b'⟩ ⟨U,g2,K⟩;simp only at U g2 K ⊢;exact Ao.E (lo+x) V (An ⟨by simp only;omega,by simp only;omega,K⟩)
theorem dX{k:Nat}{m:Int}(hb:BG k b)(K:k<1000000)(U:1<=m)(Y:m<1000):Ao (f32 F b m) (λr=>BG (k+1) r.2):=by
 unfold f32;refine Ao.E (m - 1) V (AG (MI hb K (by omega)) ?_);rintro⟨x,b'⟩ ⟨Z,g2,O⟩;exact An O
variable{l:List Int}
theorem WU{k:Nat}(hb:BG k b)(U:k<1000000)(Z:0<l.length)(ac:l.length<1000):Ao (f81 F b l) (λr=>r.1∈l/\BG (k+1) r.2):=by
 unfold f81;refine Ao.E ((l.length - 1:Nat):Int) (by omega) (AG (MI hb U (by omega)) ?_);rintro⟨x,b'⟩ ⟨Y,g2,K⟩;simp only at Y g2 K ⊢;have O:x.toNat<l.length:=by omega
 exact Bi (m:=x.toNat) (by omega) O (An ⟨pj O,K⟩)
abbrev DT:=Int×Int×Int
abbrev OW:=Bt×List DT
structure NV (n:Nat) (o:OW):Prop where
 l1:o.1.length<=n
 n1:∀x∈o.1,x.length<=n
 l2:o.2.length<=n
theorem dQ{l:List DT}(K:100<F)(O:l.length<=40):f26 F l l=some true:=by
 refine Fo ?_;unfold f26;refine AG (S:=λq=>q=Sum.inr ()) ?_ (by rintro q rfl;exact An (by simp));refine Dt l.length (λi s=>s=(i:Int)) V (by omega) ?_ ?_;rintro i s hi rfl;unfold P1;refine AG (S:=λc=>c=true) (B3 (by omega) (An (qf (by omega)))) ?_;rintro c rfl;refine B3 V (Bi (m:=i) V hi ?_);refine Bi (m:=i) V hi (Cb (by simp) ?_);exact Ao.E ((i+1:Nat):Int) (by simp) (An V);rintro s rfl;unfold P1;refine AG (S:=λc=>c=false) (Cb (by omega) (An V)) ?_;rintro c rfl;exact Cb (by simp) (An ⟨_,V,V⟩)
theorem P8(F:Nat)(a lo hi:Int):f92 F a lo hi=some (decide (lo<=a/\a<=hi)):=by
 unfold f92;by_cases h:lo<=a;rw[eS h];simp[h];rw[d9 h];simp[h]
variable{o:OW}
theorem Z7{i:Int}(h:ix o.1 i=some l):PZ F l=NR F o i:=by
 funext j;unfold PZ NR;rw[h];rfl
theorem ZX(F:Nat)(o:OW):P5 F o=NL F o:=by
 funext i;unfold P5 NL;split;rcases h:ix o.1 i with _ | l;rfl;simp only[Option.bind_some];rw[Z7 h];rfl
theorem eE(F:Nat)(o:OW):f47 F o=f48 F o:=by
 unfold f47 f48;rw[ZX];rfl
def VD(n:Nat)(d:DT):Prop:=0<=d.1/\d.1<(n:Int)/\0<=d.2.1/\d.2.1<(n:Int)/\d.1≠d.2.1/\1<=d.2.2/\d.2.2<=9
def CS(x:List Int):Prop:=x.length<=3/\∀c∈x,1<=c/\c<=9
structure VO (o:OW):Prop where
 n2:2<=o.1.length
 n5:o.1.length<=5
 cs:∀x∈o.1,CS x
 d8:o.2.length<=8
 ds:∀d∈o.2,VD o.1.length d
theorem VO.nv(h:VO o):NV 40 o:=⟨by have:=h.n5;omega,λx K=>by have:=(h.cs x K).1;omega,by have:=h.d8;omega⟩
variable{i:Nat}
theorem Kc{α:Type}{P:α->Prop}{l:List α}(hi:i<l.length)(h:∀x∈l.take i,P x)(k:P l[i]):∀x∈l.take (i+1),P x:=by
 intro x K;rw[qE,d6 hi] at K;simp only[rQ,pg,d7] at K;rcases K with K | rfl;exact h x K;exact k
variable{d:DT}{n:Nat}
theorem fa(Y:n<1000):Ao (f88 F (n:Int) d 9) (λr=>r=0↔VD n d):=by
 unfold f88;refine Ao.E ((n:Int) - 1) V (Bg (P8 _ _ _ _) ?_);refine AG (S:=λc=>c=true↔¬((0<=d.1/\d.1<(n:Int))/\0<=d.2.1/\d.2.1<(n:Int))) ?_ ?_;refine Bs (λh=>An ?_) (λh=>?_);simp at h;simp;omega;refine Ao.E ((n:Int) - 1) V (Bg (P8 _ _ _ _) ?_);refine An ?_;simp at h;simp;omega
 .intro c O;refine Bs (λh=>An ?_) (λh=>?_);have:=O.1 h;unfold VD;constructor;intro h;cases h;intro h;omega
  have Z:¬¬_:=λk=>h (O.2 k);refine Bs (λU=>An ?_) (λU=>?_);unfold VD;constructor;intro h;cases h;intro h;omega
  refine Bg (P8 _ _ _ _) (Bs (λK=>An ?_) (λK=>An ?_));simp at K;unfold VD;constructor;intro h;cases h;intro h;omega;simp at K;unfold VD;constructor;intro h;omega;intro h;rfl
theorem gG(Z:100<F)(h:NV 40 o):Ao (f48 F o) (λr=>r=0↔VO o):=by
 unfold f48;have ac:=h.l1;have ag:=h.l2;refine Bs (λg=>An (rX (by decide) λv=>by have:=v.n2;omega)) (λai=>?_);refine Bs (λg=>An (rX (by decide) λv=>by have:=v.n5;omega)) (λg2=>?_);refine AG (S:=λq=>(∃e,q=Sum.inl e/\e≠0/\¬∀x∈o.1,CS x)∨(q=Sum.inr ()/\∀x∈o.1,CS x)) ?_ ?_
 .refine Dt o.1.length (λi s=>s=(i:Int)/\∀x∈o.1.take i,CS x) ⟨V,by simp⟩ (by omega) ?_ ?_
  .rintro i s hi ⟨rfl,K⟩;unfold NL;refine B3 (by omega) (Bi (m:=i) V hi ?_);have al:=h.n1 _ (pj hi);refine Bs (λg=>An (.inl ⟨_,V,by decide,λk=>by have:=(k _ (pj hi)).1;omega⟩)) (λam=>?_);refine AG (S:=λq=>(q=Sum.inl 1/\¬CS o.1[i])∨(q=Sum.inr ()/\CS o.1[i])) ?_ ?_
   .refine Dt o.1[i].length (λj s=>s=(j:Int)/\∀c∈o.1[i].take j,1<=c/\c<=9) ⟨V,by simp⟩ (by omega) ?_ ?_
    .rintro j s U ⟨rfl,O⟩;unfold NR;refine Bi (m:=i) V hi (B3 (by omega) ?_);refine Bi (m:=i) V hi (Bi (m:=j) V U ?_);refine Bg (P8 _ _ _ _) (Bs (λg=>An (.inl ⟨V,λk=>?_⟩)) (λg=>?_));have:=k.2 _ (pj U);simp at g;omega
     refine Ao.E ((j+1:Nat):Int) (by simp) (An ⟨V,Kc U O ?_⟩);simpa using g
    .rintro s ⟨rfl,O⟩;unfold NR;refine Bi (m:=i) V hi ?_;rw[qk] at O;exact Cb (by omega) (An ⟨_,V,.inr ⟨V,by omega,O⟩⟩)
   .rintro q (⟨rfl,g⟩ | ⟨rfl,g⟩);rw[Sum.elim_inl];exact An (.inl ⟨_,V,by decide,λk=>g (k _ (pj hi))⟩);rw[Sum.elim_inr];exact Ao.E ((i+1:Nat):Int) (by simp) (An ⟨V,Kc hi K g⟩)
  .rintro s ⟨rfl,K⟩;unfold NL;rw[qk] at K;exact Cb (by omega) (An ⟨_,V,.inr ⟨V,K⟩⟩)
 .rintro q (⟨e,rfl,he,g⟩ | ⟨rfl,O⟩);rw[Sum.elim_inl];exact An (rX he λv=>g v.cs);rw[Sum.elim_inr];refine Bs (λg=>An (rX (by decide) λv=>by have:=v.d8;omega)) (λg2=>?_);refine AG (S:=λq=>(∃e,q=Sum.inl e/\e≠0/\¬∀d∈o.2,VD o.1.length d)∨(q=Sum.inr ()/\∀d∈o.2,VD o.1.length d)) ?_ ?_;refine Dt o.2.length (λi s=>s=(i:Int)/\∀d∈o.2.take i,VD o.1.length d) ⟨V,by simp⟩ (by omega) ?_ ?_;rintro i s hi ⟨rfl,K⟩;unfold Sp;refine B3 (by omega) (Bi (m:=i) V hi ?_);refine AG (fa (by omega)) ?_;intro x Y;refine Bs (λg=>An (.inl ⟨_,V,g,λk=>g (Y.2 (k _ (pj hi)))⟩)) (λg=>?_);exact Ao.E ((i+1:Nat):Int) (by simp) (An ⟨V,Kc hi K (Y.1 (qY.1 g))⟩);rintro s ⟨rfl,K⟩;unfold Sp;rw[qk] at K;exact Cb (by omega) (An ⟨_,V,.inr ⟨V,K⟩⟩);rintro q (⟨e,rfl,he,g⟩ | ⟨rfl,g⟩);rw[Sum.elim_inl];exact An (rX he λv=>g v.ds);rw[Sum.elim_inr];exact An (tN V ⟨by omega,by omega,O,by omega,g⟩)
theorem ez(K:100<F)(h:NV 40 o):Ao (f47 F o) (λr=>r=0↔VO o):=eE F o▸gG K h
theorem iv(K:100<F)(h:VO o):f47 F o=some 0:=by
 let⟨r,O,U⟩:=ez K h.nv;rw[O,U.2 h]
theorem S2(K:100<F)(h:VO o):f70 F o []=some (o,0):=by
 obtain⟨F,rfl⟩:∃k,F=k+1:=⟨F - 1,by omega⟩;unfold f70;rw[iv K h]
 rfl
theorem aC(a n:Int):a%n=(a - n)%n:=by
 have h:a=(a - n)+n*1:=by omega
 conv=>lhs;rw[h]
 exact Int.add_mul_emod_self_left _ _ _
theorem eB{k:Nat}(hb:BG k b)(aq:k<900000)(av:2<=n)(aw:n<900):Ao (f40 F b (n:Int)) (λr=>VD n r.1/\BG (k+4) r.2):=by
 unfold f40;refine Ao.E ((n:Int) - 1) V (AG (MI hb (by omega) (by omega)) ?_);rintro⟨x,ay⟩ ⟨O,g2,U⟩;simp only at O g2 U ⊢;refine AG (Ss U (by omega) (by omega) (by omega) (by omega)) ?_;rintro⟨x2,az⟩ ⟨a1,al,Y⟩;simp only at a1 al Y ⊢;refine AG (WU Y (by omega) (by simp) (by simp)) ?_;rintro⟨Z,a0⟩ ⟨ac,ag⟩;simp only at ac ag ⊢;refine Ao.E ((n:Int) - 1) V (AG (Ss ag (by omega) (by omega) (by omega) (by omega)) ?_);rintro⟨K,a2⟩ ⟨am,ap,ai⟩;simp only at am ap ai ⊢;refine Ao.E (x+K) V (Bg (b:=(x+K).tmod n) (by unfold Qy;rw[d9 (by omega)]) ?_);refine An ⟨?_,ai⟩;have e:(x+K).tmod n=(x+K)%n:=Int.tmod_eq_emod_of_nonneg (by omega);have p3:1<=Z/\Z<=9:=by
  simp only[iO,pn,qu] at ac;omega
 have a3:(x+K)%(n:Int)<n:=Int.emod_lt_of_pos _ (by omega);have a4:0<=(x+K)%(n:Int):=Int.emod_nonneg _ (by omega);have a5:x≠(x+K)%(n:Int):=by
  rcases Int.lt_or_le (x+K) n with h | h;rw[Int.emod_eq_of_lt (by omega) h];omega;rw[aC,Int.emod_eq_of_lt (by omega) (by omega)];omega
 refine⟨O,?_,?_,?_,?_,p3.1,p3.2⟩<;>simp only[e]<;>omega
theorem eX{k pm dm:Nat}(a4:100<F)(hb:BG k b)(a5:k<1000)(a6:2<=pm)(a7:pm<=5)(hd:dm<=8):Ao (f31 F b pm dm) (λr=>VO r.1/\r.1.1.length<=pm/\r.1.2.length<=dm/\BG (k+100) r.2):=by
 unfold f31;refine AG (Ss hb (by omega) (by omega) (by omega) (by omega)) ?_;rintro⟨n,a8⟩ ⟨n1,n2,aw⟩;simp only at n1 n2 aw ⊢;obtain⟨n,rfl⟩:∃m:Nat,n=(m:Int):=⟨n.toNat,by omega⟩;refine AG (dX aw (by omega) (by omega) (by omega)) ?_;rintro⟨a9,bb⟩ g2;simp only at g2 ⊢;refine AG (S:=λr=>r.2.2.2.length=n/\(∀x∈r.2.2.2,CS x)/\BG (k+30) (r.1,r.2.1,r.2.2.1)) ?_ ?_;refine Dt n (λi s=>s.2.2.2.2=(i:Int)/\s.1.length=i/\(∀x∈s.1,CS x)/\BG (k+2+5*i) (s.2.1,s.2.2.1,s.2.2.2.1)) ⟨V,V,by simp,g2⟩ (by omega) ?_ ?_;rintro i ⟨ps,l,t,ag,c⟩ hi ⟨ai,al,am,K⟩;simp only at ai al am K;subst ai;unfold P4;refine B3 (by simp only;omega) (AG (MI K (by omega) (by omega)) ?_);rintro⟨c,be⟩ ⟨c1,c2,ap⟩;simp only at c1 c2 ap ⊢;obtain⟨c,rfl⟩:∃m:Nat,c=(m:Int):=⟨c.toNat,by omega⟩;refine AG (S:=λr=>CS r.1/\BG (k+2+5*i+1+c) r.2) ?_ ?_;refine Dt c (λj s=>s.2.2.2.2=((c - j:Nat):Int)/\s.2.2.2.1.length=j/\(∀v∈s.2.2.2.1,1<=v/\v<=9)/\BG (k+2+5*i+1+j) (s.1,s.2.1,s.2.2.1)) ⟨V,V,by simp,ap⟩ (by omega) ?_ ?_;rintro j ⟨l,t,ag,w,z⟩ a2 ⟨U,hw,O,K⟩;simp only at U hw O K;subst U;unfold PS;refine B3 (by simp only;omega) (AG (S:=λr=>r.1.length=j+1/\(∀v∈r.1,1<=v/\v<=9)/\BG (k+2+5*i+1+(j+1)) r.2) ?_ ?_);refine Bs (λ_=>?_) (λ_=>?_);refine Jp (by simp only;omega) (An ⟨by simp[hw],?_,K.M (by omega)⟩);intro v h;rcases pg.1 h with h | h;exact O v h;have:=d7.1 h;omega;refine AG (WU K (by omega) (by simp) (by simp)) ?_;rintro⟨v,a3⟩ ⟨ay,aq⟩;simp only at ay aq ⊢;refine Jp (by omega) (An ⟨by simp[hw],?_,aq⟩);intro u h;rcases pg.1 h with h | h;exact O u h;have:=d7.1 h;subst this;simp only[iO,pn,qu] at ay;omega;rintro⟨w',l',bi,bn⟩ ⟨Z,av,ac⟩;simp only at Z ac av ⊢;exact Ao.E ((c - (j+1):Nat):Int) (by omega) (An ⟨V,Z,av,ac⟩);rintro⟨l,t,ag,w,z⟩ ⟨U,hw,O,K⟩;simp only at U hw O K;subst U;unfold PS;exact Cb (by simp) (An ⟨_,V,⟨by simp only;omega,O⟩,K⟩);rintro⟨w,a3⟩ ⟨Z,ac⟩;simp only at Z ac ⊢;refine Jp (by omega) (Ao.E ((i+1:Nat):Int) (by simp) ?_);refine An ⟨V,by simp[al],λx Y=>?_,ac.M (by omega)⟩;simp only[pg,d7] at Y;rcases Y with Y | rfl;exact am x Y;exact Z;rintro⟨ps,l,t,ag,c⟩ ⟨ai,al,am,K⟩;simp only at ai al am K;subst ai;unfold P4;exact Cb (by simp) (An ⟨_,V,al,am,K.M (by omega)⟩);rintro⟨l,t,ag,ps⟩ ⟨p1,p2,ap⟩;simp only at p1 p2 ap ⊢;refine AG (MI ap (by omega) (by omega)) ?_;rintro⟨c,bo⟩ ⟨c1,c2,aq⟩;simp only at c1 c2 aq ⊢;obtain⟨c,rfl⟩:∃m:Nat,c=(m:Int):=⟨c.toNat,by omega⟩;refine AG (S:=λr=>r.2.2.2.length<=dm/\(∀d∈r.2.2.2,VD n d)/\BG (k+100) (r.1,r.2.1,r.2.2.1)) ?_ ?_;refine Dt c (λj s=>s.2.2.2.2=((c - j:Nat):Int)/\s.1.length=j/\(∀d∈s.1,VD n d)/\BG (k+31+4*j) (s.2.1,s.2.2.1,s.2.2.2.1)) ⟨V,V,by simp,aq.M (by omega)⟩ (by omega) ?_ ?_;rintro j ⟨az,l,t,ag,z⟩ a2 ⟨U,hw,O,K⟩;simp only at U hw O K;subst U;unfold PQ;refine B3 (by simp only;omega) (AG (eB K (by omega) (by omega) (by omega)) ?_);rintro⟨d,bv⟩ ⟨a0,a1⟩;simp only at a0 a1 ⊢;refine Ao.Oe (by simp;omega) (Ao.E ((c - (j+1):Nat):Int) (by omega) ?_);refine An ⟨V,by simp[hw],?_,a1.M (by omega)⟩;intro x Y;rcases pg.1 Y with Y | Y;exact O x Y;cases d7.1 Y;exact a0;rintro⟨az,l,t,ag,z⟩ ⟨U,hw,O,K⟩;simp only at U hw O K;subst U;unfold PQ;exact Cb (by simp) (An ⟨_,V,by simp only;omega,O,K.M (by omega)⟩);rintro⟨l,t,ag,az⟩ ⟨Z,av,ac⟩;simp only at Z ac av ⊢;exact An ⟨⟨by simp only;omega,by simp only;omega,p2,by simp only;omega,by simp only;rw[p1];exact av⟩,by simp only;omega,Z,ac⟩
abbrev PR:=Int×Int
def gN(l:List Int)(i:Nat):Int:=l.getD i 0
def Gw(l:List Int)(i v:Int):List Int:=l.set i.toNat (gN l i.toNat+v)
def BN(B:Int)(l:List Int):Prop:=l.length=5/\∀x∈l,-B<=x/\x<=B
theorem P6(h:i<l.length):gN l i=l[i]:=by unfold gN;rw[gJ,d6 h];rfl
variable{B:Int}
theorem BN.bd(h:BN B l)(hi:i<5): -B<=gN l i/\gN l i<=B:=by
 rw[P6 (by have:=h.1;omega)];exact h.2 _ (pj _)
theorem BN.ix(h:BN B l){i:Int}(K:0<=i)(hi:i<5):ix l i=some (gN l i.toNat):=by
 have:=h.1;rw[P6 (show i.toNat<l.length by omega)];exact HO (m:=i.toNat) (by omega) (d6 _)
theorem BN.M{C:Int}(h:BN B l)(O:B<=C):BN C l:=⟨h.1,λx K=>by have:=h.2 x K;omega⟩
variable{v:Int}
theorem BN.add{V:Int}(h:BN B l){i:Int}(O:0<=i)(hi:i<5)(U: -V<=v)(Y:v<=V):BN (B+V) (Gw l i v):=by
 have hb:=h.bd (i:=i.toNat) (by omega);refine⟨by unfold Gw;rw[pE];exact h.1,λx K=>?_⟩;rcases rx K with K | rfl;have:=h.2 x K;omega;omega
theorem IT{i:Int}(h:l.length=5)(K:0<=i)(hi:i<5)(j:Nat):gN (Gw l i v) j=gN l j+if(j:Int)=i then v else 0:=by
 unfold Gw gN;rw[gJ,p8,gJ,gJ];by_cases e:i.toNat=j;rw[eS e,eS (by omega),eS (by omega),e];rfl;rw[d9 e,d9 (by omega),Int.add_zero]
theorem br{l':List Int}(h:l.length=5)(U:l'.length=5)(k:∀j,j<5->gN l j=gN l' j):l=l':=by
 refine List.ext_getElem (by omega) λj K O=>?_;rw[← P6 K,← P6 O];exact k j (by omega)
def Ht(l:List Int)(d:DT):List Int:=Gw (Gw l d.1 d.2.2) d.2.1 (-d.2.2)
def Kq(l:List Int)(d:DT):List Int:=Gw (Gw l d.2.1 d.2.2) d.1 (-d.2.2)
def BS(o:OW):List Int:=o.2.foldl Kq (List.replicate 5 0)
theorem VH(h:BN B l)(a1:0<=d.1)(O:d.1<5)(U:0<=d.2.1)(Y:d.2.1<5)(p1: -B<=d.2.2)(p2:d.2.2<=B)(Z:B<=1000000000000):N4 F l d=some (Ht l d)/\BN (3*B) (Ht l d):=by
 have K:=h.add a1 O p1 p2;have g2:=K.add U Y (show -B<= -d.2.2 by omega) (by omega);have k1:=h.bd (i:=d.1.toNat) (by omega);have ac:=K.bd (i:=d.2.1.toNat) (by omega);refine⟨?_,g2.M (by omega)⟩;refine Fo ?_;unfold N4;refine Bg (h.ix a1 O) ?_;refine Ao.E _ V ?_;refine Bg (h.ix a1 O) ?_;refine Bg (K.ix U Y) ?_;refine Ao.E _ V ?_;refine Bg (K.ix U Y) ?_;exact An V
theorem NM(ac:100<F)(h:VO o):f84 F o=some (BS o)/\BN 200 (BS o):=by
 have ag:=h.n5;have ai:=h.d8;have:Ao (f84 F o) (λr=>r=BS o/\BN 200 r):=by
  unfold f84;refine AG (S:=λr=>r=BS o/\BN 200 r) ?_ (λr U=>An U);refine Dt o.2.length (λi s=>s.2=(i:Int)/\s.1=(o.2.take i).foldl Kq (List.replicate 5 0)/\BN (20*i) s.1) ⟨rfl,rfl,rfl,by simp⟩ (by omega) ?_ ?_
  .rintro i ⟨w,c⟩ hi ⟨K,hw,hb⟩;simp only at K hw hb;subst K;let⟨v1,v2,al,v4,am,v6,ap⟩:=h.ds _ (pj hi);have O:=hb.add (i:=o.2[i].2.1) (v:=o.2[i].2.2) (V:=10) (by omega) (by omega) (by omega) (by omega);have g2:=O.add (i:=o.2[i].1) (v:= -o.2[i].2.2) (V:=10) (by omega) (by omega) (by omega) (by omega);have k1:=hb.bd (i:=o.2[i].2.1.toNat) (by omega);have aq:=O.bd (i:=o.2[i].1.toNat) (by omega);unfold P0;refine B3 (by simp only;omega) (Bi (m:=i) rfl hi ?_);refine Bg (hb.ix (by omega) (by omega)) (Ao.E _ rfl ?_);refine Bg (hb.ix (by omega) (by omega)) (Bg (O.ix (by omega) (by omega)) ?_);refine Ao.E _ rfl (Bg (O.ix (by omega) (by omega)) ?_);refine Ao.E ((i+1:Nat):Int) (by simp) (An ⟨rfl,?_,g2.M (by omega)⟩);simp only;rw[qE,d6 hi,rS,← hw]
   rfl
  .rintro⟨w,c⟩ ⟨K,hw,hb⟩;simp only at K hw hb;subst K;unfold P0;rw[qk] at hw;exact Cb (by simp) (An ⟨_,rfl,hw,hb.M (by omega)⟩)
 obtain⟨r,Y,rfl,Z⟩:=this;exact⟨Y,Z⟩
theorem bg(hi:i<l.length):(l.take (i+1)).sum=(l.take i).sum+l[i]:=by
 rw[qE,d6 hi,List.sum_append];simp only[rQ,qO,tM];omega
theorem Wt(ag:100<F)(ai:l.length<=20)(hb:∀x∈l,-1000<=x/\x<=1000):f85 F l=some l.sum/\ -20000<=l.sum/\l.sum<=20000:=by
 have:Ao (f85 F l) (λr=>r=l.sum/\ -20000<=r/\r<=20000):=by
  unfold f85;refine AG (S:=λr=>r=l.sum/\ -20000<=r/\r<=20000) ?_ (λr Y=>An Y);refine Dt l.length (λi s=>s.2=(i:Int)/\s.1=(l.take i).sum/\ -(1000*(i:Int))<=s.1/\s.1<=1000*(i:Int)) ⟨V,V,by simp,by simp⟩ (by omega) ?_ ?_;rintro i ⟨w,c⟩ hi ⟨K,hw,O,U⟩;simp only at K hw O U;subst K;have al:=hb _ (pj hi);unfold P7;refine B3 (by simp only;omega) (Bi (m:=i) V hi ?_);refine Ao.E _ V (Ao.E ((i+1:Nat):Int) (by simp) ?_);refine An ⟨V,?_,?_,?_⟩;simp only;rw[bg hi,hw];simp only;omega;simp only;omega;rintro⟨w,c⟩ ⟨K,hw,O,U⟩;simp only at K hw O U;subst K;unfold P7;rw[qk] at hw;exact Cb (by simp) (An ⟨_,V,hw,by simp only;omega,by simp only;omega⟩)
 obtain⟨r,Z,rfl,ac⟩:=this;exact⟨Z,ac⟩
def VP(n:Nat)(x:PR):Prop:=0<=x.1/\x.1<x.2/\x.2<(n:Int)
def I5(b:Nat)(k:Nat):List PR:=(List.range k).map λa:Nat=>((a:Int),(b:Int))
def Eu(n:Nat):List PR:=(List.range n).flatMap λb=>I5 b b
theorem Zv(b k:Nat):I5 b (k+1)=I5 b k++ [((k:Int),(b:Int))]:=by unfold I5;rw[tx,ql];rfl
theorem Yc(n:Nat):Eu (n+1)=Eu n++I5 n n:=by unfold Eu;rw[tx,List.flatMap_append];simp
theorem Rx{x:PR}(h:x∈Eu n):VP n x:=by
 unfold Eu I5 at h;let⟨b,hb,h⟩:=List.mem_flatMap.1 h;obtain⟨a,K,rfl⟩:=pO.1 h;have:=pw.1 hb;have:=pw.1 K;exact⟨by simp only;omega,by simp only;omega,by simp only;omega⟩
theorem U2(b k:Nat):(I5 b k).length=k:=by unfold I5;simp
theorem TV(h:n<=5):(Eu n).length<=10:=by
 have e:∀n,n<=5->(Eu n).length<=n*2:=by
  intro n K
  match n,K with
  | 0,_ | 1,_ | 2,_ | 3,_ | 4,_ | 5,_=>decide
 have:=e n h;omega
theorem dv(Z:100<F)(ac:o.1.length<=5):f133 F o=some (Eu o.1.length):=by
 refine Fo ?_;unfold f133;refine AG (S:=λr=>r=Eu o.1.length) ?_ (λr Y=>An Y);refine Dt o.1.length (λi s=>s.2=(i:Int)/\s.1=Eu i/\s.1.length<=10*i) ⟨V,V,by simp⟩ (by omega) ?_ ?_
 .rintro i ⟨w,c⟩ hi ⟨K,hw,U⟩;simp only at K hw U;subst K;unfold O5;refine B3 (by simp only;omega) (AG (S:=λr=>r=Eu i++I5 i i) ?_ ?_)
  .refine Dt i (λa s=>s.2=(a:Int)/\s.1=Eu i++I5 i a) ⟨V,by simp[I5,hw]⟩ (by omega) ?_ ?_
   .rintro a ⟨v,c⟩ ag ⟨K,O⟩;simp only at K O;subst K;unfold Pw;refine B3 (by simp only;omega) (Jp ?_ ?_);rw[O,← hw,pA,U2];omega
    refine Ao.E ((a+1:Nat):Int) (by simp) (An ⟨V,?_⟩);simp only;rw[Zv,O,pF]
   .rintro⟨v,c⟩ ⟨K,O⟩;simp only at K O;subst K;unfold Pw;exact Cb (by simp) (An ⟨_,V,O⟩)
  .rintro r rfl;refine Ao.E ((i+1:Nat):Int) (by simp) (An ⟨V,(Yc i).symm,?_⟩);simp only;rw[pA,U2,← hw];omega
 .rintro⟨w,c⟩ ⟨K,hw,U⟩;simp only at K hw U;subst K;unfold O5;exact Cb (by simp) (An ⟨_,V,hw⟩)
def BC(p:Int)(x:PR):Bool:=decide (x.1=p) || decide (x.2=p)
theorem TF{α:Type}{p:α->Bool}:∀{l:List α}{a:Nat},l.countP p=1->∀O:a<l.length,p l[a]=true->l.findIdx p=a
 | x::xs,0,_,_,K=>by
  have K:p x=true:=K
  rw[tc,K];rfl
 | x::xs,a+1,h,O,K=>by
  have K:p (xs[a]'(by simpa using O))=true:=K
  have Y:0<xs.countP p:=se.2 ⟨_,pj _,K⟩
  by_cases U:p x=true;rw[List.countP_cons_of_pos U] at h;omega;rw[List.countP_cons_of_neg U] at h;rw[tc,pz.2 U];simp only[cond_false];rw[TF h (by simpa using O) K]
def Kk(n:Nat)(l:List PR):Option Nat:=(List.range n).find? λp=>l.countP (BC p)==1
def dP(p:Int)(x:PR)(m:Int):DT:=if 0<m then(x.1+x.2 - p,p,m) else(p,x.1+x.2 - p,-m)
def Ex(n:Nat):Nat->List PR->List Int->List DT->Option (List DT)
 | 0,_,w,out=>if w=List.replicate 5 0 then some out else none
 | k+1,l,w,out=>(Kk n l).bind λp=>
   if gN w p=0 then none else
    Ex n k (l.eraseIdx (l.findIdx (BC p))) (Ht w (dP p (l.getD (l.findIdx (BC p)) (0,0)) (gN w p))) (out++ [dP p (l.getD (l.findIdx (BC p)) (0,0)) (gN w p)])
def N6:Option (List DT)->Bool×List Int×List DT
 | none=>(true,default)
 | some out=>(false,List.replicate 5 0,out)
theorem YW{l:List PR}{p:Int}(al:100<F)(am:l.length<=20):Ao (Pal.iter (ND F l p) F (0,0,0)) (λr=>r.2=((l.countP (BC p):Nat):Int)/\(r.2=1->r.1=(l.findIdx (BC p):Nat)/\l.findIdx (BC p)<l.length)):=by
 refine Dt l.length (λi s=>s.2.2=(i:Int)/\s.2.1=(((l.take i).countP (BC p):Nat):Int)/\(s.2.1≠0->∃a,s.1=((a:Nat):Int)/\∃h:a<l.length,BC p l[a]=true)) ⟨V,by simp,by simp⟩ (by omega) ?_ ?_
 .rintro i ⟨a,m,c⟩ hi ⟨K,hm,O⟩;simp only at K hm O;subst K;have hle:(l.take i).countP (BC p)<=i:=by
   refine qg List.countP_le_length ?_;rw[r6];omega
  unfold ND;refine B3 (by simp only;omega) (Bi (m:=i) V hi ?_);refine AG (S:=λc=>c=BC p l[i]) ?_ ?_;unfold BC;refine Bs (λh=>An (by simp[h])) (λh=>An (by simp[h]))
  rintro c rfl;have key:(l.take (i+1)).countP (BC p)=(l.take i).countP (BC p)+if BC p l[i]=true then 1 else 0:=by
   rw[qE,d6 hi,List.countP_append];simp only[rQ,sM,List.countP_nil,qZ]
  refine AG (S:=λr=>r.2=(((l.take (i+1)).countP (BC p):Nat):Int)/\(r.2≠0->∃a,r.1=((a:Nat):Int)/\∃h:a<l.length,BC p l[a]=true)) ?_ ?_;refine Bs (λh=>?_) (λh=>?_);refine Lr (((l.take (i+1)).countP (BC p):Nat):Int) ?_ (by omega) ?_ (An ⟨V,λ_=>⟨i,V,hi,h⟩⟩);rw[key,eS h,hm];rfl;rw[key,eS h];omega;exact An ⟨by rw[key,d9 h];exact hm,O⟩;rintro⟨ap,m'⟩ ⟨U,Y⟩;simp only at U Y ⊢;exact Ao.E ((i+1:Nat):Int) (by simp) (An ⟨V,U,Y⟩)
 .rintro⟨a,m,c⟩ ⟨K,hm,O⟩;simp only at K hm O;subst K;rw[qk] at hm;unfold ND;refine Cb (by simp) (An ⟨_,V,hm,λac=>?_⟩);simp only at ac;obtain⟨k,ag,Z,ai⟩:=O (by omega);have:=TF (p:=BC p) (l:=l) (a:=k) (by omega) Z ai;simp only;rw[this];exact⟨ag,Z⟩
theorem T6{l:List PR}(hi:i<n)(K:l.countP (BC i)=1)(h:∀p,p<i->l.countP (BC p)≠1):Kk n l=some i:=by
 unfold Kk;rw[qP];exact⟨by simp[K],pw.2 hi,λj O=>by simpa using h j O⟩
theorem YR{l:List PR}(h:∀p,p<n->l.countP (BC p)≠1):Kk n l=none:=by
 unfold Kk;rw[q6];intro p K;simpa using h p (pw.1 K)
theorem W6{p:Nat}{x:PR}{m:Int}(U:n<=5)(O:VP n x)(K:BC p x=true)(Y: -B<=m)(Z:m<=B):0<=(dP p x m).1/\(dP p x m).1<5/\0<=(dP p x m).2.1/\(dP p x m).2.1<5/\0<=(dP p x m).2.2/\(dP p x m).2.2<=B:=by
 obtain⟨v1,v2,ac⟩:=O;unfold BC at K;simp at K;unfold dP;split<;>simp only<;>omega
theorem Mw{α:Type}{l:List α}{d:α}(h:i<l.length):l.getD i d=l[i]:=by rw[gJ,d6 h];rfl
theorem Wc{F n:Nat}{q:OW}(Z:100<F)(ay:q.1.length=n)(al:n<=5):∀(k N:Nat) (l:List PR) (w:List Int) (out:List DT) (B:Int),l.length=k->k<N->k<=10->(∀x∈l,VP n x)->BN B w->0<=B->B*3^k<=1000000000000->out.length+k<=100->MK N F l w q out=some (N6 (Ex n k l w out))
 | 0,N,l,w,out,B,az,a0,_,ac,hw,am,ap,a1=>by
  obtain⟨N,rfl⟩:∃k,N=k+1:=⟨N - 1,by omega⟩
  refine Fo ?_
  simp only[MK]
  unfold NQ Ex
  refine B3 (by omega) ?_
  refine Bs (λh=>An ?_) (λh=>An ?_);rw[d9 h];rfl;have h:=qY.1 h;rw[eS h,h];rfl
 | k+1,N,l,w,out,B,az,a0,bn,ac,hw,am,ap,a1=>by
  obtain⟨N,rfl⟩:∃k,N=k+1:=⟨N - 1,by omega⟩;refine Fo ?_;simp only[MK];unfold NQ;refine Cb (by omega) ?_;have a2:B*3^(k+1)=(3*B)*3^k:=by rw[Int.pow_succ];rw[tk (3^k) 3,← Int.mul_assoc,tk B 3]
  have a3:B<=1000000000000:=by
   have ag:(1:Int)<=3^(k+1):=by
    have:(0:Int)<3^(k+1):=Int.pow_pos (by decide);omega
   have:=sW ag am;omega
  refine AG (S:=λr=>r=Sum.inl (N6 (Ex n (k+1) l w out))∨(r=Sum.inr ()/\Kk n l=none)) ?_ ?_
  .refine Dt n (λi s=>s=(i:Int)/\∀p,p<i->l.countP (BC (p:Nat))≠1) ⟨V,by simp⟩ (by omega) ?_ ?_
   .rintro i s hi ⟨rfl,O⟩;unfold PE;refine B3 (by omega) (AG (S:=λr=>(r=Sum.inr ()/\l.countP (BC i)≠1)∨r=Sum.inl (N6 (Ex n (k+1) l w out))) ?_ ?_)
    .refine AG (YW Z (by omega)) ?_;rintro⟨a,m⟩ ⟨aq,U⟩;simp only at aq U ⊢;refine Bs (λh=>An (.inl ⟨V,λag=>h (by rw[aq,ag];rfl)⟩)) (λh=>?_);have h:=qY.1 h;let⟨U,K⟩:=U h;have a4:l.countP (BC i)=1:=by omega
     subst U;have a5:=T6 hi a4 O;refine Bi (m:=l.findIdx (BC i)) V K (Bi (m:=l.findIdx (BC i)) V K ?_);have a6:BC i l[l.findIdx (BC i)]=true:=r7;have Y:=ac _ (pj K);have a7:=Y;obtain⟨x1,x2,bo⟩:=a7;have hb:=hw.bd (i:=i) (by omega);refine Ao.E (-(i:Int)) V (Bg (hw.ix (by omega) (by omega)) ?_);rw[show Int.toNat (i:Int)=i by omega];refine Bg (Wt (l:=[_,_,_]) Z (by simp) (by simp;omega)).1 (Ao.E (-(gN w i)) V ?_);have av:Ex n (k+1) l w out=if gN w i=0 then none else Ex n k (l.eraseIdx (l.findIdx (BC i))) (Ht w (dP i l[l.findIdx (BC i)] (gN w i))) (out++ [dP i l[l.findIdx (BC i)] (gN w i)]):=by
      simp only[Ex,a5,Option.bind_some,Mw K]
     refine Bs (λh=>An (.inr ?_)) (λh=>?_);rw[av,eS (by omega)];rfl
     have aw:=av;rw[d9 (show ¬gN w i=0 by omega)] at aw;rw[aw];refine AG (S:=λr=>r=dP i l[l.findIdx (BC i)] (gN w i)) ?_ ?_;unfold dP;refine Bs (λh=>?_) (λh=>?_);refine Ao.E (gN w i) (by omega) (An ?_);rw[eS (by omega)];simp only[qO,tM];refine sK ?_ V;simp only;omega;refine An ?_;rw[d9 (by omega)];simp only[qO,tM];refine sK V (sK ?_ V);simp only;omega
     rintro d rfl;let⟨a8,e2,a9,bb,bv,be⟩:=W6 al Y a6 hb.1 hb.2;obtain⟨bi,g2⟩:=VH (F:=F) hw a8 e2 a9 bb (by omega) be a3;refine Bg bi (Ao.Oe (by simp;omega) ?_);refine Bg (b:=l.take (l.findIdx (BC i))) (by unfold HT;rw[eS (by omega)];simp) (Ao.E ((l.findIdx (BC i)+1:Nat):Int) (by simp) ?_);refine Bg (b:=l.drop (l.findIdx (BC i)+1)) ?_ ?_;unfold HT;rw[eS (by omega),show Int.toNat (l.length:Int)=l.length by omega,qk,show Int.toNat ((l.findIdx (BC i)+1:Nat):Int)=l.findIdx (BC i)+1 by omega]
     refine Ao.Oe (by simp;omega) ?_;have he:l.take (l.findIdx (BC i))++l.drop (l.findIdx (BC i)+1)=l.eraseIdx (l.findIdx (BC i)):=(sO _ _).symm;rw[he];have hle:(l.eraseIdx (l.findIdx (BC i))).length=k:=by rw[r8 K];omega
     refine Bg (Wc Z ay al k N _ _ _ (3*B) hle (by omega) (by omega) (λx Y=>ac x (q9 Y)) g2 (by omega) (by rw[← a2];exact ap) (by simp;omega)) ?_;rcases Ex n k _ _ _ with _ | r;exact B3 V (An (.inr V));exact Cb (by simp[N6]) (An (.inr V))
    .rintro r (⟨rfl,h⟩ | rfl);rw[Sum.elim_inr];refine Ao.E ((i+1:Nat):Int) (by simp) (An ⟨V,λp ai=>?_⟩);rcases tl.1 ai with ai | rfl;exact O p ai;exact h;rw[Sum.elim_inl];exact An (.inl V)
   .rintro s ⟨rfl,O⟩;unfold PE;exact Cb (by omega) (An ⟨_,V,.inr ⟨V,YR O⟩⟩)
  .rintro r (rfl | ⟨rfl,h⟩);rw[Sum.elim_inl];exact An V
   .rw [Sum.elim_inr];refine An ?_;simp only[Ex,h,Option.bind_none]
    rfl
def BD(d:DT):Prop:= -1000000000000000<=d.1/\d.1<=1000000000000000/\ -1000000000000000<=d.2.1/\d.2.1<=1000000000000000/\ -1000000000000000<=d.2.2/\d.2.2<=1000000000000000
theorem Rt{n:Nat}(ac:n<=5):∀(k:Nat) (l:List PR) (w:List Int) (out r:List DT) (B:Int),l.length=k->(∀x∈l,VP n x)->BN B w->0<=B->B*3^k<=1000000000000->(∀d∈out,BD d)->Ex n k l w out=some r->(∀d∈r,BD d)/\r.length=out.length+k
 | 0,l,w,out,r,B,am,O,hw,ag,ai,U,h=>by
  unfold Ex at h
  split at h;cases h;exact⟨U,V⟩;cases h
 | k+1,l,w,out,r,B,am,O,hw,ag,ai,U,h=>by
  have ap:B*3^(k+1)=(3*B)*3^k:=by rw[Int.pow_succ];rw[tk (3^k) 3,← Int.mul_assoc,tk B 3]
  have aq:B<=1000000000000:=by
   have av:(1:Int)<=3^(k+1):=by
    have:(0:Int)<3^(k+1):=Int.pow_pos (by decide);omega
   have:=sW av ag;omega
  unfold Ex at h;let⟨p,al,h⟩:=bind_some h;split at h;cases h
  unfold Kk at al;let⟨c1,c2,c3⟩:=qP.1 al;have a2:l.countP (BC p)=1:=by simpa using c1
  have c2:=pw.1 c2;have Y:l.findIdx (BC p)<l.length:=by
   obtain⟨x,K,Z⟩:=se.1 (show 0<l.countP (BC p) by omega);exact rz ⟨x,K,Z⟩
  rw[Mw Y] at h;have Z:BC p l[l.findIdx (BC p)]=true:=r7;have K:=O _ (pj Y);have hb:=hw.bd (i:=p) (by omega);let⟨aw,e2,ay,az,a3,a0⟩:=W6 ac K Z hb.1 hb.2;obtain⟨a4,g2⟩:=VH (F:=0) hw aw e2 ay az (by omega) a0 aq;obtain⟨k1,a1⟩:=Rt ac k _ _ _ r (3*B) (by rw[r8 Y];omega) (λx K=>O x (q9 K)) g2 (by omega) (by rw[← ap];exact ai) (by
   intro d hd
   rcases pg.1 hd with hd | hd;exact U d hd
   .cases d7.1 hd
    refine⟨?_,?_,?_,?_,?_,?_⟩<;>omega) h
  refine⟨k1,?_⟩;rw[a1];simp;omega
theorem TJ{α:Type}(l:List α):l=[]∨∃A y,l=A++ [y]:=by
 rcases List.eq_nil_or_concat l with h | ⟨A,y,h⟩;exact .inl h;exact .inr ⟨A,y,by rw[h,List.concat_eq_append]⟩
def Qz{α:Type}(less:α->α->Option Bool)(s:Int×List α):Option (Bj (Int×List α) (List α)):=
 Option.bind (
  if 0<s.1 then(
   (ix s.2 (s.1)).bind λx=>
   (Au (s.1 - 1)).bind λj=>
   (ix s.2 (j)).bind λy=>
   (less x y).bind λc=>
   some c
  ) else(
   some false
  )
 ) λc=>
 if c=true then(
  (Au (s.1 - 1)).bind λj=>
  (Au (s.1 - 1)).bind λk=>
  (ix s.2 (k)).bind λy=>
  (ix s.2 (s.1)).bind λx=>
  (ix (s.2.set (Int.toNat s.1) y) (j)).bind λ_=>
  (Au (s.1 - 1)).bind λm=>
  some (.more (m,((s.2.set (Int.toNat s.1) y).set (Int.toNat j) x)))
 ) else(
  some (.done s.2)
 )
theorem cF{α:Type}{less:α->α->Option Bool}{lt:α->α->Bool}{P:List α}{x:α}(R:List α)(av:P.length<F)(aw:P.length<=1024)(am:∀y∈P,less x y=some (lt x y)):
  Ao (Pal.iter (Qz less) F ((P.length:Int),P++x::R)) (λr=>∃A B,P=A++B/\r=A++x::(B++R)/\(∀b∈B,lt x b=true)/\(A=[]∨∃K y,A=K++ [y]/\lt x y=false)):=by
 refine Fy (λm s=>∃A B,A.length=m/\s.1=((m:Nat):Int)/\s.2=A++x::(B++R)/\P=A++B/\∀b∈B,lt x b=true) ?_ (m:=P.length) ⟨P,[],V,V,V,by simp,by simp⟩ (by omega);rintro m ⟨c,v⟩ ⟨A,B,U,ag,O,Y,ai⟩;simp only at ag O;subst ag;have ay:A.length+B.length=P.length:=by rw[Y,pA]
 have al:v[m]?=some x:=by rw[O,pf (by omega),U,rT];rfl
 unfold Qz;refine AG (S:=λc=>(c=true/\∃K y,A=K++ [y]/\lt x y=true)∨(c=false/\(A=[]∨∃K y,A=K++ [y]/\lt x y=false))) ?_ ?_
 .refine Bs (λh=>?_) (λh=>?_)
  .simp only at h;rcases TJ A with rfl | ⟨K,y,rfl⟩;simp at U;omega
   have ap:K.length+1=m:=by simpa using U
   have ac:v[m - 1]?=some y:=by rw[O,pF,pf (by omega),show m - 1 - K.length=0 by omega];rfl
   refine Bg (HO V al) (Ao.E ((m - 1:Nat):Int) (by simp only;omega) ?_);refine Bg (HO V ac) (Bg (am y (by rw[Y];simp)) ?_);refine An ?_;cases Z:lt x y with
   | true=>exact .inl ⟨rfl,K,y,rfl,Z⟩
   | false=>exact .inr ⟨rfl,.inr ⟨K,y,rfl,Z⟩⟩
  .refine An (.inr ⟨V,.inl ?_⟩);cases A with
   | nil=>rfl
   | cons a A=>simp at U h;omega
 .rintro c (⟨rfl,K,y,rfl,Z⟩ | ⟨rfl,aq⟩)
  .have ap:K.length+1=m:=by simpa using U
   have ac:v[m - 1]?=some y:=by rw[O,pF,pf (by omega),show m - 1 - K.length=0 by omega];rfl
   have az:m<v.length:=by rw[O];simp;omega
   refine B3 V (Ao.E ((m - 1:Nat):Int) (by simp only;omega) ?_);refine Ao.E ((m - 1:Nat):Int) (by simp only;omega) (Bg (HO V ac) ?_);refine Bg (HO V al) (Bi (m:=m - 1) V (by simp only[pE];omega) ?_);refine Ao.E ((m - 1:Nat):Int) (by simp only;omega) (An ⟨m - 1,by omega,K,y::B,by omega,V,?_,by rw[Y];simp,λb hb=>?_⟩);simp only;rw[show Int.toNat ((m:Nat):Int)=K.length+1 by omega,show Int.toNat ((m - 1:Nat):Int)=K.length by omega,O];simp;rcases iO.1 hb with rfl | hb;exact Z;exact ai b hb
  .exact Cb (by simp) (An ⟨A,B,Y,O,ai,aq⟩)
def Fi(a b:DT):Bool:=decide (a.1<b.1∨(a.1=b.1/\(a.2.1<b.2.1∨(a.2.1=b.2.1/\a.2.2<b.2.2))))
theorem NH{a b:DT}:Fi a b=true↔a.1<b.1∨(a.1=b.1/\(a.2.1<b.2.1∨(a.2.1=b.2.1/\a.2.2<b.2.2))):=by unfold Fi;exact decide_eq_true_iff
theorem Jw{a b:DT}:Fi a b=false↔¬(a.1<b.1∨(a.1=b.1/\(a.2.1<b.2.1∨(a.2.1=b.2.1/\a.2.2<b.2.2)))):=by unfold Fi;exact tq
theorem We{a b:DT}(K:BD a)(hb:BD b):Ao (f113 F a b) (λc=>(c<0↔Fi a b=true)/\(c=0↔a=b)):=by
 obtain⟨a1,O,U,Y,Z,ac⟩:=K;obtain⟨ag,ai,al,am,ap,aq⟩:=hb;obtain⟨ax,aw,ay⟩:=a;obtain⟨az,a0,a2⟩:=b;simp only at a1 O U Y Z ac ag ai al am ap aq;unfold f113;simp only[NH,f4];refine Bs (λh=>?_) (λh=>?_);exact Ao.E _ V (An ⟨by omega,by omega⟩)
 refine Bs (λav=>?_) (λav=>?_);exact Ao.E _ V (An ⟨by omega,by omega⟩);exact Ao.E _ V (An ⟨by omega,by omega⟩)
def Gx(x:DT):List DT->List DT
 | []=>[x]
 | y::ys=>if Fi x y=true then x::y::ys else y::Gx x ys
def EL(l:List DT):List DT:=l.foldl (λa x=>Gx x a) []
def Og(l:List DT):Prop:=l.Pairwise λa b=>Fi b a=false
theorem Rr{x d:DT}:∀{l:List DT},d∈Gx x l↔d=x∨d∈l
 | []=>by simp[Gx]
 | y::ys=>by
  unfold Gx
  split;simp;rw[iO,Rr,iO];constructor;rintro(h | h | h);exact .inr (.inl h);exact .inl h;exact .inr (.inr h);rintro(h | h | h);exact .inr (.inl h);exact .inl h;exact .inr (.inr h)
theorem UH{x:DT}:∀{l:List DT},(Gx x l).length=l.length+1
 | []=>rfl
 | y::ys=>by
  unfold Gx
  split;rfl;rw[pM,UH];rfl
theorem V3{x:DT}:∀{l:List DT},Og l->Og (Gx x l)
 | [],_=>List.pairwise_singleton _ _
 | y::ys,h=>by
  let⟨U,Y⟩:=rp.1 h
  unfold Gx
  split
  .rename_i O
   refine rp.2 ⟨λz K=>?_,h⟩;have O:=NH.1 O;rcases iO.1 K with rfl | K;rw[Jw];omega;have:=Jw.1 (U z K);rw[Jw];omega
  .rename_i O;refine rp.2 ⟨λz K=>?_,V3 Y⟩;rcases Rr.1 K with rfl | K;exact pz.2 O;exact U z K
theorem Vv{x:DT}{B:List DT}(K:∀b∈B,Fi x b=true):∀{A:List DT},(∀a∈A,Fi x a=false)->Gx x (A++B)=A++x::B
 | [],_=>by
  cases B with
  | nil=>rfl
  | cons b bs=>simp only[qr,Gx,K b pK,qs]
 | a::A,O=>by
  have U:=O a pK
  simp only[qQ,Gx,U]
  rw[d9 (by decide),Vv K λz Y=>O z (f7 _ Y)]
theorem Nq(l:List DT)(x:DT):EL (l++ [x])=Gx x (EL l):=by unfold EL;rw[rS];rfl
theorem Vy:∀{k:Nat},k<=10->(3:Int)^k<=59049
 | 0,_ | 1,_ | 2,_ | 3,_ | 4,_ | 5,_ | 6,_ | 7,_ | 8,_ | 9,_ | 10,_=>by decide
 | _+11,h=>absurd h (by omega)
theorem MD{α:Type}{P:List α->Prop}(O:P [])(U:∀l x,P l->P (l++ [x])):∀l,P l:=by
 have:∀n (l:List α),l.length=n->P l:=by
  intro n
  induction n with
  | zero=>intro l K;cases rE.1 K;exact O
  | succ n Y=>
   intro l K;rcases TJ l with rfl | ⟨l',x,rfl⟩;cases K;exact U _ _ (Y _ (by simpa using K))
 exact λl=>this _ l V
theorem Z1(l:List DT):Og (EL l):=MD (P:=λl=>Og (EL l)) List.Pairwise.nil (λl x h=>by rw[Nq];exact V3 h) l
theorem Uj(l:List DT):d∈EL l↔d∈l:=MD (P:=λl=>d∈EL l↔d∈l) (Iff.rfl) (λl x h=>by rw[Nq,Rr,h];simp[or_comm]) l
theorem Ua(l:List DT):(EL l).length=l.length:=MD (P:=λl=>(EL l).length=l.length) V (λl x h=>by rw[Nq,UH,h];simp) l
theorem Zz(F:Nat):O7 F 0=Qz λx y=>(f113 F x y).bind λc=>some (decide (c<0)):=by
 funext s;unfold O7 Qz;simp only[Option.bind_assoc,Option.bind_some]
theorem YN{A B:List DT}{x y:DT}(O:Og ((A++ [y])++B))(U:Fi x y=false):∀a∈A++ [y],Fi x a=false:=by
 rw[pF] at O;intro a K;rcases pg.1 K with K | K;have Y:=(tI.1 O).2.2 a K y (by simp);have Z:=Jw.1 Y;have ac:=Jw.1 U;rw[Jw];omega;cases d7.1 K;exact U
theorem bO{l:List DT}(ay:100<F)(az:l.length<=20)(hb:∀d∈l,BD d):M1 F l 0 (l.length:Int)=some (EL l):=by
 refine Fo ?_;unfold M1;refine Ao.E 1 V (AG (S:=λr=>r=EL l) ?_ (λr Y=>An Y));refine Dt (l.length - 1) (λi s=>s.1=((i+1:Nat):Int)/\s.2=EL (l.take (i+1))++l.drop (i+1)) ⟨V,?_⟩ (by omega) ?_ ?_
 .cases l with
  | nil=>rfl
  | cons x xs=>rfl
 .rintro i ⟨c,w⟩ hi ⟨K,hw⟩;simp only at K hw;subst K;have O:i+1<l.length:=by omega
  unfold Pf;refine B3 (by simp only;omega) ?_;have Z:l.drop (i+1)=l[i+1]::l.drop (i+2):=qL O;have a0:(EL (l.take (i+1))).length=i+1:=by rw[Ua,r6];omega
  have ac:∀d∈EL (l.take (i+1)),BD d:=λd hd=>hb d (List.mem_of_mem_take ((Uj _).1 hd));have ag:BD l[i+1]:=hb _ (pj O);have ai:EL (l.take (i+2))=Gx l[i+1] (EL (l.take (i+1))):=by
   rw[qE (i:=i+1),d6 O];exact Nq _ _
  have al:=Z1 (l.take (i+1));generalize l[i+1]=x at*;generalize EL (l.take (i+1))=P at*;generalize l.drop (i+2)=R at*;refine AG (S:=λr=>r=Gx x P++R) ?_ ?_
  .rw [Zz,hw,Z];have am:((i+1:Nat):Int)=(P.length:Int):=by omega
   rw[am];refine(cF (lt:=Fi) R (by omega) (by omega) λy U=>?_).M ?_;let⟨c,ap,aq,_⟩:=We (F:=F) ag (ac y U);rw[ap,Option.bind_some];congr 1;rw[Bool.eq_iff_iff,qw];exact aq;rintro r ⟨A,B,rfl,rfl,av,aw⟩;rw[Vv av ?_];simp;rcases aw with rfl | ⟨a1,y,rfl,U⟩;simp;exact YN al U
  .rintro r rfl;refine Ao.E ((i+1+1:Nat):Int) (by simp) (An ⟨V,?_⟩);simp only;rw[ai]
 .rintro⟨c,w⟩ ⟨K,hw⟩;simp only at K hw;subst K;unfold Pf;refine Cb (by simp only;omega) (An ⟨_,V,?_⟩);simp only;rw[hw,qJ (by omega),rR (by omega),pG]
theorem cY:∀n,n<=12->∃r,f115 F (Cz ((n:Nat):Int))=some r
 | 0,_ | 1,_ | 2,_ | 3,_ | 4,_ | 5,_ | 6,_ | 7,_ | 8,_ | 9,_ | 10,_ | 11,_ | 12,_=>⟨_,rfl⟩
 | _+13,h=>absurd h (by omega)
theorem gI{l:List DT}(K:100<F)(O:l.length<=12)(hb:∀d∈l,BD d):f90 F l=some (EL l):=by
 obtain⟨F,rfl⟩:∃k,F=k+1:=⟨F - 1,by omega⟩;let⟨x,U⟩:=cY (F:=F+1) l.length O;refine Fo ?_;unfold f90;refine Bg (b:=l) (by unfold f129 NY Ey;rw[eS (by simp;omega)];rfl) (Bg (b:=EL l) ?_ (An V));refine Fo ?_;unfold f130;refine Bg U (Bg (b:=EL l) ?_ (An V));refine Fo ?_;unfold JD;refine AG (S:=λr=>r=Sum.inl (EL l)) ?_ (by rintro r rfl;rw[Sum.elim_inl];exact An rfl);refine Dt 0 (λ_ _=>True) trivial (by omega) (by intro i s h;omega) ?_;rintro s -;unfold RH;refine Ao.E (l.length:Int) (by omega) (B3 (by omega) ?_);exact Bg (bO K (by omega) hb) (An ⟨_,V,V⟩)
def I3(n:Nat)(w:List Int)(S:List PR):Option (List DT):=(Ex n S.length S w []).map EL
theorem bM{S:List PR}(K:100<F)(h:VO o)(O:S.length<=10)(U:∀x∈S,VP o.1.length x):f135 F o S=some (match I3 o.1.length (BS o) S with | none=>([],false) | some r=>(r,true)):=by
 have Y:=h.n5;let⟨ac,g2⟩:=NM K h;have Z:(200:Int)*3^S.length<=1000000000000:=by
  have:=Vy O;omega
 have e:=Wc (q:=o) K rfl Y S.length F S (BS o) [] 200 rfl (by omega) O U g2 (by omega) Z (by simp;omega);have e2:N9 F o S=some (match I3 o.1.length (BS o) S with | none=>(true,default) | some r=>(false,r)):=by
  refine Fo ?_;unfold N9;refine Bg ac ?_;refine Bg (show S8 F S (BS o) o []=_ from e) ?_;unfold I3;rcases ag:Ex o.1.length S.length S (BS o) [] with _ | r;exact B3 V (An V);refine Cb (by simp[N6]) ?_;obtain⟨k1,ai⟩:=Rt Y S.length S (BS o) [] r 200 rfl U g2 (by omega) Z (by simp) ag;exact Bg (gI K (by show r.length<=12;rw[ai];simp;omega) k1) (An V)
 unfold f135;rw[e2,Option.bind_some];rcases I3 o.1.length (BS o) S with _ | r
 .rfl
 .rfl
def GM:Nat->List PR->List (List PR)
 | 0,_=>[[]]
 | _+1,[]=>[]
 | m+1,x::xs=>(GM m xs).map (x::·)++GM (m+1) xs
theorem Q0:∀(m:Nat) (l:List PR),(GM m l).length<=2^l.length
 | 0,l=>by simp only[GM,qU];exact sD
 | m+1,[]=>by simp[GM]
 | m+1,x::xs=>by
  have K:=Q0 m xs;have O:=Q0 (m+1) xs
  simp only[GM,pA,qB,pM]
  rw[sR];omega
theorem Nr{x:PR}:∀{m:Nat}{l c:List PR},c∈GM m l->c.length=m/\(x∈c->x∈l)
 | 0,l,c,h=>by rw[show GM 0 l=[[]] by cases l<;>rfl] at h;cases d7.1 h;exact⟨rfl,λh=>by cases h⟩
 | m+1,[],c,h=>by cases h
 | m+1,y::ys,c,h=>by
  rcases pg.1 h with h | h
  .obtain⟨U,O,rfl⟩:=pO.1 h
   have:=Nr (x:=x) O;exact⟨by rw[pM,this.1],λK=>by
    rcases iO.1 K with rfl | K;exact pK
    .exact f7 _ (this.2 K)⟩
  .have:=Nr (x:=x) h;exact⟨this.1,λK=>f7 _ (this.2 K)⟩
def Dx(n:Nat)(w:List Int)(P:PR->Bool)(m:Nat)(l ys:List PR):List (List DT):=(GM m (ys.filter P)).filterMap λc=>I3 n w (l++c)
variable{w:List Int}{P:PR->Bool}
theorem Vn{m:Nat}{l ys:List PR}:(Dx n w P m l ys).length<=2^ys.length:=by
 unfold Dx;refine qg (tn _ _) (qg (Q0 _ _) ?_);exact qj (by decide) (tE _ _)
theorem Zo{m:Nat}{l xs:List PR}{x:PR}(h:P x=false):Dx n w P m l (x::xs)=Dx n w P m l xs:=by unfold Dx;rw[tr (by simp[h])]
theorem ZK{m:Nat}{l xs:List PR}{x:PR}(h:P x=true):Dx n w P (m+1) l (x::xs)=Dx n w P m (l++ [x]) xs++Dx n w P (m+1) l xs:=by
 unfold Dx;rw[ts h,GM,List.filterMap_append,List.filterMap_map];congr 2;funext c;simp
theorem VM{F:Nat}{o:OW}{ag m:Nat}{K:List PR}{P:PR->Bool}(ai:100<F)(h:VO o)(hm:m<=5)(av:K.length<=10)(al:∀x∈K,VP o.1.length x)(am:∀x,VP o.1.length x->f136 F ag x.1 x.2=some (!P x)):
  ∀(k N:Nat) (l:List PR) (i:Nat) (b:List (List DT)),l.length+k=m->k<N->i<=K.length->(∀x∈l,VP o.1.length x)->b.length+2^(K.length - i)<=1000000->
   MH N F l (i:Int) (m:Int) o K ag b=some (true,b++Dx o.1.length (BS o) P k l (K.drop i))
 | 0,N,l,i,b,aw,ay,hi,ac,hb=>by
  obtain⟨N,rfl⟩:∃k,N=k+1:=⟨N - 1,by omega⟩
  have a4:1<=2^(K.length - i):=sD
  refine Fo ?_
  simp only[MH]
  unfold NS
  refine B3 (by omega) ?_
  refine Bg (bM ai h (by omega) ac) ?_
  refine AG (S:=λr=>r=(true,b++Dx o.1.length (BS o) P 0 l (K.drop i))) ?_ (λr az=>An az)
  have e:Dx o.1.length (BS o) P 0 l (K.drop i)=(I3 o.1.length (BS o) l).toList:=by
   unfold Dx;simp only[GM,List.filterMap_cons,pG,List.filterMap_nil];cases I3 o.1.length (BS o) l<;>rfl
  rw[e];rcases I3 o.1.length (BS o) l with _ | r;exact B3 V (An (by simp));exact Cb (by simp) (Jp (by omega) (An V))
 | k+1,N,l,i,b,aw,ay,hi,ac,hb=>by
  obtain⟨N,rfl⟩:∃k,N=k+1:=⟨N - 1,by omega⟩;refine Fo ?_;simp only[MH];unfold NS;refine Cb (by omega) (AG (S:=λr=>r=Sum.inr (b++Dx o.1.length (BS o) P (k+1) l (K.drop i))) ?_ (by rintro r rfl;rw[Sum.elim_inr];exact An rfl));refine Fy (λz s=>∃j,z=K.length - j/\j<=K.length/\s.2=((j:Nat):Int)/\s.1++Dx o.1.length (BS o) P (k+1) l (K.drop j)=b++Dx o.1.length (BS o) P (k+1) l (K.drop i)/\s.1.length+2^(K.length - j)<=1000000) ?_ (m:=K.length - i) ⟨i,V,hi,V,V,hb⟩ (by omega);rintro z ⟨acc,c⟩ ⟨j,rfl,a5,ap,he,hlen⟩;simp only at ap he hlen;subst ap;unfold R0;refine Bs (λa0=>?_) (λa1=>?_)
  .simp only at a0;have O:j<K.length:=by omega
   have hd:K.drop j=K[j]::K.drop (j+1):=qL O;have aq:=al _ (pj O);have a6:2^(K.length - j)=2^(K.length - (j+1))+2^(K.length - (j+1)):=by
    rw[show K.length - j=K.length - (j+1)+1 by omega,sR];omega
   have a7:0<2^(K.length - (j+1)):=sQ _;refine AG (S:=λr=>∃Y,r=Sum.inr Y/\Y++Dx o.1.length (BS o) P (k+1) l (K.drop (j+1))=acc++Dx o.1.length (BS o) P (k+1) l (K.drop j)/\Y.length+2^(K.length - (j+1))<=1000000) ?_ ?_
   .refine Bi (m:=j) V O (Bi (m:=j) V O ?_);refine Bg (am _ aq) ?_;by_cases Z:P K[j]=true
    .refine Cb (by simp[Z]) ?_;refine Bi (m:=j) V O ?_;refine Ao.E ((j+1:Nat):Int) (by simp) ?_;refine Ao.Oe (by simp;omega) ?_;refine Bg (VM ai h hm av al am k N (l++ [K[j]]) (j+1) acc (by simp;omega) (by omega) (by omega) (λx U=>by
      rcases pg.1 U with U | U;exact ac x U
      .cases d7.1 U;exact aq) (by omega)) ?_
     refine Cb (by simp) (An ⟨_,V,?_,?_⟩);rw[hd,ZK Z,pF];have:=Vn (n:=o.1.length) (w:=BS o) (P:=P) (m:=k) (l:=l++ [K[j]]) (ys:=K.drop (j+1));rw[List.length_drop] at this;rw[pA];omega
    .refine B3 (by simp[Z]) (An ⟨_,V,?_,by simp only;omega⟩);rw[hd,Zo (pz.2 Z)]
   .rintro r ⟨Y,rfl,a2,a3⟩;rw[Sum.elim_inr];exact Ao.E ((j+1:Nat):Int) (by simp) (An ⟨K.length - (j+1),by omega,j+1,V,by omega,V,a2.trans he,a3⟩)
  .simp only at a1;refine An ?_;have:K.drop j=[]:=rR (by omega);rw[this] at he;show Sum.inr _=_;rw[← he];unfold Dx;simp[GM]
def FW(n:Nat)(w:List Int)(P:PR->Bool):List (List DT):=(((List.range n).map λm=>Dx n w P m [] (Eu n)).find? λl=> !l.isEmpty).getD []
theorem WK{c2:Nat}(Y:100<F)(h:VO o)(ag:∀x,VP o.1.length x->f136 F c2 x.1 x.2=some (!P x)):f71 F o c2=some (FW o.1.length (BS o) P):=by
 have Z:=h.n5;have ai:=TV Z;refine Fo ?_;unfold f71;have al:∀m,m<=5->f132 F o ((m:Nat):Int) c2 []=some (Dx o.1.length (BS o) P m [] (Eu o.1.length)):=by
  intro m hm;refine Fo ?_;unfold f132;refine Bg (dv Y Z) ?_;have am:2^((Eu o.1.length).length - 0)<=2^10:=qj (by decide) (by omega);exact Bg (show f134 F [] 0 (m:Int) o (Eu o.1.length) c2 []=_ from VM Y h hm ai (λx ap=>Rx ap) ag m F [] 0 [] (by simp) (by omega) (by omega) (by simp) (by simp at am ⊢;omega)) (An (by simp))
 refine Dt o.1.length (λi s=>s=(i:Int)/\∀j,j<i->Dx o.1.length (BS o) P j [] (Eu o.1.length)=[]) ⟨V,by simp⟩ (by omega) ?_ ?_
 .rintro i s hi ⟨rfl,U⟩;unfold Qr;refine B3 (by omega) (Bg (al i (by omega)) ?_);refine Bs (λac=>An ?_) (λav=>?_)
  .show _=_;unfold FW;rw[tF,show(List.range o.1.length).find? _=some i from qP.2 ⟨?_,pw.2 hi,λj K=>?_⟩];rfl
   .simp only [Function.comp];cases aq:Dx o.1.length (BS o) P i [] (Eu o.1.length) with
    | nil=>rw[aq] at ac;simp at ac
    | cons=>rfl
   .simp only [Function.comp];rw[U j K];rfl
  .refine Ao.E ((i+1:Nat):Int) (by simp) (An ⟨V,λj K=>?_⟩);rcases tl.1 K with K | rfl;exact U j K;exact rE.1 (by omega)
 .rintro s ⟨rfl,U⟩;unfold Qr;refine Cb (by omega) (An ⟨_,V,?_⟩);unfold FW;rw[tF,show(List.range o.1.length).find? _=none from q6.2 ?_];rfl;intro j K;simp only[Function.comp];rw[U j (pw.1 K)];simp
theorem Wq(U:n<=5)(x:PR)(K:VP n x):f136 F 0 x.1 x.2=some (!(λ_=>true) x):=by
 obtain⟨Y,Z,ac⟩:=K;obtain⟨a,O⟩:∃a:Nat,x.1=(a:Int):=⟨x.1.toNat,by omega⟩;obtain⟨b,hb⟩:∃b:Nat,x.2=(b:Int):=⟨x.2.toNat,by omega⟩;rw[O,hb];have:b<=4:=by omega
 have:a<b:=by omega
 match a,b with
 | 0,1 | 0,2 | 0,3 | 0,4 | 1,2 | 1,3 | 1,4 | 2,3 | 2,4 | 3,4=>rfl
 | 0,0=>omega
 | a+1,0=>omega
 | a+1,1=>omega
 | a+2,2=>omega
 | a+3,3=>omega
 | a+4,4=>omega
 | a,b+5=>omega
abbrev EB(o:OW):List (List DT):=FW o.1.length (BS o) λ_=>true
theorem iH(K:100<F)(h:VO o):f71 F o 0=some (EB o):=WK K h λx O=>Wq h.n5 x O
theorem Z0{m:Nat}{s:List DT}(U:n<=5)(hm:m<=5)(hw:BN 200 w)(K:s∈Dx n w P m [] (Eu n)):s.length=m/\∀d∈s,BD d:=by
 unfold Dx at K;let⟨c,O,K⟩:=sr.1 K;rw[qr] at K;unfold I3 at K;obtain⟨r,Y,rfl⟩:=p7.1 K;have Z:=(Nr (x:=(0,0)) O).1;have ac:∀x∈c,VP n x:=λx ag=>Rx (re.1 ((Nr O).2 ag)).1;have ai:(200:Int)*3^c.length<=1000000000000:=by
  have:=Vy (k:=c.length) (by omega);omega
 obtain⟨k1,al⟩:=Rt U c.length c w [] r 200 rfl ac hw (by omega) ai (by simp) Y;refine⟨by rw[Ua,al,Z];simp,λd hd=>k1 d ((Uj _).1 hd)⟩
theorem R5:FW n w P=[]∨∃m,m<n/\FW n w P=Dx n w P m [] (Eu n)/\(∀j,j<m->Dx n w P j [] (Eu n)=[]):=by
 unfold FW;rw[tF];rcases h:(List.range n).find? ((λl:List (List DT)=> !l.isEmpty)∘λm=>Dx n w P m [] (Eu n)) with _ | m;exact .inl V;let⟨Y,K,O⟩:=qP.1 h;refine .inr ⟨m,pw.1 K,V,λj U=>?_⟩;have:=O j U;simpa using this
theorem Wp(K:n<=5)(hw:BN 200 w):(FW n w P).length<=1024/\∃m,m<=5/\∀s∈FW n w P,s.length=m/\∀d∈s,BD d:=by
 rcases R5 (n:=n) (w:=w) (P:=P) with h | ⟨m,hm,h,_⟩;rw[h];exact⟨by simp,0,by omega,by simp⟩;rw[h];refine⟨?_,m,by omega,λs O=>Z0 K (by omega) hw O⟩;exact qg Vn (qg (qj (by decide) (TV K)) (by decide))
def BI:List DT->List DT->Bool
 | [],[]=>false
 | [],_::_=>true
 | _::_,[]=>false
 | x::xs,y::ys=>if x=y then BI xs ys else Fi x y
theorem Rj{a b:List DT}:∀{i:Nat},i<=a.length->i<=b.length->a.take i=b.take i->BI a b=BI (a.drop i) (b.drop i):=by
 induction a generalizing b with
 | nil=>intro i K _ _;simp at K;subst K;simp
 | cons x xs U=>
  intro i K O h;cases i with
  | zero=>simp
  | succ i=>
   cases b with
   | nil=>simp at O
   | cons y ys=>
    simp only[List.take_succ_cons,sf] at h;simp only[List.drop_succ_cons];rw[BI,eS h.1];exact U (by simpa using K) (by simpa using O) h.2
theorem Sb{a b:List DT}(ai:100<F)(al:a.length<=40)(U:∀d∈a,BD d)(Y:∀d∈b,BD d):Ao (f112 F a b) (λc=>c<0↔BI a b=true):=by
 unfold f112;refine AG (S:=λr=>(∃c,r=Sum.inl c/\(c<0↔BI a b=true))∨(r=Sum.inr ()/\a.length<=b.length/\a=b.take a.length)) ?_ ?_
 .refine Dt a.length (λi s=>s=(i:Int)/\i<=b.length/\a.take i=b.take i) ⟨V,by simp,by simp⟩ (by omega) ?_ ?_
  .rintro i s hi ⟨rfl,K,he⟩;unfold PG;have O:a.drop i=a[i]::a.drop (i+1):=qL hi;refine B3 (by omega) (Bi (m:=i) V hi ?_);refine Bs (λh=>An (.inl ⟨1,V,?_⟩)) (λh=>?_);rw[Rj (i:=i) (by omega) K he,O,rR (by omega:b.length<=i)];simp[BI]
   have hb:i<b.length:=by omega
   have Z:b.drop i=b[i]::b.drop (i+1):=qL hb;refine Bi (m:=i) V hb ?_;refine AG (We (U _ (pj hi)) (Y _ (pj hb))) ?_;rintro c ⟨c1,c2⟩;refine Bs (λh=>An (.inl ⟨c,V,?_⟩)) (λh=>?_);rw[Rj (i:=i) (by omega) K he,O,Z,BI,d9 (λk=>h (c2.2 k))];exact c1;have heq:=c2.1 (qY.1 h);refine Ao.E ((i+1:Nat):Int) (by simp) ?_;refine An ⟨V,by omega,?_⟩;rw[qE,qE,he,d6 hi,d6 hb,heq]
  .rintro s ⟨rfl,K,he⟩;unfold PG;rw[qk] at he;exact Cb (by omega) (An ⟨_,V,.inr ⟨V,K,he⟩⟩)
 .rintro r (⟨c,rfl,ac⟩ | ⟨rfl,ag,he⟩);rw[Sum.elim_inl];exact An ac
  .rw [Sum.elim_inr];have e:BI a b=BI [] (b.drop a.length):=by
    rw[Rj (i:=a.length) (no _) ag (by rw[qk];exact he),List.drop_length]
   refine Bs (λh=>An ?_) (λh=>An ?_)
   .rw [e];cases hd:b.drop a.length with
    | nil=>have:=pB List.length hd;simp at this;omega
    | cons=>simp[BI]
   .rw [e,rR (by omega)];simp[BI]
def EK(b:List DT×Bool)(x:List DT):List DT×Bool:=if(!b.2 || BI x b.1)=true then(x,true) else b
def Km(l:List (List DT)):List DT:=(l.foldl EK ([],false)).1
theorem fe(av:2000<F)(h:VO o):f22 F o=some (Km (EB o),0):=by
 obtain⟨aw,ai⟩:=NM (F:=F) (by omega) h;let⟨al,m,hm,am⟩:=Wp (P:=λ_=>true) h.n5 ai;refine Fo ?_;unfold f22;refine Bg (S2 (by omega) h) (Cb (by simp) ?_);refine Bg (iH (by omega) h) (AG (S:=λr=>r.1=Km (EB o)) ?_ (λr Z=>An (by rw[Z])));have ap:(EB o).length<=1024:=al;have ac:∀s∈EB o,s.length=m/\∀d∈s,BD d:=am;generalize EB o=L at ap ac ⊢;refine Dt L.length (λi s=>s.2.2=(i:Int)/\(s.1,s.2.1)=(L.take i).foldl EK ([],false)/\∀d∈s.1,BD d) ⟨V,V,by simp⟩ (by omega) ?_ ?_
 .rintro i ⟨b,t,c⟩ hi ⟨K,O,U⟩;simp only at K O U;subst K;let⟨ay,ag⟩:=ac _ (pj hi);have aq:(L.take (i+1)).foldl EK ([],false)=EK (b,t) L[i]:=by
   rw[qE,d6 hi,rS,← O];rfl
  unfold PM;refine B3 (by simp only;omega) (Bi (m:=i) V hi ?_);refine Bg (b:=EK (b,t) L[i]) ?_ ?_
  .refine Fo ?_;unfold f72;refine AG (S:=λc=>c=(!t || BI L[i] b)) ?_ ?_
   .refine Bs (λh=>An ?_) (λh=>?_);simp only at h;rw[h];rfl
    .simp only at h;obtain rfl:t=true:=by simpa using h
     refine AG (S:=λc=>c=BI L[i] b) ?_ (λc K=>An (by rw[K];simp));unfold f73 f74;refine AG (S:=λc=>c<0↔BI L[i] b=true) (AG (Sb (by omega) (by omega) ag U) (λc K=>An K)) ?_;intro c K;refine An ?_;by_cases Y:BI L[i] b=true;rw[Y];exact qf (K.2 Y);rw[pz.2 Y];exact p5 λk=>Y (K.1 k)
   .rintro c rfl;refine AG (S:=λr=>r=EK (b,t) L[i]) ?_ (λr Z=>An Z);unfold EK;refine Bs (λh=>An ?_) (λh=>An ?_);rw[eS h];rw[d9 h]
  .refine Ao.E ((i+1:Nat):Int) (by simp) (An ⟨V,aq.symm,?_⟩);simp only;unfold EK;split;exact ag;exact U
 .rintro⟨b,t,c⟩ ⟨K,O,U⟩;simp only at K O U;subst K;rw[qk] at O;unfold PM;refine Cb (by simp) (An ⟨_,V,?_⟩);simp only;unfold Km;rw[← O]
theorem ZP{l:List (List DT)}:Km l=[]∨Km l∈l:=by
 have:∀l:List (List DT),(l.foldl EK ([],false)).1=[]∨(l.foldl EK ([],false)).1∈l:=by
  intro l;refine MD (P:=λl=>(l.foldl EK ([],false)).1=[]∨(l.foldl EK ([],false)).1∈l) (.inl V) (λl x h=>?_) l;rw[rS];show(EK _ x).1=[]∨(EK _ x).1∈l++ [x];generalize l.foldl EK ([],false)=b at*;unfold EK;split;exact .inr (by simp);rcases h with h | h;exact .inl h;exact .inr (p9 _ h)
 exact this l
theorem Yj(h:VO o):(Km (EB o)).length<=5:=by
 obtain⟨U,K⟩:=NM (F:=101) (by omega) h;let⟨Y,m,hm,O⟩:=Wp (P:=λ_=>true) h.n5 K;rcases ZP (l:=EB o) with e | e;rw[e];simp;have:=(O _ e).1;omega
abbrev LL:=List (List DT)
structure SL (L l:LL):Prop where
 p:L.Perm l
 c:∀s∈L,s.length<=40/\∀d∈s,BD d
 n:L.length<=1024
variable{L:LL}
theorem SL.len{l:LL}(h:SL L l):l.length=L.length:=h.p.length_eq.symm
theorem SL.ok{l:LL}(h:SL L l)(hi:i<l.length):l[i].length<=40/\∀d∈l[i],BD d:=h.c _ (h.p.mem_iff.2 (pj hi))
variable{j:Nat}
theorem SL.sw{l:LL}(h:SL L l)(hi:i<l.length)(K:j<l.length):SL L ((l.set i l[j]).set j l[i]):=⟨h.p.trans (List.set_set_perm hi K).symm,h.c,h.n⟩
theorem SL.cmp{l:LL}(Y:5000<F)(h:SL L l)(hi:i<l.length)(K:j<l.length):Ao (f74 F l[i] l[j]) (λ_=>True):=by
 let⟨a1,O⟩:=h.ok hi;let⟨_,U⟩:=h.ok K;unfold f74;exact AG (Sb (by omega) a1 O U) (λc _=>An trivial)
theorem nn(i:Nat):Int.toNat (i:Int)=i:=qF i
theorem quo{x k:Nat}(K:0<k)(O:x<1000000):I4 (x:Int) (k:Int)=some ((x/k:Nat):Int):=by
 unfold I4;rw[d9 (by omega),show(x:Int).tdiv (k:Int)=((x/k:Nat):Int) from rfl];have:=Nat.div_le_self x k;generalize x/k=y at this ⊢;exact eS ⟨by omega,by omega⟩
theorem R7{k:Nat}{l:LL}(K:5000<F)(h:SL L l)(hi:i<L.length)(O:j<L.length)(U:k<=100):
  Ao (L3 F l (i:Int) (j:Int) (k:Int)) (λr=>∃u v w:Nat,r=((u:Int),(v:Int),(w:Int))/\((u=i/\v=j)∨(u=j/\v=i))/\w<=k+1):=by
 have Y:=h.len;have Z:=h.n;unfold L3;refine Bi (m:=j) V (by omega) ?_;refine Bi (m:=i) V (by omega) ?_;refine AG (h.cmp K (by omega) (by omega)) ?_;intro z _;refine Bs (λ_=>?_) (λ_=>An ⟨i,j,k,V,.inl ⟨V,V⟩,by omega⟩);refine Ao.E ((k+1:Nat):Int) (by simp) ?_;exact An ⟨j,i,k+1,V,.inr ⟨V,V⟩,by omega⟩
theorem Vu{q k:Nat}{l:LL}(K:5000<F)(h:SL L l)(hi:i<L.length)(O:j<L.length)(U:q<L.length)(ag:k<=90):
  Ao (M9 F l (i:Int) (j:Int) (q:Int) (k:Int)) (λr=>∃u w:Nat,r=((u:Int),(w:Int))/\(u=i∨u=j∨u=q)/\w<=k+3):=by
 unfold M9;refine AG (R7 K h hi O (by omega)) ?_;rintro _ ⟨Y,v1,w1,rfl,ai,k1⟩;refine AG (R7 K h (i:=v1) (j:=q) (by omega) U (k:=w1) (by omega)) ?_;rintro _ ⟨Z,v2,w2,rfl,e2,al⟩;refine AG (R7 K h (i:=Y) (j:=Z) (by omega) (by omega) (k:=w2) (by omega)) ?_;rintro _ ⟨am,ac,w3,rfl,ap,aq⟩;exact An ⟨ac,w3,V,by omega,by omega⟩
theorem RQ{k:Nat}{l:LL}(K:5000<F)(h:SL L l)(U:1<=i)(hi:i+1<L.length)(O:k<=90):
  Ao (LU F l (i:Int) (k:Int)) (λr=>∃u w:Nat,r=((u:Int),(w:Int))/\(u=i - 1∨u=i∨u=i+1)/\w<=k+3):=by
 have Y:=h.n;unfold LU;refine Ao.E ((i - 1:Nat):Int) (by omega) ?_;refine Ao.E ((i+1:Nat):Int) (by simp) ?_;refine AG (Vu K h (i:=i - 1) (j:=i) (q:=i+1) (by omega) (by omega) (by omega) O) ?_;rintro _ ⟨u,w,rfl,e,k1⟩;exact An ⟨u,w,V,e,k1⟩
theorem cW{a b:Nat}{l:LL}(K:5000<F)(h:SL L l)(hb:b<=L.length)(ag:a+12<b):
  Ao (f140 F l (a:Int) (b:Int)) (λr=>∃u:Nat,r.1=(u:Int)/\a<=u/\u<b):=by
 have ai:=h.n;unfold f140;refine Ao.E ((b - a:Nat):Int) (by omega) ?_;refine Bg (quo (k:=4) (by omega) (by omega)) ?_;refine Ao.E (((b - a)/4:Nat):Int) (by omega) ?_;refine Ao.E ((a+(b - a)/4:Nat):Int) (by omega) ?_;refine Bg (quo (k:=4) (by omega) (by omega)) ?_;refine Ao.E (((b - a)/4*2:Nat):Int) (by omega) ?_;refine Ao.E ((a+(b - a)/4*2:Nat):Int) (by omega) ?_;refine Bg (quo (k:=4) (by omega) (by omega)) ?_;refine Ao.E (((b - a)/4*3:Nat):Int) (by omega) ?_;refine Ao.E ((a+(b - a)/4*3:Nat):Int) (by omega) ?_;refine AG (S:=λr=>∃u:Nat,r.1=(u:Int)/\a<=u/\u<b) ?_ ?_;refine B3 (by omega) (AG (S:=λr=>∃x y z w:Nat,r=((x:Int),(y:Int),(z:Int),(w:Int))/\(a<=x/\x<b)/\(a<=y/\y<b)/\(a<=z/\z<b)/\w<=20) ?_ ?_);refine Bs (λk=>?_) (λk=>An ⟨_,_,_,0,V,⟨by omega,by omega⟩,⟨by omega,by omega⟩,⟨by omega,by omega⟩,by omega⟩);refine AG (RQ K h (i:=a+(b - a)/4) (k:=0) (by omega) (by omega) (by omega)) ?_;rintro _ ⟨Y,w1,rfl,al,k1⟩;refine AG (RQ K h (i:=a+(b - a)/4*2) (k:=w1) (by omega) (by omega) (by omega)) ?_;rintro _ ⟨Z,w2,rfl,e2,am⟩;refine AG (RQ K h (i:=a+(b - a)/4*3) (k:=w2) (by omega) (by omega) (by omega)) ?_;rintro _ ⟨ac,w3,rfl,ap,aq⟩;exact An ⟨Y,Z,ac,w3,V,⟨by omega,by omega⟩,⟨by omega,by omega⟩,⟨by omega,by omega⟩,by omega⟩;rintro _ ⟨x,y,z,w,rfl,av,aw,ay,hw⟩;refine AG (Vu K h (i:=x) (j:=y) (q:=z) (k:=w) (by omega) (by omega) (by omega) (by omega)) ?_;rintro _ ⟨u,w',rfl,e,_⟩;exact An ⟨u,V,by omega,by omega⟩;rintro⟨_,w⟩ ⟨u,rfl,O,U⟩;refine Bs (λ_=>An ⟨u,V,O,U⟩) (λ_=>?_);exact Bs (λ_=>An ⟨u,V,O,U⟩) (λ_=>An ⟨u,V,O,U⟩)
theorem dp:((List.range 1025).all λn=>match LY 0 ((n:Nat):Int) with | some m=>decide (n<m/\(m<=2*n∨n=0)/\m<=4096) | none=>false)=true:=by decide+kernel
theorem gp(F:Nat)(x:Int):LY F x=LY 0 x:=rfl
theorem cV(K:n<=1024)(O:0<n):∃m:Nat,LY F (n:Int)=some m/\n<m/\m<=2*n/\m<=4096:=by
 have h:=pJ.1 dp n (pw.2 (by omega));rw[gp];split at h;rename_i m e;have:=qM h;exact⟨m,e,this.1,by omega,this.2.2⟩;cases h
theorem gu{a:Nat}(h:a<2^62):JM a=(a:Int):=UA h
theorem dq:((List.range 1025).all λn=>match f115 0 (Cz ((n:Nat):Int)) with | some m=>decide (0<=m/\m<=100) | none=>false)=true:=by decide+kernel
theorem gb(F:Nat)(x:Nat):f115 F x=f115 0 x:=rfl
end Pal
