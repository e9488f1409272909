/- DebtOrder: a part (5 of 9) of the proof of its row. -/
import Derived.Test.YtmbgkhhhldcpcaaGreatDoorOra
import Derived.Test.YtmbgkhhhldcpcaaGreatDoorOrb
import Derived.Test.YtmbgkhhhldcpcaaGreatDoorOrc
import Derived.Test.YtmbgkhhhldcpcaaGreatDoorOrd
import Derived.Conc.ClockLaws
import Derived.Conc.WgGenN3
import Derived.Handed
import Derived.LaidLaws
import Derived.LaidHandle
import Derived.Test.YtmbgkhhhldcpcaaGreatDoorRows
import Derived.Test.YtmbgkhhhldcpcaaGreatDoorChecked
import Derived.Conc.LeavingOf
import Derived.Conc.HoldsTime
import Derived.Carry
import Derived.ChangeSame
import Derived.ChangeVars
import Derived.ChangeSlices
import Derived.JoinedOf
import Derived.RowKit
import Derived.Deep.Strs
import Derived.Stop.Joined
set_option linter.all false
set_option maxRecDepth 100000
namespace Pal
open Go Go.Conc
variable{m':M4}{w:World}{q:Nat}{R X Y:Ph->GP}
section
variable {P:Program}{F:Fam}
theorem M4.gm{m:M4}(h:m.num=m'.num):m=m':=by
  obtain⟨l,k,s,w⟩:=m;obtain⟨l',k',s',w'⟩:=m';simp only[M4.num] at h;cases l<;>cases k<;>cases s<;>cases l'<;>cases k'<;>cases s'<;>simp only[r8,rU] at h<;>first
    | (have e:w=w':=by omega
       subst e;rfl)
    | (exfalso;omega)
theorem LY{m:M4}(h:F.MU w m q):w.cell? F.uA=some (.int .i32 m.num)/\w.cell? F.qA=some (.int .u32 q)/\w.frozen? F.uA=false/\w.frozen? F.qA=false:=by
 unfold Fam.MU Fam.IU at h;refine⟨?_,?_,?_,?_⟩;simp[World.cell?,Fam.uA,h];simp[World.cell?,Fam.qA,h];simp[World.frozen?,Fam.uA,h];simp[World.frozen?,Fam.qA,h]
theorem UD{m:M4}(h:F.MU w m q):w.setCell F.uA (.int .i32 m'.num)=F.Gt w m' q:=by
 unfold Fam.Gt World.setCell;congr 1;apply sK;intro i;unfold Fam.MU Fam.IU at h;rw[tu];have O:F.mu<w.heap.size:=by
  rcases jH F.mu w.heap.size with K | K;exact K;simp[rZ K] at h
 by_cases e:F.mu=i;subst e;rw[rR O,h];simp[Fam.uA,Fam.IU];rw[mt e];simp[Fam.uA,e]
theorem UU{m:M4}{q':Nat}(h:F.MU w m q):w.setCell F.qA (.int .u32 q')=F.Gt w m q':=by
 unfold Fam.Gt World.setCell;congr 1;apply sK;intro i;unfold Fam.MU Fam.IU at h;rw[tu];have O:F.mu<w.heap.size:=by
  rcases jH F.mu w.heap.size with K | K;exact K;simp[rZ K] at h
 by_cases e:F.mu=i;subst e;rw[rR O,h];simp[Fam.qA,Fam.IU];rw[mt e];simp[Fam.qA,e]
theorem U8{m:M4}(h:F.MU w m q):F.Gt w m q=w:=by
 unfold Fam.Gt;have:w.heap.setIfInBounds F.mu (F.IU m.num q)=w.heap:=by
  apply sK;intro i;by_cases e:F.mu=i
  .subst e;unfold Fam.MU at h;have O:F.mu<w.heap.size:=by
    rcases jH F.mu w.heap.size with K | K;exact K;simp[rZ K] at h
   rw[rR O,h]
  .rw [mt e]
 rw[this]
theorem Hn.put{m:M4}:Hn w (F.Gt w m q) (F.Gt w m q):=⟨V,V,.refl _,V⟩
theorem Hn.self{m:M4}(h:F.MU w m q):Hn w (F.Gt w m q) w:=by rw[U8 h];exact⟨rfl,rfl,.refl _,rfl⟩
def Of(P:Program)(F:Fam)(X Y:Ph->GP):Prop:=∀p g s,HQ P F X p g s->Y p g s
abbrev Ds(P:Program)(F:Fam)(X:Ph->GP):Prop:=Of P F X X
theorem Ds.stop:Ds P F (Stop P F):=λ_ _ _ h=>h.stop
def J4(P:Program)(F:Fam)(R:Ph->GP)(p:Ph)(g:Goroutine)(s:St):Prop:=∃X:Ph->GP,(∀p g s,X p g s->HQ P F (λp g s=>X p g s∨R p g s) p g s)/\X p g s
def Yx(P:Program)(F:Fam)(R:Ph->GP)(p:Ph)(g:Goroutine)(s:St):Prop:=J4 P F R p g s∨R p g s
theorem J4.of{p:Ph}{g:Goroutine}{s:St}(h:Stop P F p g s):J4 P F R p g s:=
 let ⟨X,K,O⟩:=h
 ⟨X,λp g s U=>(K p g s U).M P F λ_ _ _ h=>.inl h,O⟩
theorem J4.to:Of P F (Yx P F R) (J4 P F R):=λp g s h=>by
 refine⟨λK g' s'=>J4 P F R K g' s'∨(K=p/\g'=g/\s'=s),λK g' s' U=>?_,.inr ⟨rfl,rfl,rfl⟩⟩
 rcases U with⟨X,O,Y⟩ | ⟨rfl,rfl,rfl⟩
 .refine(O K g' s' Y).M P F λp g s h=>?_
  rcases h with h | h;exact .inl (.inl ⟨X,O,h⟩);exact .inr h
 .refine h.M P F λp g s h=>?_;rcases h with h | h;exact .inl (.inl h);exact .inr h
theorem Ds.YM:Ds P F (Yx P F R):=λp g s h=>.inl (J4.to p g s h)
theorem kU(h:∀p g s,R p g s->J4 P F R p g s){p:Ph}{g:Goroutine}{s:St}(O:R p g s):Stop P F p g s:=by
 refine⟨J4 P F R,λp g s O=>?_,h p g s O⟩;obtain⟨X,U,Y⟩:=O;refine(U p g s Y).M P F λp g s K=>?_;rcases K with K | K;exact⟨X,U,K⟩;exact h p g s K
theorem Ku(O:Of P F X Y){k:Nat}{p:LP}{g:Goroutine}{s:St}(U:g.status=.running)(K:g.offers=none)(Z:s.q=false)(ac:p≠ .Ge)(ag:∀sv,p=.CL sv->∀w m,F.MU w m 0->stepG P false g w=.go {g with status:=.blocked} w #[])(al:∀b,p=.FP b->mayWake P g=true)
  (h:∀w m q,F.MU w m q->En p m q->∃m' q' es x g' w',(m',q',es,x)∈F.Ce p m q/\stepG P false g w=.go g' w' es/\Hn w (F.Gt w m' q') w'/\g'.status=.running/\Way P false (X (Fam.DJ k x)) g' s):Y (.lk k p) g s:=
 O _ _ _ {
  run:=U,offers:=K,quiet:=(by simp[Fam.Dd]),live:=λ_=>Z,act:=(by simp[Fam.act]),J8:=λe=>by
   rcases e with e | ⟨k',b,e⟩;cases e;cases e;exact al b rfl
  FU:=(by simp),go:=(by simp),lk:=λk' l e am w m q hm K=>by cases e;exact h w m q hm K
  CL:=λk' sv e w m hm=>by cases e;exact ag sv rfl w m hm
  store:=λk' e=>by cases e;exact absurd rfl ac
  fin:=(by simp)}
end
variable {ops:Ao_}{i:Nat}{rest:List Nat}{d:Option Tmp}{f:FuncId}{z:Operand}{args:Array Operand}{vs:Lv_}{ats:Array TypeId}{ty t u tw:TypeId}{pp:String}{af:Ae_}{g:On_}{p:LP}{kk:Nat}
variable{o:Option LP}{nw old:M4}
section
variable {P:Program}{F:Fam}{n:Nat}{L L':Env}{ds:Ld_}{k:Li_}{cs:Lf_}{s s':St}{b:Frame}
variable {x y:Operand}
def Jk:LP->Bool
 | .Ge | .CL _ | .FP _=>false
 | _=>true
theorem LU(h:Jk p=true):p≠ .Ge:=λe=>by subst e;cases h
theorem LJ(h:Jk p=true){X:Bool->Prop}:∀sv,p=.CL sv->X sv:=λsv e=>by subst e;cases h
theorem LM(h:Jk p=true){X:Bool->Prop}:∀sv,p=.FP sv->X sv:=λsv e=>by subst e;cases h
theorem MV(Z:Ds P F X){mk:Mark}(ac:s.q=false)(K:Jk p=true)(ag:∀m q,F.Ce p m q=[(m,q,#[Fam.CX mk],o)])
  (al:ops[i]?=some ⟨d,.call ⟨.value (.func f),args,ats⟩,ty,pp,af,g⟩) (U:b.roundOf=none) (hw:A2 L ops ⟨d,.call ⟨.value (.func f),args,ats⟩,ty,pp,af,g⟩=some true) (O:((b.kind != .early)&&Bz n d)=true)
  (hm:∀x,mk≠ .extern x) (he:BV P f (λ_=>do mark mk;pure Extern.Race.none_))
  (h:JL (A9 P false) (X (Fam.DJ kk o)) b n (AA L d (.tuple #[])) ds (.inRegion ops rest::k) cs s):
  JL (A9 P false) (X (.lk kk p)) b n L ds (.inRegion ops (i::rest)::k) cs s:=λT Y=>by
 simp only[f5] at O
 obtain⟨fn,am,ap,hb,aq,he⟩:=he.h
 refine(A9 P _).stop (Ku Z rfl rfl ac (LU K) (LJ K) (LM K) λw m q av aw=>?_)
 refine⟨m,q,_,o,_,w,by rw[ag];exact bN.2 rfl,?_,Hn.self av,rfl,h _ (Y.put O.2 _)⟩
 rw[B2 U,B2 U,stepG_mark0 (a:=⟨T,ds⟩) mk hm al (Cn Y hw) (by simpa using O.1) rfl am ap hb aq he,EL]
 rfl
theorem SQ(Z:Ds P F X){mk:Addr->Mark}{ad:Addr}(ac:s.q=false)(K:Jk p=true)(ag:∀m q,F.Ce p m q=[(m,q,#[Fam.CX (mk ad)],o)])
  (al:ops[i]?=some ⟨d,.call ⟨.value (.func f),args,ats⟩,ty,pp,af,g⟩) (Y:b.roundOf=none) (hw:A2 L ops ⟨d,.call ⟨.value (.func f),args,ats⟩,ty,pp,af,g⟩=some true) (O:((b.kind != .early)&&Bz n d)=true)
  (hm:∀ad x,mk ad≠ .extern x) (he:BV P f (Extern.Race.marked mk)) (am:evs L args.toList=some vs) (ap:vs[0]?=some (.pointer (some ad)))
  (h:JL (A9 P false) (X (Fam.DJ kk o)) b n (AA L d (.tuple #[])) ds (.inRegion ops rest::k) cs s):
  JL (A9 P false) (X (.lk kk p)) b n L ds (.inRegion ops (i::rest)::k) cs s:=λT U=>by
 simp only[f5] at O
 obtain⟨fn,aq,av,hb,aw,he⟩:=he.h
 refine(A9 P _).stop (Ku Z rfl rfl ac (LU K) (LJ K) (LM K) λw m q ay az=>?_)
 refine⟨m,q,_,o,_,w,by rw[ag];exact bN.2 rfl,?_,Hn.self ay,rfl,h _ (U.put O.2 _)⟩
 rw[B2 Y,B2 Y,stepG_markAt (a:=⟨T,ds⟩) mk hm al (Cn U hw) (by simpa using O.1) rfl aq av hb aw he (ad:=ad) (by rw[Lo U am];simpa using ap),EL]
 rfl
theorem R1(aq:Ds P F X)(av:s.q=false)(K:Jk p=true)(aw:∀m q,F.Ce p m q=[(m,q,#[],o)])
  (ay:ops[i]?=some ⟨d,.convert t u x,ty,pp,af,g⟩) (Y:b.roundOf=none) (hw:A2 L ops ⟨d,.convert t u x,ty,pp,af,g⟩=some true) (O:((b.kind != .early)&&Bz n d)=true)
  (Z:P.underlying t=some (.pointer tw)) (hu:P.underlying u=some .unsafePointer) (ac:(P.info? tw).map (λi=>decide (i.size=0))=some false) (az:ev L x=some (.pointer (some F.uA)))
  (h:JL (A9 P false) (X (Fam.DJ kk o)) b n (AA L d (.pointer (some F.uA))) ds (.inRegion ops rest::k) cs s):
  JL (A9 P false) (X (.lk kk p)) b n L ds (.inRegion ops (i::rest)::k) cs s:=λT U=>by
 simp only[f5] at O
 refine(A9 P _).stop (Ku aq rfl rfl av (LU K) (LJ K) (LM K) λw m q ag a1=>?_)
 refine⟨m,q,_,o,_,w,by rw[aw];exact bN.2 rfl,?_,Hn.self ag,rfl,h _ (U.put O.2 _)⟩
 have al:=(LY ag).1
 have am:=run_convert_to_unsafe (P:=P) (w:=w) Z hu ac al
 have a0:=events_convert_to_unsafe (P:=P) (w:=w) Z hu ac al
 have ap:execOp (⟨T,ds⟩:Act).eval ⟨d,.convert t u x,ty,pp,af,g⟩=(do pure (Next.value (← Go.convert t u (.pointer (some F.uA))))):=by
  rw[ML];simp only[execOp,U.ev az]
 rw[B2 Y,B2 Y,stepG_value (a:=⟨T,ds⟩) (v:=.pointer (some F.uA)) (w':=w) ay (Cn U hw) (by simpa using O.1) (by rw[ap];simp[am,Result.andThen]),EL];have e2:listed P b.fn ⟨T,ds⟩ ⟨d,.convert t u x,ty,pp,af,g⟩ w=#[]:=by
  unfold listed;rw[ap];simp[am,a0,Result.evThen,seen_none]
 rw[e2]
theorem Sd(a1:Of P F X Y)(a2:s.q=false)(Z:Jk p=true)
  (am:ops[i]?=some ⟨d,.call ⟨.value (.func f),#[x,y,z],ats⟩,ty,pp,af,g⟩) (U:b.roundOf=none) (hw:A2 L ops ⟨d,.call ⟨.value (.func f),#[x,y,z],ats⟩,ty,pp,af,g⟩=some true) (O:((b.kind != .early)&&Bz n d)=true)
  (he:BV P f (Extern.Atomic.casT (.int .i32))) (ap:ev L x=some (.pointer (some F.uA))) (aq:ev L y=some (.int .i32 old.num)) (av:ev L z=some (.int .i32 nw.num))
  (a3:∀q,En p old q->∃o,(nw,q,#[Fam.Cu F.uA,Fam.Fa F.uA],o)∈F.Ce p old q/\JL (A9 P false) (X (Fam.DJ kk o)) b n (AA L d (.bool true)) ds (.inRegion ops rest::k) cs s)
  (a4:∀m q,m≠old->En p m q->∃o,(m,q,#[Fam.Cu F.uA],o)∈F.Ce p m q/\JL (A9 P false) (X (Fam.DJ kk o)) b n (AA L d (.bool false)) ds (.inRegion ops rest::k) cs s):
  ∀T,Has n L T->Y (.lk kk p) (G (fr b T ds (.inRegion ops (i::rest)::k)) cs) s:=λT K=>by
 simp only[f5] at O
 obtain⟨fn,aw,ay,hb,az,he⟩:=he.h
 refine(Ku a1 rfl rfl a2 (LU Z) (LJ Z) (LM Z) λw m q ac a0=>?_)
 let⟨c1,_,c3,_⟩:=LY ac
 by_cases e:m=old
 .subst e
  let⟨o,ag,al⟩:=a3 q a0;refine⟨_,_,_,o,_,_,ag,?_,Hn.put,rfl,al _ (K.put O.2 _)⟩;rw[B2 U,B2 U,stepG_cas_hit (a:=⟨T,ds⟩) am (Cn K hw) (by simpa using O.1) rfl aw ay hb az .i32 he (by rw[Fs];exact K.ev ap) (by rw[Fs];exact K.ev aq) (by rw[Fs];exact K.ev av) c1 c3,UD ac,EL]
  rfl
 .let⟨o,ag,al⟩:=a4 m q e a0;refine⟨_,_,_,o,_,w,ag,?_,Hn.self ac,rfl,al _ (K.put O.2 _)⟩;rw[B2 U,B2 U,stepG_cas_miss (a:=⟨T,ds⟩) am (Cn K hw) (by simpa using O.1) rfl aw ay hb az .i32 he (by rw[Fs];exact K.ev ap) (by rw[Fs];exact K.ev aq) (by rw[Fs];exact K.ev av) c1 c3 (λq=>e (M4.gm q)),EL]
  rfl
theorem VF(K:Ds P F X)(O:s.q=false)(U:Jk p=true)
  (Y:ops[i]?=some ⟨d,.call ⟨.value (.func f),#[x,y,z],ats⟩,ty,pp,af,g⟩) (Z:b.roundOf=none) (hw:A2 L ops ⟨d,.call ⟨.value (.func f),#[x,y,z],ats⟩,ty,pp,af,g⟩=some true) (ac:((b.kind != .early)&&Bz n d)=true)
  (he:BV P f (Extern.Atomic.casT (.int .i32))) (ag:ev L x=some (.pointer (some F.uA))) (al:ev L y=some (.int .i32 old.num)) (am:ev L z=some (.int .i32 nw.num))
  (ap:∀q,En p old q->∃o,(nw,q,#[Fam.Cu F.uA,Fam.Fa F.uA],o)∈F.Ce p old q/\JL (A9 P false) (X (Fam.DJ kk o)) b n (AA L d (.bool true)) ds (.inRegion ops rest::k) cs s)
  (aq:∀m q,m≠old->En p m q->∃o,(m,q,#[Fam.Cu F.uA],o)∈F.Ce p m q/\JL (A9 P false) (X (Fam.DJ kk o)) b n (AA L d (.bool false)) ds (.inRegion ops rest::k) cs s):
  JL (A9 P false) (X (.lk kk p)) b n L ds (.inRegion ops (i::rest)::k) cs s:=λT av=>(A9 P _).stop (Sd K O U Y Z hw ac he ag al am ap aq T av)
theorem HZ(ac:Ds P F X){dl:Int}(ag:s.q=false)(O:Jk p=true)
  (al:ops[i]?=some ⟨d,.call ⟨.value (.func f),#[x,y],ats⟩,ty,pp,af,g⟩) (Y:b.roundOf=none) (hw:A2 L ops ⟨d,.call ⟨.value (.func f),#[x,y],ats⟩,ty,pp,af,g⟩=some true) (U:((b.kind != .early)&&Bz n d)=true)
  (he:BV P f (Extern.Atomic.update (Op.intArith .add) .i32 true)) (am:ev L x=some (.pointer (some F.uA))) (ap:ev L y=some (.int .i32 dl))
  (h:∀m q,En p m q->∃m' o,IntKind.i32.wrap (m.num+dl)=m'.num/\(m',q,#[Fam.Cu F.uA,Fam.Fa F.uA],o)∈F.Ce p m q/\JL (A9 P false) (X (Fam.DJ kk o)) b n (AA L d (.int .i32 m'.num)) ds (.inRegion ops rest::k) cs s):
  JL (A9 P false) (X (.lk kk p)) b n L ds (.inRegion ops (i::rest)::k) cs s:=λT K=>by
 simp only[f5] at U
 obtain⟨fn,aq,av,hb,aw,he⟩:=he.h
 refine(A9 P _).stop (Ku ac rfl rfl ag (LU O) (LJ O) (LM O) λw m q Z ay=>?_)
 let⟨c1,_,c3,_⟩:=LY Z
 let⟨m',o,az,a0,a1⟩:=h m q ay
 refine⟨_,_,_,o,_,_,a0,?_,Hn.put,rfl,a1 _ (K.put U.2 _)⟩
 rw[B2 Y,B2 Y,stepG_add_atomic (a:=⟨T,ds⟩) al (Cn K hw) (by simpa using U.1) rfl aq av hb aw .i32 he (by rw[Fs];exact K.ev am) (by rw[Fs];exact K.ev ap) c1 c3,az,UD Z,EL]
 rfl
theorem UT(ap:Ds P F X){sv:Bool}(aq:s.q=false)(Z:ops[i]?=some ⟨d,.call ⟨.value (.func f),args,ats⟩,ty,pp,af,g⟩)(U:b.roundOf=none)(hw:A2 L ops ⟨d,.call ⟨.value (.func f),args,ats⟩,ty,pp,af,g⟩=some true)(Y:((b.kind != .early)&&Bz n d)=true)
  (he:BV P f Extern.Sync.semacquire) (av:evs L args.toList=some vs) (aw:vs[0]?=some (.pointer (some F.qA)))
  (h:JL (A9 P false) (X (.lk kk (if sv then .Fi true else .GH))) b n (AA L d (.tuple #[])) ds (.inRegion ops rest::k) cs s):
  JL (A9 P false) (X (.lk kk (.CL sv))) b n L ds (.inRegion ops (i::rest)::k) cs s:=λT K=>by
 simp only[f5] at Y
 obtain⟨fn,ac,ag,hb,al,he⟩:=he.h
 have am:(args.map (⟨T,ds⟩:Act).eval)[0]?=some (.pointer (some F.qA)):=by rw[Lo K av];simpa using aw
 refine(A9 P _).stop (Ku ap rfl rfl aq (by simp) (λa0 e w m O=>?_) (by simp) λw m q O ay=>?_);let⟨_,c2,_,c4⟩:=LY O;rw[B2 U];exact stepG_semacquire_wait (a:=⟨T,ds⟩) Z (Cn K hw) rfl ac ag hb al he (ad:=F.qA) am c2
 .let⟨_,c2,_,c4⟩:=LY O;have a1:q≠0:=ay;refine⟨m,q - 1,_,some (if sv then .Fi true else .GH),_,_,bN.2 rfl,?_,Hn.put,rfl,h _ (K.put Y.2 _)⟩
  have az:((q:Int) - 1)=((q - 1:Nat):Int):=by omega
  rw[B2 U,B2 U,stepG_semacquire (a:=⟨T,ds⟩) Z (Cn K hw) (by simpa using Y.1) rfl ac ag hb al he (ad:=F.qA) am c2 (by omega) c4,EL,az,UU O]
theorem U0(ac:Ds P F X){st:Bool}(ag:s.q=false)(U:ops[i]?=some ⟨d,.call ⟨.value (.func f),args,ats⟩,ty,pp,af,g⟩)(Y:b.roundOf=none)(hw:A2 L ops ⟨d,.call ⟨.value (.func f),args,ats⟩,ty,pp,af,g⟩=some true)(K:((b.kind != .early)&&Bz n d)=true)
  (he:BV P f Extern.Sync.semrelease) (al:evs L args.toList=some vs) (am:vs[0]?=some (.pointer (some F.qA)))
  (h:JL (A9 P false) (X (.lk kk .FQ)) b n (AA L d (.tuple #[])) ds (.inRegion ops rest::k) cs s):
  JL (A9 P false) (X (.lk kk (.FP st))) b n L ds (.inRegion ops (i::rest)::k) cs s:=λT O=>by
 simp only[f5] at K
 have ap:=Vu (P:=P) (b:=b) (ds:=ds) (k:=k) (cs:=cs) (rest:=rest) (T:=T) U he
 obtain⟨fn,aq,av,hb,aw,he⟩:=he.h
 have ay:(args.map (⟨T,ds⟩:Act).eval)[0]?=some (.pointer (some F.qA)):=by rw[Lo O al];simpa using am
 refine(A9 P _).stop (Ku ac rfl rfl ag (by simp) (by simp) (λ_ _=>ap) λw m q Z az=>?_);let⟨_,c2,_,c4⟩:=LY Z;have a1:q<=1:=az.1;refine⟨m,q+1,_,some .FQ,_,_,bN.2 rfl,?_,Hn.put,rfl,h _ (O.put K.2 _)⟩;have a0:IntKind.u32.wrap ((q:Int)+1)=((q+1:Nat):Int):=by
  have:q=0∨q=1:=by omega
  rcases this with rfl | rfl<;>decide
 rw[B2 Y,B2 Y,stepG_semrelease (a:=⟨T,ds⟩) U (Cn O hw) (by simpa using K.1) rfl aq av hb aw he (ad:=F.qA) ay c2 c4,EL,a0,UU Z]
theorem Zv(K:DY P t=some false)(w:World):(isAgg t).run P w=.ok false w:=by
 unfold DY at K;simp only[isAgg,underlying,bind,Sem.bind,program,Sem.run];cases hu:P.underlying t with
 | none=>rw[hu] at K;cases K
 | some u=>
  rw[hu] at K;cases u<;>simp at K<;>rfl
theorem H2(am:Ds P F X)(ap:s.q=false)(K:Jk p=true)
  (aq:ops[i]?=some ⟨d,.load t x,ty,pp,af,g⟩) (Y:b.roundOf=none) (hw:A2 L ops ⟨d,.load t x,ty,pp,af,g⟩=some true) (O:((b.kind != .early)&&Bz n d)=true)
  (av:DY P t=some false) (aw:(P.funcs[b.fn]?).any (·.norace)=true) (ay:ev L x=some (.pointer (some F.uA)))
  (h:∀m q,En p m q->∃o,(m,q,#[],o)∈F.Ce p m q/\JL (A9 P false) (X (Fam.DJ kk o)) b n (AA L d (.int .i32 m.num)) ds (.inRegion ops rest::k) cs s):
  JL (A9 P false) (X (.lk kk p)) b n L ds (.inRegion ops (i::rest)::k) cs s:=λT U=>by
 simp only[f5] at O
 refine(A9 P _).stop (Ku am rfl rfl ap (LU K) (LJ K) (LM K) λw m q Z az=>?_)
 let⟨o,a0,a1⟩:=h m q az
 refine⟨m,q,_,o,_,w,a0,?_,Hn.self Z,rfl,a1 _ (U.put O.2 _)⟩
 have ac:=(LY Z).1
 have ag:execOp (⟨T,ds⟩:Act).eval ⟨d,.load t x,ty,pp,af,g⟩=(do pure (Next.value (← Instr.loadAt t (.pointer (some F.uA))))):=by
  rw[ML];simp only[execOp,U.ev ay]
 have al:=Zv (P:=P) av w;rw[B2 Y,B2 Y,stepG_value (a:=⟨T,ds⟩) (v:=.int .i32 m.num) (w':=w) aq (Cn U hw) (by simpa using O.1) (by rw[ag];simp[Instr.loadAt,Instr.sureAddr,loadVar,al,ac,Result.andThen]),EL];have e2:listed P b.fn ⟨T,ds⟩ ⟨d,.load t x,ty,pp,af,g⟩ w=#[]:=by
  unfold listed;rw[ag];have a2:(do pure (Next.value (← Instr.loadAt t (.pointer (some F.uA)))):Sem Next).events P w #[]=#[⟨.cell F.uA,false,false⟩]:=by
   simp[Instr.loadAt,Instr.sureAddr,loadVar,al,ac,Result.evThen]
  rw[a2,seen_def];simp[seenStep,aw]
 rw[e2]
theorem RJ(ag:Ds P F X)(al:s.q=false)(K:Jk p=true)
  (am:ops[i]?=some ⟨d,.call ⟨.value (.func f),args,ats⟩,ty,pp,af,g⟩) (U:b.roundOf=none) (hw:A2 L ops ⟨d,.call ⟨.value (.func f),args,ats⟩,ty,pp,af,g⟩=some true) (O:((b.kind != .early)&&Bz n d)=true)
  (he:BV P f Extern.OsHooks.nano) (Y:(P.funcs[f]?).any (·.norace)=true)
  (h:∀(m:M4) (q:Nat) (v:Int),En p m q->∃o,(m,q,#[],o)∈F.Ce p m q/\JL (A9 P false) (X (Fam.DJ kk o)) b n (AA L d (.int .i64 v)) ds (.inRegion ops rest::k) cs s):
  JL (A9 P false) (X (.lk kk p)) b n L ds (.inRegion ops (i::rest)::k) cs s:=λT Z=>by
 simp only[f5] at O
 obtain⟨fn,ac,ap,hb,aq,he⟩:=he.h
 have av:fn.norace=true:=by rw[ac] at Y;simpa using Y
 refine(A9 P _).stop (Ku ag rfl rfl al (LU K) (LJ K) (LM K) λw m q aw ay=>?_);let⟨o,az,a0⟩:=h m q ((w.os.mono+w.tick:Nat):Int) ay;refine⟨m,q,_,o,_,w.later,az,?_,?_,rfl,a0 _ (Z.put O.2 _)⟩;rw[B2 U,B2 U,stepG_nanotime (a:=⟨T,ds⟩) am (Cn Z hw) (by simpa using O.1) rfl ac ap hb aq he av,EL];rw[U8 aw];exact⟨rfl,rfl,⟨w.tick,rfl⟩,rfl⟩
end
variable {P:Program}{J:Judge P}{Q:GP}{n:Nat}{L L':Env}{ds:Ld_}{cs:Lf_}{s s':St}{b:Frame}
section
variable {k:Li_}
variable {x y:Operand}
theorem JL.canSpin{it:Int}(av:s.q=false)(Z:ops[i]?=some ⟨d,.call ⟨.value (.func f),args,ats⟩,ty,pp,af,g⟩)(U:b.roundOf=none)(hw:A2 L ops ⟨d,.call ⟨.value (.func f),args,ats⟩,ty,pp,af,g⟩=some true)(K:((b.kind != .early)&&Bz n d)=true)
  (he:BV P f Extern.Sync.canSpin) (aw:evs L args.toList=some [.int .i64 it])
  (ay:it<4->JL J Q b n (AA L d (.bool true)) ds (.inRegion ops rest::k) cs s) (ac:JL J Q b n (AA L d (.bool false)) ds (.inRegion ops rest::k) cs s):
  JL J Q b n L ds (.inRegion ops (i::rest)::k) cs s:=λT O=>by
 simp only[f5] at K
 obtain⟨fn,ag,al,hb,am,he⟩:=he.h
 have ap:args.map (⟨T,ds⟩:Act).eval=#[.int .i64 it]:=by rw[Lo O aw]
 by_cases az:4<=it;refine Judge.DU rfl (λw=>?_) (ac _ (O.put K.2 _));rw[B2 U,B2 U];have:=stepG_canSpin_no (rest:=rest) (main:=J.main) (kk:=k) (cs:=cs) (w:=w) (a:=⟨T,ds⟩) (P:=P) (b:=b) Z (Cn O hw) (by simpa using K.1) rfl ag al hb am he ap az;rw[this,EL]
 .have aq:it<4:=by omega
  refine J.step ⟨rfl,λw Y=>⟨G (fr b (C6 T d (.bool w.spins)) ds (.inRegion ops rest::k)) cs,s,w.asked,#[],?_,?_,⟨Y.e,Y.h,Y.d⟩,⟨rJ _,λ_ _ _=>rfl,λ_ h=>.inl h,λ_ _ h=>h,λ_ h=>.inl h,rfl,rfl,rfl⟩,by simp⟩,λe=>by subst e;cases av⟩;rw[B2 U,B2 U];have:=stepG_canSpin_ask (rest:=rest) (main:=J.main) (kk:=k) (cs:=cs) (w:=w) (a:=⟨T,ds⟩) (P:=P) (b:=b) Z (Cn O hw) (by simpa using K.1) rfl ag al hb am he ap aq;rw[this,EL]
  .cases a0:w.spins with
   | true=>exact ay aq _ (O.put K.2 _)
   | false=>exact ac _ (O.put K.2 _)
end
section
variable {P:Program}{F:Fam}
def SY{HM:Type}(P:Program)(F:Fam)(s:St)(kk:Nat)(ph:HM->LP)(head:(Ph->GP)->HM->Prop)(ok:HM->Prop)(a:HM)(g:Goroutine):Prop:=
 ∀X Y:Ph->GP,Of P F X Y->Ds P F X->(∀p g s,Stop P F p g s->X p g s)->(∀K,ok K->head X K)->Y (.lk kk (ph a)) g s
theorem XH{HM:Type}{s:St}{kk:Nat}{ph:HM->LP}{head:(Ph->GP)->HM->Prop}{ok:HM->Prop}
  (h:∀Y:Ph->GP,Ds P F Y->(∀p g s,Stop P F p g s->Y p g s)->(∀a g,ok a->SY P F s kk ph head ok a g->Y (.lk kk (ph a)) g s)->∀a,ok a->head Y a):∀a,ok a->head (Stop P F) a:=by
 have key:∀p g s',(s'=s/\∃a,ok a/\p=.lk kk (ph a)/\SY P F s kk ph head ok a g)->Stop P F p g s':=λp g s' U=>by
  refine kU (R:=λp g s'=>s'=s/\∃a,ok a/\p=.lk kk (ph a)/\SY P F s kk ph head ok a g) (λp g s' U=>?_) U;obtain⟨rfl,a,O,rfl,K⟩:=U;exact K _ _ J4.to Ds.YM (λ_ _ _ h=>.inl (.of h)) (h _ Ds.YM (λ_ _ _ h=>.inl (.of h)) λa g O K=>.inr ⟨V,a,O,V,K⟩)
 exact h _ Ds.stop (λ_ _ _ h=>h) λa g O K=>key _ _ _ ⟨V,a,O,V,K⟩
theorem Pg{n:Nat}{L:Env}{ds:Ld_}{k:Li_}{cs:Lf_}{s:St}{b:Frame}{Q K:GP}(O:∀g s,Q g s->K g s)(h:JL (A9 P false) Q b n L ds k cs s):JL (A9 P false) K b n L ds k cs s:=λT U=>Way.M O (h T U)
end
def BM(m:M4):Nat:=m.l.toNat+2*m.k.toNat+4*m.s.toNat
def M4.nat(m:M4):Nat:=m.l.toNat+2*m.k.toNat+4*m.s.toNat+8*m.w
theorem Pp(m:M4):BM m<8:=by
 have K:=uk m.l;have O:=uk m.k;have U:=uk m.s;unfold BM;omega
theorem M4.nat_eq(m:M4):m.nat=8*m.w+BM m:=by unfold M4.nat BM;omega
theorem M4.Sx(m:M4):m.nat/8=m.w:=by have:=Pp m;rw[M4.nat_eq];omega
theorem M4.SR(m:M4):m.nat%8=BM m:=by have:=Pp m;rw[M4.nat_eq];omega
def CB(m:M4):Prop:=m.w<200000000
theorem CB.lt{m:M4}(h:CB m):m.nat<2147483648:=by have:=Pp m;unfold CB at h;rw[M4.nat_eq];omega
theorem Dz.CB{m:M4}(h:Dz m):CB m:=by unfold Dz at h;unfold Pal.CB;omega
variable{a:Nat}
theorem gH{b:Nat}(hb:b<8):a&&& b=(a%8)&&& b:=by
 apply uB;intro i;rw[uG,uG];by_cases h:i<3;rw[show(8:Nat)=2^3 from rfl,Nat.testBit_mod_two_pow];simp[h];have:b.testBit i=false:=tX (sS hb (by rw[show(8:Nat)=2^3 from rfl];exact sn (by omega) (by omega)));rw[this];simp
theorem XZ{b:Nat}(hb:b<8):a|||b=8*(a/8)+((a%8)|||b):=by
 have K:a=(a/8)<<<3|||(a%8):=by
  rw[← vh (by omega),Nat.shiftLeft_eq];omega
 have O:(a%8)|||b<2^3:=ub (by omega) (by omega)
 calc a|||b=((a/8)<<<3|||(a%8))|||b:=by rw[← K]
  _=(a/8)<<<3|||((a%8)|||b):=Nat.or_assoc _ _ _
  _=(a/8)<<<3+((a%8)|||b):=(vh O _).symm
  _=8*(a/8)+((a%8)|||b):=by rw[Nat.shiftLeft_eq];omega
theorem Ga(h:a<2147483648):IntKind.i32.wrap (a:Int)=a:=by
 simp only[IntKind.wrap,IntKind.bits,IntKind.signed];simp;omega
theorem Ox(h:a<2147483648):(BitVec.ofInt IntKind.i32.bits (a:Int)).toNat=a:=by
 simp[IntKind.bits,vw];omega
theorem M4.K6(m:M4):m.num=(m.nat:Int):=rfl
variable {ρ:Operand->Value}{e:TypeId}
variable{c:Nat}
section
variable {x y:Operand}{p:String}{m:M4}
abbrev Dh(n:Nat):Value:=.int .i32 (n:Int)
theorem Fc(hm:CB m)(O:ρ x=.int .i32 m.num)(U:ρ y=.int .i32 (c:Int))(Y:c<8):Yl P ⟨d,.binOp .and t x y u,ty,p,af,g⟩ ρ s (Dh (BM m&&& c)):=by
 have h:=Yl.and (P:=P) (s:=s) (d:=d) (t:=t) (u:=u) (ty:=ty) (p:=p) (af:=af) (g:=g) O U;have K:=hm.lt;rw[M4.K6,uz,Ox K,Ox (by omega),Ga (tJ vU K),gH Y,M4.SR] at h;exact h
theorem gF{m:M4}(hm:CB m)(O:c<8)(U:BM m|||c=BM m')(K:m'.w=m.w):IntKind.i32.wrap ((BitVec.ofInt IntKind.i32.bits m.num|||BitVec.ofInt IntKind.i32.bits (c:Int)).toNat:Int)=m'.num:=by
 have Y:=hm.lt;have Z:m.nat|||c=m'.nat:=by rw[XZ O,M4.Sx,M4.SR,U,M4.nat_eq m',K]
 have ac:m'.nat<2147483648:=by
  have:=Pp m';unfold CB at hm;rw[M4.nat_eq,K];omega
 rw[M4.K6,vT,Ox Y,Ox (by omega),Z,Ga ac,M4.K6]
theorem Qy(hm:CB m)(K:c<8)(O:BM m|||c=BM m')(U:m'.w=m.w)(Y:ρ x=.int .i32 m.num)(Z:ρ y=.int .i32 (c:Int)):Yl P ⟨d,.binOp .or t x y u,ty,p,af,g⟩ ρ s (.int .i32 m'.num):=by
 have h:=Yl.or (P:=P) (s:=s) (d:=d) (t:=t) (u:=u) (ty:=ty) (p:=p) (af:=af) (g:=g) Y Z;rw[gF hm K O U] at h;exact h
theorem mw(m:M4):BM m|||1=BM {m with l:=true}:=by obtain⟨l,k,s,w⟩:=m;cases l<;>cases k<;>cases s<;>simp[BM]
theorem TV(m:M4):BM m|||2=BM {m with k:=true}:=by obtain⟨l,k,s,w⟩:=m;cases l<;>cases k<;>cases s<;>simp[BM]
theorem mq(m:M4):BM m|||4=BM {m with s:=true}:=by obtain⟨l,k,s,w⟩:=m;cases l<;>cases k<;>cases s<;>simp[BM]
theorem Yl.andNot{kd:IntKind}{a b:Int}(K:ρ x=.int kd a)(O:ρ y=.int kd b):Yl P ⟨d,.binOp .andNot t x y u,ty,p,af,g⟩ ρ s (.int kd (kd.wrap (BitVec.ofInt kd.bits a&&& ~~~ BitVec.ofInt kd.bits b).toNat)):=by
 simp[Yl,execOp,lp,pure,bind,Sem.bind,K,O,eqGuard,Go.binOp,Op.intBits]
theorem my(i:Nat):(2:Nat).testBit i=decide (i=1):=by
 by_cases h:i<2;exact(by decide:∀j:Fin 2,(2:Nat).testBit j.1=decide (j.1=1)) ⟨i,h⟩;rw[tX (sS (show 2<2^2 by decide) (sn (by omega) (by omega)))];simp;omega
theorem mD(i:Nat):(4294967293:Nat).testBit i=(decide (i<32)&& !decide (i=1)):=by
 by_cases h:i<32;exact(by decide:∀j:Fin 32,(4294967293:Nat).testBit j.1=(decide (j.1<32)&& !decide (j.1=1))) ⟨i,h⟩;rw[tX (sS (show 4294967293<2^32 by decide) (sn (by omega) (by omega)))];simp[h]
theorem SF{m:M4}(hm:CB m)(K:m.k=true):m.nat&&& 4294967293=({m with k:=false}:M4).nat:=by
 have U:m.nat=({m with k:=false}:M4).nat|||2:=by
  rw[XZ (by omega),M4.Sx,M4.SR,M4.nat_eq m,TV];obtain⟨l,k,s,w⟩:=m;simp only at K;subst K;rfl
 have Y:({m with k:=false}:M4).nat<2147483648:=(show CB {m with k:=false} from hm).lt;have Z:({m with k:=false}:M4).nat.testBit 1=false:=by
  rw[Nat.testBit_succ,Nat.testBit_zero];have:({m with k:=false}:M4).nat/2%2=0:=by
   have:=uk m.l;simp only[M4.nat,rU];omega
  simp[this]
 rw[U];apply uB;intro i;rw[uG,vZ,my,mD];by_cases h:i=1;subst h;rw[Z];rfl;by_cases O:i<32;simp[h,O];rw[tX (sS Y (by rw[show(2147483648:Nat)=2^31 from rfl];exact sn (by omega) (by omega)))];simp[O]
theorem Yl.SF(hm:CB m)(K:m.k=true)(O:ρ x=.int .i32 m.num)(U:ρ y=.int .i32 2):Yl P ⟨d,.binOp .andNot t x y u,ty,p,af,g⟩ ρ s (.int .i32 ({m with k:=false}:M4).num):=by
 have h:=Yl.andNot (P:=P) (s:=s) (d:=d) (t:=t) (u:=u) (ty:=ty) (p:=p) (af:=af) (g:=g) O U;have Y:({m with k:=false}:M4).nat<2147483648:=(show CB {m with k:=false} from hm).lt;rw[M4.K6,uz,Ox hm.lt,show(~~~ BitVec.ofInt IntKind.i32.bits 2).toNat=4294967293 from rfl,Pal.SF hm K,Ga Y] at h;exact h
theorem JY(hm:CB m)(K:ρ x=.int .i32 m.num)(O:ρ y=.int .u64 3):Yl P ⟨d,.binOp .shr t x y u,ty,p,af,g⟩ ρ s (Dh m.w):=by
 have h:=Yl.shr (P:=P) (s:=s) (d:=d) (t:=t) (u:=u) (ty:=ty) (p:=p) (af:=af) (g:=g) K O (by decide);have e:m.num.fdiv (2^(min (3:Int).toNat IntKind.i32.bits))=(m.w:Int):=by
  rw[show(2:Int)^(min (3:Int).toNat IntKind.i32.bits)=8 from rfl,M4.K6,t8 _ (by decide)];have:=M4.Sx m;omega
 rw[e] at h;exact h
theorem eE(hm:Dz m)(K:ρ x=.int .i32 m.num)(O:ρ y=.int .i32 8):Yl P ⟨d,.binOp .add t x y u,ty,p,af,g⟩ ρ s (.int .i32 ({m with w:=m.w+1}:M4).num):=by
 have h:=Yl.add (P:=P) (s:=s) (d:=d) (t:=t) (u:=u) (ty:=ty) (p:=p) (af:=af) (g:=g) K O;have e:m.num+8=((({m with w:=m.w+1}:M4).nat:Nat):Int):=by simp only[M4.K6,M4.nat];omega
 rw[e,Ga (show CB {m with w:=m.w+1} by unfold Dz at hm;unfold CB;simp only;omega).lt] at h;exact h
theorem fY(hm:CB m)(hw:m.w≠0)(K:ρ x=.int .i32 m.num)(O:ρ y=.int .i32 8):Yl P ⟨d,.binOp .sub t x y u,ty,p,af,g⟩ ρ s (.int .i32 ({m with w:=m.w - 1}:M4).num):=by
 have h:=Yl.sub (P:=P) (s:=s) (d:=d) (t:=t) (u:=u) (ty:=ty) (p:=p) (af:=af) (g:=g) K O;have e:m.num - 8=((({m with w:=m.w - 1}:M4).nat:Nat):Int):=by simp only[M4.K6,M4.nat];omega
 rw[e,Ga (show CB {m with w:=m.w - 1} by unfold CB at*;simp only;omega).lt] at h;exact h
theorem gG(hm:CB m)(K:m.l=false)(O:ρ x=.int .i32 m.num)(U:ρ y=.int .i32 1):Yl P ⟨d,.binOp .add t x y u,ty,p,af,g⟩ ρ s (.int .i32 ({m with l:=true}:M4).num):=by
 have h:=Yl.add (P:=P) (s:=s) (d:=d) (t:=t) (u:=u) (ty:=ty) (p:=p) (af:=af) (g:=g) O U;have e:m.num+1=((({m with l:=true}:M4).nat:Nat):Int):=by simp only[M4.K6,M4.nat,K,r8,rU];omega
 rw[e,Ga (show CB {m with l:=true} from hm).lt] at h;exact h
end
theorem mo(m:M4):((BM m&&& 5:Nat):Int)=1↔m.l=true/\m.s=false:=by obtain⟨l,k,s,w⟩:=m;cases l<;>cases k<;>cases s<;>simp[BM]
theorem Oi(m:M4):((BM m&&& 5:Nat):Int)=0↔m.l=false/\m.s=false:=by obtain⟨l,k,s,w⟩:=m;cases l<;>cases k<;>cases s<;>simp[BM]
theorem IP(m:M4):((BM m&&& 4:Nat):Int)=0↔m.s=false:=by obtain⟨l,k,s,w⟩:=m;cases l<;>cases k<;>cases s<;>simp[BM]
theorem Ts(m:M4):((BM m&&& 2:Nat):Int)=0↔m.k=false:=by obtain⟨l,k,s,w⟩:=m;cases l<;>cases k<;>cases s<;>simp[BM]
theorem Tn(m:M4):((BM m&&& 1:Nat):Int)=0↔m.l=false:=by obtain⟨l,k,s,w⟩:=m;cases l<;>cases k<;>cases s<;>simp[BM]
theorem QH(m:M4):((BM m&&& 3:Nat):Int)=0↔m.l=false/\m.k=false:=by obtain⟨l,k,s,w⟩:=m;cases l<;>cases k<;>cases s<;>simp[BM]
theorem Yi(m:M4):((BM m&&& 7:Nat):Int)=0↔m.l=false/\m.k=false/\m.s=false:=by obtain⟨l,k,s,w⟩:=m;cases l<;>cases k<;>cases s<;>simp[BM]
end Pal
namespace Go.Proofs
abbrev Tryz.link:Go.Conc.Lib.WgLink:={add:=52,done:=54,wait:=59,relMerge:=76,disable:=77,enable:=78,inBubble:=79,associate:=80,fatal:=81,uOr:=82,uAdd:=83,raceRead:=84,uLoad:=85,uStore:=86,disassociate:=87,semrelease:=88,acquire:=93,isAssociated:=94,uCas:=95,raceWrite:=96,semacquire:=97,orU64:=117,addU64:=118,loadU64:=119,storeU64:=120,casU64:=128,tWgP:=155,tUP:=143,tAssoc:=157,tWg:=113,tAU:=111,tU64:=44,tUint:=133,tU32:=71,tPU32:=161,tPAU:=204,tPU64:=206,tNoCopy:=103,tANoCopy:=108,tAlign64:=109}
theorem Tryz.Md:Go.Conc.Lib.WgLib Tryz.prog Tryz.link:=
 ⟨Tryz.func52,Tryz.func54,Tryz.func59,Tryz.func76,Tryz.func77,Tryz.func78,Tryz.func79,Tryz.func80,Tryz.func81,Tryz.func82,Tryz.func83,Tryz.func84,Tryz.func85,Tryz.func86,Tryz.func87,Tryz.func88,Tryz.func93,Tryz.func94,Tryz.func95,Tryz.func96,Tryz.func97,Tryz.func117,Tryz.func118,Tryz.func119,Tryz.func120,Tryz.func128,Tryz.underlying155,Tryz.runUnderlying155,Tryz.sizeOf155,Tryz.isAgg155,Tryz.zeroValue155,Tryz.underlying143,Tryz.runUnderlying143,Tryz.sizeOf143,Tryz.isAgg143,Tryz.zeroValue143,Tryz.underlying157,Tryz.runUnderlying157,Tryz.sizeOf157,Tryz.isAgg157,Tryz.zeroValue157,Tryz.underlying113,Tryz.runUnderlying113,Tryz.sizeOf113,Tryz.isAgg113,Tryz.zeroValue113,Tryz.underlying111,Tryz.runUnderlying111,Tryz.sizeOf111,Tryz.isAgg111,Tryz.zeroValue111,Tryz.underlying44,Tryz.runUnderlying44,Tryz.sizeOf44,Tryz.isAgg44,Tryz.zeroValue44,Tryz.underlying133,Tryz.runUnderlying133,Tryz.sizeOf133,Tryz.isAgg133,Tryz.zeroValue133,Tryz.underlying71,Tryz.runUnderlying71,Tryz.sizeOf71,Tryz.isAgg71,Tryz.zeroValue71,Tryz.underlying161,Tryz.runUnderlying161,Tryz.sizeOf161,Tryz.isAgg161,Tryz.zeroValue161,Tryz.underlying204,Tryz.runUnderlying204,Tryz.sizeOf204,Tryz.isAgg204,Tryz.zeroValue204,Tryz.underlying206,Tryz.runUnderlying206,Tryz.sizeOf206,Tryz.isAgg206,Tryz.zeroValue206,Tryz.underlying0,Tryz.runUnderlying0,Tryz.sizeOf0,Tryz.isAgg0,Tryz.zeroValue0,Tryz.underlying3,Tryz.runUnderlying3,Tryz.sizeOf3,Tryz.isAgg3,Tryz.zeroValue3,Tryz.underlying4,Tryz.runUnderlying4,Tryz.sizeOf4,Tryz.isAgg4,Tryz.zeroValue4,Tryz.underlying9,Tryz.runUnderlying9,Tryz.sizeOf9,Tryz.isAgg9,Tryz.zeroValue9,Tryz.underlying20,Tryz.runUnderlying20,Tryz.sizeOf20,Tryz.isAgg20,Tryz.zeroValue20,Tryz.underlying21,Tryz.runUnderlying21,Tryz.sizeOf21,Tryz.isAgg21,Tryz.zeroValue21,(by decide+kernel),(by decide+kernel)⟩
end Go.Proofs
namespace Pal
open Go Go.Conc Go.Conc.Lib Go.Proofs Go.ConcR.Gen
theorem X9:BV Tryz.prog 77 (λ_=>do mark .disable;pure Extern.Race.none_):=O2 Tryz.Md
theorem Q6:BV Tryz.prog 78 (λ_=>do mark .enable;pure Extern.Race.none_):=Km Tryz.Md
theorem Ya:BV Tryz.prog 93 (Extern.Race.marked .acquire):=Ry Tryz.Md
theorem md:BV Tryz.prog 76 (Extern.Race.marked .releaseMerge):=T8 Tryz.Md
theorem QG:BV Tryz.prog 124 (Extern.Atomic.casT (.int .i32)):=⟨⟨_,Tryz.func124,by decide+kernel,V,by kernel_rfl,by kernel_rfl⟩⟩
theorem Ie:BV Tryz.prog 126 (Extern.Atomic.update (Op.intArith .add) .i32 true):=⟨⟨_,Tryz.func126,by decide+kernel,V,by kernel_rfl,by kernel_rfl⟩⟩
theorem kS:BV Tryz.prog 138 Extern.Sync.canSpin:=⟨⟨_,Tryz.func138,by decide+kernel,V,by kernel_rfl,by kernel_rfl⟩⟩
theorem NO:BV Tryz.prog 139 (λ_=>pure Extern.Sync.none_):=⟨⟨_,Tryz.func139,by decide+kernel,V,by kernel_rfl,by kernel_rfl⟩⟩
theorem S6:BV Tryz.prog 141 Extern.OsHooks.nano:=⟨⟨_,Tryz.func141,by decide+kernel,V,by kernel_rfl,by kernel_rfl⟩⟩
theorem Xc:BV Tryz.prog 142 Extern.Sync.semacquire:=⟨⟨_,Tryz.func142,by decide+kernel,V,by kernel_rfl,by kernel_rfl⟩⟩
theorem W6:BV Tryz.prog 144 Extern.Sync.semrelease:=⟨⟨_,Tryz.func144,by decide+kernel,V,by kernel_rfl,by kernel_rfl⟩⟩
def mN(sv aw:Bool)(m:M4):M4:=⟨m.l || !m.s,!aw&&m.k,m.s || (sv&&m.l),if m.l=true∨m.s=true then m.w+1 else m.w⟩
variable{F:Fam}{Q:GP}{b:Frame}{i n:Nat}{L:Env}{ds:Ld_}{k:Li_}{cs:Lf_}{s:St}{ops:Ao_}{rest:List Nat}{d:Option Tmp}{x:Operand}{ty:TypeId}{af:Ae_}{g:On_}
theorem JL.uA{J:Judge Tryz.prog}{p:String}(K:F2 b n L ops i=some ⟨d,.fieldAddr 105 x 0,ty,p,af,g⟩)(O:ev L x=some (.pointer (some F.uA)))(h:JL J Q b n (AA L d (.pointer (some F.uA))) ds (.inRegion ops rest::k) cs s):JL J Q b n L ds (.inRegion ops (i::rest)::k) cs s:=An K (λρ h=>Hk (a:=F.uA) 0 0 Tryz.underlying105 (A0 Tryz.type21) V V V (h _ _ O)) h
variable{P:Program}
theorem ku{J:Judge P}{c:Code}(h:∀K,K=k->JL J Q b n L ds (.code c::K) cs s):JL J Q b n L ds (.code c::k) cs s:=h _ V
theorem Yn{J:Judge P}(h:∀K,K=k->JL J Q b n L ds K cs s):JL J Q b n L ds k cs s:=h _ V
theorem Js:(Tryz.prog.funcs[125]?).any (·.norace)=true:=by rw[Tryz.func125];rfl
theorem kX:(Tryz.prog.funcs[92]?).any (·.norace)=true:=by rw[Tryz.func92];rfl
theorem lC:(Tryz.prog.funcs[127]?).any (·.norace)=true:=by rw[Tryz.func127];rfl
theorem Tp:(Tryz.prog.funcs[141]?).any (·.norace)=true:=by rw[Tryz.func141];rfl
theorem SG:(Tryz.prog.info? 105).map (λi=>decide (i.size=0))=some false:=(r5 (Option.map (λi=>decide (i.size=0))) Tryz.type105).trans V
abbrev HM:=Bool×Bool×Nat×M4×Int
def X4(a:HM):Prop:=(a.2.1=true->a.2.2.2.1.k=true)/\a.2.2.1<=4/\Dz a.2.2.2.1
def Tr(a:HM):LP:=.Cz a.1 a.2.1 a.2.2.1 a.2.2.2.1
variable{aw sv:Bool}{it q:Nat}{old:M4}
theorem gl(h:old.l=false/\old.s=false):(mN sv aw old,q,#[Fam.Cu F.uA,Fam.Fa F.uA],some LP.len)∈F.Ce (.Cz sv aw it old) old q:=by
 obtain⟨l,k,s,w⟩:=old;obtain⟨K,O⟩:=h;simp only at K O;subst K O;simp[Fam.Ce,Fam.Gd,mN]
theorem Vy(h:¬(old.l=false/\old.s=false))(x:LP)(K:x=.Jl sv∨x=.CL sv):(mN sv aw old,q,#[Fam.Cu F.uA,Fam.Fa F.uA],some x)∈F.Ce (.Cz sv aw it old) old q:=by
 obtain⟨l,k,s,w⟩:=old;show _∈F.Gd _ _ _ _ _ _;unfold Fam.Gd;rw[kO];right;rw[d6 rfl,d0 h];cases l<;>cases s<;>simp[mN] at h ⊢<;>rcases K with rfl | rfl<;>simp
variable{m:M4}
theorem cz(h:m≠old):(m,q,#[Fam.Cu F.uA],some (LP.ER sv aw it))∈F.Ce (.Cz sv aw it old) m q:=by
 show _∈F.Gd _ _ _ _ _ _;unfold Fam.Gd;rw[kO];right;rw[d0 h];exact bN.2 V
theorem fq(K:old.l=true/\old.s=false)(O:it<4)(U:old.k=false)(Y:old.w≠0):(({old with k:=true}:M4),q,#[Fam.Cu F.uA,Fam.Fa F.uA],some (LP.ER sv true (it+1)))∈F.Ce (.Cz sv false it old) old q:=by
 show _∈F.Gd _ _ _ _ _ _;unfold Fam.Gd;rw[kO];left;rw[d6 ⟨K.1,K.2,O⟩,d6 ⟨rfl,U,Y⟩,d6 rfl];exact bN.2 V
theorem eh(K:old.l=true/\old.s=false)(O:it<4)(U:old.k=false)(Y:old.w≠0)(hm:m≠old):(m,q,#[Fam.Cu F.uA],some (LP.ER sv false (it+1)))∈F.Ce (.Cz sv false it old) m q:=by
 show _∈F.Gd _ _ _ _ _ _;unfold Fam.Gd;rw[kO];left;rw[d6 ⟨K.1,K.2,O⟩,d6 ⟨rfl,U,Y⟩,d0 hm];exact bN.2 V
theorem Sk(K:old.l=true/\old.s=false)(O:it<4)(U:¬(aw=false/\old.k=false/\old.w≠0)):(m,q,#[],some (LP.Cz sv aw (it+1) m))∈F.Ce (.Cz sv aw it old) m q:=by
 show _∈F.Gd _ _ _ _ _ _;unfold Fam.Gd;rw[kO];left;rw[d6 ⟨K.1,K.2,O⟩,d0 U];exact bN.2 V
theorem HL(m:M4)(h:m.s=true):m={m with l:=m.l || !m.s}:=by
 obtain⟨l,k,s,w⟩:=m;simp only at h;subst h;simp
variable{ats:Array TypeId}{pp:String}{kk:Nat}
set_option maxHeartbeats 4000000 in
theorem aQ(ac:s.q=false)(c7:ops[i]?=some ⟨d,.call ⟨.value (.func 125),#[x],ats⟩,ty,pp,af,g⟩)(hw:A2 L ops ⟨d,.call ⟨.value (.func 125),#[x],ats⟩,ty,pp,af,g⟩=some true)(c8:((b.kind != .early)&&Bz n d)=true)(c9:ev L x=some (.pointer (some F.uA)))
  (h:JL (A9 Tryz.prog false) (Stop Tryz.prog F (.lk kk .Ge)) b n (AA L d (.tuple #[])) ds (.inRegion ops rest::k) cs s):
  JL (A9 Tryz.prog false) (Stop Tryz.prog F (.lk kk (.ER false false 0))) b n L ds (.inRegion ops (i::rest)::k) cs s:=by
 refine H3 (vs:=[.pointer (some F.uA)]) c7 hw c8 Tryz.func125 (by decide+kernel) V (by simp[evs,c9]) (rT V) λb6 back=>C 20 V (JL.uA V V ?_);refine H2 (kk:=kk) (p:=.ER false false 0) Ds.stop ac V V V V V HS Js V λca el b1=>⟨some (.Cz false false 0 ca),bN.2 V,?_⟩;refine C 3 V (ku λdd dj=>?_);have a1:∀X:Ph->GP,Ds Tryz.prog F X->(∀p g s,Stop Tryz.prog F p g s->X p g s)->∀L',look L' 0=some (.pointer (some F.uA))->JL (A9 Tryz.prog false) (X (.lk kk .len)) (base 125) Tryz.f125.ntmps L' [] dd (b6::cs) s:=by
  intro X O ay L' ea;rw[dj];refine EV (L':=[(0,.pointer (some F.uA))]) ⟨ea,trivial⟩ (C 3 V ?_);refine MV (kk:=kk) (p:=.len) O ac V (λ_ _=>V) V V V V (by simp) Q6 (C 3 V ?_);refine R1 (kk:=kk) (p:=.Mx) O ac V (λ_ _=>V) V V V V Tryz.underlying216 Tryz.underlying143 SG V (SQ (kk:=kk) (p:=.Lm) (ad:=F.uA) O ac V (λ_ _=>V) V V V V (by simp) Ya V V ?_);refine JL.done (JL.fin V V (BL.none Tryz.func125 V) (back _ _ _ _ ?_));exact Pg (λg s=>ay _ g s) h
 refine JL.block (Ja ?_);refine Fh [(0,.pointer (some F.uA)),(2,iV 0),(3,.bool false),(4,.bool false),(5,iV ((0:Nat):Int)),(6,.int .i32 (ca:M4).num)] V (Yn λcc a6=>?_);refine XH (P:=Tryz.prog) (F:=F) (s:=s) (kk:=kk) (ph:=Tr) (ok:=X4) (head:=λ(X:Ph->GP) (a:HM)=>JL (A9 Tryz.prog false) (X (.lk kk (Tr a))) (base 125) Tryz.f125.ntmps ([(0,.pointer (some F.uA)),(2,iV a.2.2.2.2),(3,.bool a.1),(4,.bool a.2.1),(5,iV (a.2.2.1:Int)),(6,.int .i32 (a.2.2.2.1:M4).num)]) [] cc (b6::cs) s) ?_ (false,false,0,ca,0) ⟨(λe=>by cases e),sC _,b1.2.2.1⟩;intro Y b2 em hC;have key:∀N (a:HM),4 - a.2.2.1<N->X4 a->(λ(X:Ph->GP) (a:HM)=>JL (A9 Tryz.prog false) (X (.lk kk (Tr a))) (base 125) Tryz.f125.ntmps ([(0,.pointer (some F.uA)),(2,iV a.2.2.2.2),(3,.bool a.1),(4,.bool a.2.1),(5,iV (a.2.2.1:Int)),(6,.int .i32 (a.2.2.2.1:M4).num)]) [] cc (b6::cs) s) Y a:=by
  intro N
  induction N with
  | zero=>intro a co;omega
  | succ N b3=>
   rintro⟨sv,aw,it,old,wt⟩ eb b1;simp only at eb;have ec:aw=true->old.k=true:=b1.1;have ce:Dz old:=b1.2.2;have a2:CB old:=ce.CB;show JL (A9 Tryz.prog false) (Y (.lk kk (.Cz sv aw it old))) (base 125) Tryz.f125.ntmps [(0,.pointer (some F.uA)),(2,iV wt),(3,.bool sv),(4,.bool aw),(5,iV (it:Int)),(6,.int .i32 (old:M4).num)] [] cc (b6::cs) s;rw[a6];refine C 2 V (Bx (λL s'=>s=s'/\L=[(0,.pointer (some F.uA)),(2,iV wt),(3,.bool sv),(4,.bool aw),(5,iV (it:Int)),(6,.int .i32 (old:M4).num)]) ?_ ?_)
   rotate_left
   .intro az;refine C 3 V (An (v:=Dh (BM old&&& 5)) V (λρ h=>Fc (c:=5) a2 (h _ _ V) (h _ _ V) (by decide)) ?_);refine C 2 V (NJ (q:=((BM old&&& 5:Nat):Int)=1) (i:=17) V (λcp=>?_) (λcp=>?_))
    .refine An (v:=iV (it:Int)) V (λρ h=>Yl.move (h _ _ V)) (JL.canSpin (it:=(it:Int)) ac V V V V kS V (λG7=>?_) ?_)
     .refine An (v:=.bool true) V (λρ h=>NK (h _ _ V) (h _ _ V)) ?_;have a3:=(mo old).1 cp;refine C 5 V ?_;have b4:it<4:=by omega
      refine C 1 V (An (v:=.bool (!aw)) V (λρ h=>Yl.not (h _ _ V)) ?_);refine C 1 V (LR (c:= !aw) (i:=23) V (λc1=>?_) (λc1=>?_))
      .refine An (v:=.int .i32 (old:M4).num) V (λρ h=>Yl.move (h _ _ V)) (An (v:=Dh (BM old&&& 2)) V (λρ h=>Fc (c:=2) a2 (h _ _ V) (h _ _ V) (by decide)) ?_);refine C 3 V (NJ (q:=((BM old&&& 2:Nat):Int)=0) (i:=28) V (λc2=>?_) (λc2=>?_))
       .refine An (v:=.int .i32 (old:M4).num) V (λρ h=>Yl.move (h _ _ V)) (An (v:=Dh old.w) V (λρ h=>JY a2 (h _ _ V) (h _ _ V)) ?_);refine C 3 V (NJ (q:=(old.w:Int)≠0) (i:=33) V (λc3=>?_) (λc3=>?_))
        .have ed:aw=false:=by simpa using c1
         subst ed;have ct:=(Ts old).1 c2;have cw:old.w≠0:=by omega
         refine C 2 V (JL.uA V V ?_);refine C 2 V (An (v:=.int .i32 ({old with k:=true}:M4).num) V (λρ h=>Qy (c:=2) a2 (by decide) (TV old) V (h _ _ V) (h _ _ V)) ?_);refine VF (kk:=kk) (p:=.Cz sv false it old) (old:=old) (nw:={old with k:=true}) b2 ac V V V V V QG V V V (λq a4=>⟨some (.ER sv true (it+1)),fq a3 b4 ct cw,?_⟩) (λm q hm a4=>⟨some (.ER sv false (it+1)),eh a3 b4 ct cw hm,?_⟩);refine An (v:=.bool true) V (λρ h=>NK (h _ _ V) (h _ _ V)) (C 7 V ?_);refine JL.ext (v:=.tuple #[]) V V V NO V V (C 4 V ?_);refine An (v:=iV ((it+1:Nat):Int)) V (λρ h=>DX (h _ _ V) (h _ _ V) (by unfold Au;rw[d6 (by omega)];congr 1)) (C 6 V ?_);refine JL.uA V V (H2 (kk:=kk) (p:=.ER sv true (it+1)) b2 ac V V V V V HS Js V λa7 cy bv=>⟨some (.Cz sv true (it+1) a7),bN.2 V,?_⟩);refine C 3 V (JL.again ?_);rw[← a6];exact Fh [(0,.pointer (some F.uA)),(2,iV wt),(3,.bool sv),(4,.bool true),(5,iV ((it+1:Nat):Int)),(6,.int .i32 (a7:M4).num)] V (b3 (sv,true,it+1,a7,wt) (by show 4 - (it+1)<N;omega) ⟨bv.2.2.2,(by show it+1<=4;omega),bv.2.2.1⟩);refine An (v:=.bool false) V (λρ h=>NK (h _ _ V) (h _ _ V)) (C 5 V ?_);refine JL.ext (v:=.tuple #[]) V V V NO V V (C 4 V ?_);refine An (v:=iV ((it+1:Nat):Int)) V (λρ h=>DX (h _ _ V) (h _ _ V) (by unfold Au;rw[d6 (by omega)];congr 1)) (C 6 V ?_);refine JL.uA V V (H2 (kk:=kk) (p:=.ER sv false (it+1)) b2 ac V V V V V HS Js V λa7 cy bv=>⟨some (.Cz sv false (it+1) a7),bN.2 V,?_⟩);refine C 3 V (JL.again ?_);rw[← a6];exact Fh [(0,.pointer (some F.uA)),(2,iV wt),(3,.bool sv),(4,.bool false),(5,iV ((it+1:Nat):Int)),(6,.int .i32 (a7:M4).num)] V (b3 (sv,false,it+1,a7,wt) (by show 4 - (it+1)<N;omega) ⟨bv.2.2.2,(by show it+1<=4;omega),bv.2.2.1⟩)
        .refine Jo V V V (C 12 V ?_);refine JL.ext (v:=.tuple #[]) V V V NO V V (C 4 V ?_);refine An (v:=iV ((it+1:Nat):Int)) V (λρ h=>DX (h _ _ V) (h _ _ V) (by unfold Au;rw[d6 (by omega)];congr 1)) (C 6 V ?_);refine JL.uA V V (H2 (kk:=kk) (p:=.Cz sv aw it old) b2 ac V V V V V HS Js V λm q a4=>⟨some (.Cz sv aw (it+1) m),Sk a3 b4 (λe=>c3 (by omega)),?_⟩);refine C 3 V (JL.again ?_);rw[← a6];exact Fh [(0,.pointer (some F.uA)),(2,iV wt),(3,.bool sv),(4,.bool aw),(5,iV ((it+1:Nat):Int)),(6,.int .i32 (m:M4).num)] V (b3 (sv,aw,it+1,m,wt) (by show 4 - (it+1)<N;omega) ⟨a4.2.2.2.2.2,(by show it+1<=4;omega),a4.2.2.2.2.1⟩)
       .refine Jo V V V (C 17 V ?_);refine JL.ext (v:=.tuple #[]) V V V NO V V (C 4 V ?_);refine An (v:=iV ((it+1:Nat):Int)) V (λρ h=>DX (h _ _ V) (h _ _ V) (by unfold Au;rw[d6 (by omega)];congr 1)) (C 6 V ?_);refine JL.uA V V (H2 (kk:=kk) (p:=.Cz sv aw it old) b2 ac V V V V V HS Js V λm q a4=>⟨some (.Cz sv aw (it+1) m),Sk a3 b4 (λe=>c2 ((Ts old).2 e.2.1)),?_⟩);refine C 3 V (JL.again ?_);rw[← a6];exact Fh [(0,.pointer (some F.uA)),(2,iV wt),(3,.bool sv),(4,.bool aw),(5,iV ((it+1:Nat):Int)),(6,.int .i32 (m:M4).num)] V (b3 (sv,aw,it+1,m,wt) (by show 4 - (it+1)<N;omega) ⟨a4.2.2.2.2.2,(by show it+1<=4;omega),a4.2.2.2.2.1⟩)
      .refine Jo V V V (C 22 V ?_);refine JL.ext (v:=.tuple #[]) V V V NO V V (C 4 V ?_);refine An (v:=iV ((it+1:Nat):Int)) V (λρ h=>DX (h _ _ V) (h _ _ V) (by unfold Au;rw[d6 (by omega)];congr 1)) (C 6 V ?_);refine JL.uA V V (H2 (kk:=kk) (p:=.Cz sv aw it old) b2 ac V V V V V HS Js V λm q a4=>⟨some (.Cz sv aw (it+1) m),Sk a3 b4 (λe=>by rw[e.1] at c1;cases c1),?_⟩);refine C 3 V (JL.again ?_);rw[← a6];exact Fh [(0,.pointer (some F.uA)),(2,iV wt),(3,.bool sv),(4,.bool aw),(5,iV ((it+1:Nat):Int)),(6,.int .i32 (m:M4).num)] V (b3 (sv,aw,it+1,m,wt) (by show 4 - (it+1)<N;omega) ⟨a4.2.2.2.2.2,(by show it+1<=4;omega),a4.2.2.2.2.1⟩)
     .refine An (v:=.bool false) V (λρ h=>NK (h _ _ V) (h _ _ V)) (C 3 V ?_);exact Az (az _ _ ⟨V,V⟩) V
    .refine Jo V V V (C 5 V ?_);exact Az (az _ _ ⟨V,V⟩) V
   rintro _ _ ⟨rfl,rfl⟩;refine C 6 V (Bx (λL s'=>s=s'/\L=[(0,.pointer (some F.uA)),(2,iV wt),(3,.bool sv),(4,.bool aw),(5,iV (it:Int)),(6,.int .i32 (old:M4).num),(7,.int .i32 ({old with l:=old.l || !old.s}:M4).num)]) ?_ ?_)
   rotate_left
   .intro az;refine C 3 V (An (v:=Dh (BM old&&& 4)) V (λρ h=>Fc (c:=4) a2 (h _ _ V) (h _ _ V) (by decide)) ?_);refine C 2 V (GX (p:=((BM old&&& 4:Nat):Int)=0) V (λc=>?_) (λc=>?_));refine JL.region (C 1 V ?_);refine An (v:=.int .i32 ({old with l:=true}:M4).num) V (λρ h=>Qy (c:=1) a2 (by decide) (mw old) V (h _ _ V) (h _ _ V)) (C 2 V ?_);refine EV ?_ (az _ _ ⟨V,V⟩);exact⟨V,V,V,V,V,V,r5 (λm:M4=>some (Value.int .i32 m.num)) (by rw[(IP old).1 c];simp),trivial⟩;refine JL.skip (EV ?_ (az _ _ ⟨V,V⟩));exact⟨V,V,V,V,V,V,r5 (λm:M4=>some (Value.int .i32 m.num)) ((uR old.s).elim (HL old) (λhh=>absurd ((IP old).2 hh) c)),trivial⟩
   rintro _ _ ⟨rfl,rfl⟩;have eo:CB {old with l:=old.l || !old.s}:=a2;refine JL.seq (Bx (λL s'=>s=s'/\L=[(0,.pointer (some F.uA)),(2,iV wt),(3,.bool sv),(4,.bool aw),(5,iV (it:Int)),(6,.int .i32 (old:M4).num),(7,.int .i32 ({old with l:=old.l || !old.s,w:=if old.l=true∨old.s=true then old.w+1 else old.w}:M4).num)]) ?_ ?_)
   rotate_left
   .intro az;refine C 3 V (An (v:=Dh (BM old&&& 5)) V (λρ h=>Fc (c:=5) a2 (h _ _ V) (h _ _ V) (by decide)) ?_);refine C 2 V (GX (p:=((BM old&&& 5:Nat):Int)≠0) V (λc=>?_) (λc=>?_));refine JL.region (C 1 V ?_);refine An (v:=.int .i32 ({old with l:=old.l || !old.s,w:=old.w+1}:M4).num) V (λρ h=>eE (m:={old with l:=old.l || !old.s}) ce (h _ _ V) (h _ _ V)) (C 2 V ?_);refine EV ?_ (az _ _ ⟨V,V⟩);exact⟨V,V,V,V,V,V,r5 (λm:M4=>some (Value.int .i32 m.num)) (by rw[d6 (by have:=λe=>c ((Oi old).2 e);cases ep:old.l<;>cases er:old.s<;>simp_all)]),trivial⟩;refine JL.skip (EV ?_ (az _ _ ⟨V,V⟩));exact⟨V,V,V,V,V,V,r5 (λm:M4=>some (Value.int .i32 m.num)) (by rw[d0 (by have:=(Oi old).1 (tB.1 c);rw[this.1,this.2];simp)]),trivial⟩
   rintro _ _ ⟨rfl,rfl⟩;have c0:CB ({old with l:=old.l || !old.s,w:=if old.l=true∨old.s=true then old.w+1 else old.w}:M4):=by unfold Dz at ce;unfold CB;simp only;split<;>omega
   refine JL.seq (Bx (λL s'=>s=s'/\L=[(0,.pointer (some F.uA)),(2,iV wt),(3,.bool sv),(4,.bool aw),(5,iV (it:Int)),(6,.int .i32 (old:M4).num),(7,.int .i32 ({old with l:=old.l || !old.s,s:=old.s || (sv&&old.l),w:=if old.l=true∨old.s=true then old.w+1 else old.w}:M4).num)]) ?_ ?_)
   rotate_left
   .intro az;refine C 4 V (LR (c:=sv) (i:=61) V (λc1=>?_) (λc1=>?_))
    .refine An (v:=.int .i32 (old:M4).num) V (λρ h=>Yl.move (h _ _ V)) (An (v:=Dh (BM old&&& 1)) V (λρ h=>Fc (c:=1) a2 (h _ _ V) (h _ _ V) (by decide)) ?_);refine C 3 V (GX (p:=((BM old&&& 1:Nat):Int)≠0) V (λc=>?_) (λc=>?_))
     .refine JL.region (C 1 V ?_);refine An (v:=.int .i32 ({old with s:=true,l:=old.l || !old.s,w:=if old.l=true∨old.s=true then old.w+1 else old.w}:M4).num) V (λρ h=>Qy (c:=4) (m:={old with l:=old.l || !old.s,w:=if old.l=true∨old.s=true then old.w+1 else old.w}) c0 (by decide) (mq _) V (h _ _ V) (h _ _ V)) ?_
      refine C 2 V (EV ?_ (az _ _ ⟨V,V⟩));exact⟨V,V,V,V,V,V,r5 (λm:M4=>some (Value.int .i32 m.num)) (by rcases uR old.l with hh | hh<;>first | exact absurd ((Tn old).2 hh) c | (rw[c1,hh];simp)),trivial⟩
     .refine JL.skip (EV ?_ (az _ _ ⟨V,V⟩));exact⟨V,V,V,V,V,V,r5 (λm:M4=>some (Value.int .i32 m.num)) (by have:=(Tn old).1 (tB.1 c);rw[this];simp),trivial⟩
    .refine Jo V V V (C 6 V ?_);refine EV ?_ (az _ _ ⟨V,V⟩);exact⟨V,V,V,V,V,V,r5 (λm:M4=>some (Value.int .i32 m.num)) (by rw[c1];simp),trivial⟩
   rintro _ _ ⟨rfl,rfl⟩;have c4:CB ({old with l:=old.l || !old.s,s:=old.s || (sv&&old.l),w:=if old.l=true∨old.s=true then old.w+1 else old.w}:M4):=c0
   refine JL.seq (Bx (λL s'=>s=s'/\L=[(0,.pointer (some F.uA)),(2,iV wt),(3,.bool sv),(4,.bool aw),(5,iV (it:Int)),(6,.int .i32 (old:M4).num),(7,.int .i32 (mN sv aw old:M4).num)]) ?_ ?_)
   rotate_left
   .intro az;refine C 4 V (Sc (t:=aw) V (λc=>?_) (λc=>?_))
    .have c5:old.k=true:=ec c;refine C 4 V ?_;refine An (v:=Dh (BM ({old with l:=old.l || !old.s,s:=old.s || (sv&&old.l),w:=if old.l=true∨old.s=true then old.w+1 else old.w}:M4)&&& 2)) V (λρ h=>Fc (c:=2) (m:={old with l:=old.l || !old.s,s:=old.s || (sv&&old.l),w:=if old.l=true∨old.s=true then old.w+1 else old.w}) c4 (h _ _ V) (h _ _ V) (by decide)) ?_
     refine An (v:=.bool false) V (λρ h=>Yl.to (Yl.eql (h _ _ V) (h _ _ V)) (by rw[sz (λe=>by have q:=(Ts _).1 e;simp only at q;rw[c5] at q;cases q)])) (C 5 V ?_);refine An (v:=.int .i32 ({old with k:=false,l:=old.l || !old.s,s:=old.s || (sv&&old.l),w:=if old.l=true∨old.s=true then old.w+1 else old.w}:M4).num) V (λρ h=>Yl.SF (m:={old with l:=old.l || !old.s,s:=old.s || (sv&&old.l),w:=if old.l=true∨old.s=true then old.w+1 else old.w}) c4 c5 (h _ _ V) (h _ _ V)) ?_
     refine C 2 V (EV ?_ (az _ _ ⟨V,V⟩));exact⟨V,V,V,V,V,V,r5 (λm:M4=>some (Value.int .i32 m.num)) (by simp[mN,c]),trivial⟩
    .refine JL.skip (EV ?_ (az _ _ ⟨V,V⟩));exact⟨V,V,V,V,V,V,r5 (λm:M4=>some (Value.int .i32 m.num)) (by simp[mN,c]),trivial⟩
   rintro _ _ ⟨rfl,rfl⟩;refine C 4 V (JL.uA V V ?_);refine C 2 V (λT ee=>(A9 Tryz.prog false).stop (hC (sv,aw,it,old,wt) _ b1 λX eu ef O ay b5=>?_));refine Sd (kk:=kk) (p:=.Cz sv aw it old) (old:=old) (nw:=mN sv aw old) ef ac V V V V V QG V V V (λq a4=>?_) (λm q hm a4=>⟨some (.ER sv aw it),cz hm,?_⟩) T ee
   .by_cases a3:old.l=false/\old.s=false;refine⟨some .len,gl a3,?_⟩;refine C 6 V (An (v:=Dh (BM old&&& 5)) V (λρ h=>Fc (c:=5) a2 (h _ _ V) (h _ _ V) (by decide)) ?_);refine An (v:=.bool true) V (λρ h=>Yl.to (Yl.eql (h _ _ V) (h _ _ V)) (by rw[sL ((Oi old).2 a3)])) (C 3 V ?_);exact a1 X O ay _ V
    .by_cases c6:wt=0
     .refine⟨some ((.Jl sv)),Vy a3 _ (.inl V),?_⟩;refine C 6 V (An (v:=Dh (BM old&&& 5)) V (λρ h=>Fc (c:=5) a2 (h _ _ V) (h _ _ V) (by decide)) ?_);refine An (v:=.bool false) V (λρ h=>Yl.to (Yl.eql (h _ _ V) (h _ _ V)) (by rw[sz (λe=>a3 ((Oi old).1 e))])) ?_;refine C 13 V (An (v:=.bool true) V (λρ h=>Yl.to (Yl.eql (h _ _ V) (h _ _ V)) (by rw[sL c6])) ?_);refine C 3 V (RJ (kk:=kk) (p:=.Jl sv) O ac V V V V V S6 Tp λm a5 v al=>⟨some (.CL sv),bN.2 V,?_⟩);refine C 6 V (An (v:=.pointer (some F.qA)) V (λρ h=>Hk (a:=F.uA) 0 1 Tryz.underlying105 OX V V V (h _ _ V)) ?_);refine C 1 V (UT (kk:=kk) (sv:=sv) O ac V V V V Xc V V ?_);refine JL.done ?_;cases sv
      .rw [d0 (by decide)];refine C 4 V (RJ (kk:=kk) (p:=.GH) O ac V V V V V S6 Tp λeg ej v2 ek=>⟨some (.Fi (decide (IntKind.i64.wrap (v2 - v)>1000000))),by (cases decide (IntKind.i64.wrap (v2 - v)>1000000)<;>simp[Fam.Ce]),?_⟩);refine C 1 V (An (v:=.int .i64 (IntKind.i64.wrap (v2 - v))) V (λρ h=>Yl.sub (h _ _ V) (h _ _ V)) ?_);refine C 4 V ?_;generalize decide (IntKind.i64.wrap (v2 - v)>1000000)=av;refine C 4 V (JL.uA V V ?_);refine H2 (kk:=kk) (p:=.Fi av) O ac V V V V V HS Js V ?_;intro m ci a0;have a8:Dz m:=a0.2.2;have am:CB m:=a8.CB;by_cases ag:m.s=true
       .refine⟨some (.EO (!av || m.w==1)),by simp[Fam.Ce,ag],?_⟩;refine C 2 V ?_;let⟨bw,bx,bz⟩:=a0.1 ag;refine C 4 V (An (v:=Dh (BM m&&& 4)) V (λρ h=>Fc (c:=4) am (h _ _ V) (h _ _ V) (by decide)) ?_);refine An (v:=.bool true) V (λρ h=>Yl.to (IE (h _ _ V) (h _ _ V)) (by have b0:(((BM m&&& 4:Nat):Int)≠0):=(λe=>by rw[(IP m).1 e] at ag;cases ag);rw[sL b0])) ?_;refine C 6 V (An (v:=Dh (BM m&&& 3)) V (λρ h=>Fc (c:=3) am (h _ _ V) (h _ _ V) (by decide)) ?_);refine An (v:=.bool false) V (λρ h=>Yl.to (IE (h _ _ V) (h _ _ V)) (by rw[(QH m).2 ⟨bw,bx⟩];rfl)) (C 2 V ?_);refine An (v:=Dh m.w) V (λρ h=>JY am (h _ _ V) (h _ _ V)) (An (v:=.bool false) V (λρ h=>Yl.to (Yl.eql (h _ _ V) (h _ _ V)) (by rw[sz (λe=>bz (by omega))])) ?_);refine C 12 V (An (v:=.bool (!av)) V (λρ h=>Yl.not (h _ _ V)) ?_);refine C 1 V (LR (c:= !av) (i:=119) V (λd1=>?_) (λd1=>?_))
        .refine Jo V V V (C 5 V ?_);have hex:(!av || m.w==1)=true:=by rw[d1];simp
         rw[hex];refine C 2 V (An (v:=.int .i32 (-11)) V (λρ h=>Yl.to (Yl.sub (h _ _ V) (h _ _ V)) V) ?_);refine C 6 V (JL.uA V V ?_);refine C 1 V (HZ (kk:=kk) (p:=.EO true) (dl:= -11) O ac V V V V V Ie V V λK a5 al=>⟨⟨true,K.k,false,K.w - 1⟩,some .len,?_,bN.2 V,?_⟩)
         .obtain⟨a9,bb,be,w3⟩:=K;obtain⟨U,g2,Z,ap,bi,aq⟩:=al;simp only at U g2 Z ap;subst U g2 Z;have bn:w3<134217728:=aq;have e:(⟨false,false,true,w3⟩:M4).num+(-11)=((8*(w3 - 1)+1:Nat):Int):=by simp only[M4.num,r8,rU];omega
          rw[e,Ga (by omega)];simp only[M4.num,r8,rU];omega
         exact C 2 V (a1 X O ay _ V)
        .refine An (v:=.int .i32 (m:M4).num) V (λρ h=>Yl.move (h _ _ V)) (An (v:=Dh m.w) V (λρ h=>JY am (h _ _ V) (h _ _ V)) ?_);refine C 3 V (GX (p:=(m.w:Int)=1) V (λd2=>?_) (λd2=>?_))
         .have hex:(!av || m.w==1)=true:=by rw[d1];simp;omega
          rw[hex];refine C 2 V (An (v:=.int .i32 (-11)) V (λρ h=>Yl.to (Yl.sub (h _ _ V) (h _ _ V)) V) ?_);refine C 6 V (JL.uA V V ?_);refine C 1 V (HZ (kk:=kk) (p:=.EO true) (dl:= -11) O ac V V V V V Ie V V λK a5 al=>⟨⟨true,K.k,false,K.w - 1⟩,some .len,?_,bN.2 V,?_⟩)
          .obtain⟨a9,bb,be,w3⟩:=K;obtain⟨U,g2,Z,ap,bi,aq⟩:=al;simp only at U g2 Z ap;subst U g2 Z;have bn:w3<134217728:=aq;have e:(⟨false,false,true,w3⟩:M4).num+(-11)=((8*(w3 - 1)+1:Nat):Int):=by simp only[M4.num,r8,rU];omega
           rw[e,Ga (by omega)];simp only[M4.num,r8,rU];omega
          exact C 2 V (a1 X O ay _ V)
         .have hex:(!av || m.w==1)=false:=by rw[d1];simp;omega
          rw[hex];refine C 5 V (JL.uA V V ?_);refine C 1 V (HZ (kk:=kk) (p:=.EO false) (dl:= -7) O ac V V V V V Ie V V λK a5 al=>⟨⟨true,K.k,true,K.w - 1⟩,some .len,?_,bN.2 V,?_⟩)
          .obtain⟨a9,bb,be,w3⟩:=K;obtain⟨U,g2,Z,ap,bi,aq⟩:=al;simp only at U g2 Z ap;subst U g2 Z;have bn:w3<134217728:=aq;have e:(⟨false,false,true,w3⟩:M4).num+(-7)=((8*(w3 - 1)+5:Nat):Int):=by simp only[M4.num,r8,rU];omega
           rw[e,Ga (by omega)];simp only[M4.num,r8,rU];omega
          exact C 2 V (a1 X O ay _ V)
       .refine⟨some (.Cz av true 0 m),by simp[Fam.Ce,ag],?_⟩;refine C 2 V ?_;have bo:m.s=false:=by simpa using ag
        refine C 4 V (An (v:=Dh (BM m&&& 4)) V (λρ h=>Fc (c:=4) am (h _ _ V) (h _ _ V) (by decide)) ?_);refine An (v:=.bool false) V (λρ h=>Yl.to (IE (h _ _ V) (h _ _ V)) (by rw[(IP m).2 bo];rfl)) (C 11 V ?_);refine JL.again ?_;rw[← a6];exact Fh [(0,.pointer (some F.uA)),(2,iV v),(3,.bool av),(4,.bool true),(5,iV ((0:Nat):Int)),(6,.int .i32 (m:M4).num)] V (b5 (av,true,0,m,v) ⟨λ_=>a0.2.1 bo,sC _,a8⟩)
      .rw [d6 rfl];refine C 15 V (JL.uA V V ?_);refine H2 (kk:=kk) (p:=.Fi true) O ac V V V V V HS Js V ?_;intro m ci a0;have a8:Dz m:=a0.2.2;have am:CB m:=a8.CB;by_cases ag:m.s=true
       .refine⟨some (.EO (!true || m.w==1)),by simp[Fam.Ce,ag],?_⟩;refine C 2 V ?_;let⟨bw,bx,bz⟩:=a0.1 ag;refine C 4 V (An (v:=Dh (BM m&&& 4)) V (λρ h=>Fc (c:=4) am (h _ _ V) (h _ _ V) (by decide)) ?_);refine An (v:=.bool true) V (λρ h=>Yl.to (IE (h _ _ V) (h _ _ V)) (by have b0:(((BM m&&& 4:Nat):Int)≠0):=(λe=>by rw[(IP m).1 e] at ag;cases ag);rw[sL b0])) ?_;refine C 6 V (An (v:=Dh (BM m&&& 3)) V (λρ h=>Fc (c:=3) am (h _ _ V) (h _ _ V) (by decide)) ?_);refine An (v:=.bool false) V (λρ h=>Yl.to (IE (h _ _ V) (h _ _ V)) (by rw[(QH m).2 ⟨bw,bx⟩];rfl)) (C 2 V ?_);refine An (v:=Dh m.w) V (λρ h=>JY am (h _ _ V) (h _ _ V)) (An (v:=.bool false) V (λρ h=>Yl.to (Yl.eql (h _ _ V) (h _ _ V)) (by rw[sz (λe=>bz (by omega))])) ?_);refine C 12 V (An (v:=.bool (!true)) V (λρ h=>Yl.not (h _ _ V)) ?_);refine C 1 V (LR (c:= !true) (i:=119) V (λd1=>?_) (λd1=>?_))
        .refine Jo V V V (C 5 V ?_);have hex:(!true || m.w==1)=true:=by rw[d1];simp
         rw[hex];refine C 2 V (An (v:=.int .i32 (-11)) V (λρ h=>Yl.to (Yl.sub (h _ _ V) (h _ _ V)) V) ?_);refine C 6 V (JL.uA V V ?_);refine C 1 V (HZ (kk:=kk) (p:=.EO true) (dl:= -11) O ac V V V V V Ie V V λK a5 al=>⟨⟨true,K.k,false,K.w - 1⟩,some .len,?_,bN.2 V,?_⟩)
         .obtain⟨a9,bb,be,w3⟩:=K;obtain⟨U,g2,Z,ap,bi,aq⟩:=al;simp only at U g2 Z ap;subst U g2 Z;have bn:w3<134217728:=aq;have e:(⟨false,false,true,w3⟩:M4).num+(-11)=((8*(w3 - 1)+1:Nat):Int):=by simp only[M4.num,r8,rU];omega
          rw[e,Ga (by omega)];simp only[M4.num,r8,rU];omega
         exact C 2 V (a1 X O ay _ V)
        .refine An (v:=.int .i32 (m:M4).num) V (λρ h=>Yl.move (h _ _ V)) (An (v:=Dh m.w) V (λρ h=>JY am (h _ _ V) (h _ _ V)) ?_);refine C 3 V (GX (p:=(m.w:Int)=1) V (λd2=>?_) (λd2=>?_))
         .have hex:(!true || m.w==1)=true:=by rw[d1];simp;omega
          rw[hex];refine C 2 V (An (v:=.int .i32 (-11)) V (λρ h=>Yl.to (Yl.sub (h _ _ V) (h _ _ V)) V) ?_);refine C 6 V (JL.uA V V ?_);refine C 1 V (HZ (kk:=kk) (p:=.EO true) (dl:= -11) O ac V V V V V Ie V V λK a5 al=>⟨⟨true,K.k,false,K.w - 1⟩,some .len,?_,bN.2 V,?_⟩)
          .obtain⟨a9,bb,be,w3⟩:=K;obtain⟨U,g2,Z,ap,bi,aq⟩:=al;simp only at U g2 Z ap;subst U g2 Z;have bn:w3<134217728:=aq;have e:(⟨false,false,true,w3⟩:M4).num+(-11)=((8*(w3 - 1)+1:Nat):Int):=by simp only[M4.num,r8,rU];omega
           rw[e,Ga (by omega)];simp only[M4.num,r8,rU];omega
          exact C 2 V (a1 X O ay _ V)
         .have hex:(!true || m.w==1)=false:=by rw[d1];simp;omega
          rw[hex];refine C 5 V (JL.uA V V ?_);refine C 1 V (HZ (kk:=kk) (p:=.EO false) (dl:= -7) O ac V V V V V Ie V V λK a5 al=>⟨⟨true,K.k,true,K.w - 1⟩,some .len,?_,bN.2 V,?_⟩)
          .obtain⟨a9,bb,be,w3⟩:=K;obtain⟨U,g2,Z,ap,bi,aq⟩:=al;simp only at U g2 Z ap;subst U g2 Z;have bn:w3<134217728:=aq;have e:(⟨false,false,true,w3⟩:M4).num+(-7)=((8*(w3 - 1)+5:Nat):Int):=by simp only[M4.num,r8,rU];omega
           rw[e,Ga (by omega)];simp only[M4.num,r8,rU];omega
          exact C 2 V (a1 X O ay _ V)
       .refine⟨some (.Cz true true 0 m),by simp[Fam.Ce,ag],?_⟩;refine C 2 V ?_;have bo:m.s=false:=by simpa using ag
        refine C 4 V (An (v:=Dh (BM m&&& 4)) V (λρ h=>Fc (c:=4) am (h _ _ V) (h _ _ V) (by decide)) ?_);refine An (v:=.bool false) V (λρ h=>Yl.to (IE (h _ _ V) (h _ _ V)) (by rw[(IP m).2 bo];rfl)) (C 11 V ?_);refine JL.again ?_;rw[← a6];exact Fh [(0,.pointer (some F.uA)),(2,iV v),(3,.bool true),(4,.bool true),(5,iV ((0:Nat):Int)),(6,.int .i32 (m:M4).num)] V (b5 (true,true,0,m,v) ⟨λ_=>a0.2.1 bo,sC _,a8⟩)
     .refine⟨some ((.CL sv)),Vy a3 _ (.inr V),?_⟩;refine C 6 V (An (v:=Dh (BM old&&& 5)) V (λρ h=>Fc (c:=5) a2 (h _ _ V) (h _ _ V) (by decide)) ?_);refine An (v:=.bool false) V (λρ h=>Yl.to (Yl.eql (h _ _ V) (h _ _ V)) (by rw[sz (λe=>a3 ((Oi old).1 e))])) ?_;refine C 13 V (An (v:=.bool false) V (λρ h=>Yl.to (Yl.eql (h _ _ V) (h _ _ V)) (by rw[sz c6])) ?_);refine C 7 V (An (v:=.pointer (some F.qA)) V (λρ h=>Hk (a:=F.uA) 0 1 Tryz.underlying105 OX V V V (h _ _ V)) ?_);refine C 1 V (UT (kk:=kk) (sv:=sv) O ac V V V V Xc V V ?_);refine JL.done ?_;cases sv
      .rw [d0 (by decide)];refine C 4 V (RJ (kk:=kk) (p:=.GH) O ac V V V V V S6 Tp λeg ej v2 ek=>⟨some (.Fi (decide (IntKind.i64.wrap (v2 - wt)>1000000))),by (cases decide (IntKind.i64.wrap (v2 - wt)>1000000)<;>simp[Fam.Ce]),?_⟩);refine C 1 V (An (v:=.int .i64 (IntKind.i64.wrap (v2 - wt))) V (λρ h=>Yl.sub (h _ _ V) (h _ _ V)) ?_);refine C 4 V ?_;generalize decide (IntKind.i64.wrap (v2 - wt)>1000000)=av;refine C 4 V (JL.uA V V ?_);refine H2 (kk:=kk) (p:=.Fi av) O ac V V V V V HS Js V ?_;intro m ci a0;have a8:Dz m:=a0.2.2;have am:CB m:=a8.CB;by_cases ag:m.s=true
       .refine⟨some (.EO (!av || m.w==1)),by simp[Fam.Ce,ag],?_⟩;refine C 2 V ?_;let⟨bw,bx,bz⟩:=a0.1 ag;refine C 4 V (An (v:=Dh (BM m&&& 4)) V (λρ h=>Fc (c:=4) am (h _ _ V) (h _ _ V) (by decide)) ?_);refine An (v:=.bool true) V (λρ h=>Yl.to (IE (h _ _ V) (h _ _ V)) (by have b0:(((BM m&&& 4:Nat):Int)≠0):=(λe=>by rw[(IP m).1 e] at ag;cases ag);rw[sL b0])) ?_;refine C 6 V (An (v:=Dh (BM m&&& 3)) V (λρ h=>Fc (c:=3) am (h _ _ V) (h _ _ V) (by decide)) ?_);refine An (v:=.bool false) V (λρ h=>Yl.to (IE (h _ _ V) (h _ _ V)) (by rw[(QH m).2 ⟨bw,bx⟩];rfl)) (C 2 V ?_);refine An (v:=Dh m.w) V (λρ h=>JY am (h _ _ V) (h _ _ V)) (An (v:=.bool false) V (λρ h=>Yl.to (Yl.eql (h _ _ V) (h _ _ V)) (by rw[sz (λe=>bz (by omega))])) ?_);refine C 12 V (An (v:=.bool (!av)) V (λρ h=>Yl.not (h _ _ V)) ?_);refine C 1 V (LR (c:= !av) (i:=119) V (λd1=>?_) (λd1=>?_))
        .refine Jo V V V (C 5 V ?_);have hex:(!av || m.w==1)=true:=by rw[d1];simp
         rw[hex];refine C 2 V (An (v:=.int .i32 (-11)) V (λρ h=>Yl.to (Yl.sub (h _ _ V) (h _ _ V)) V) ?_);refine C 6 V (JL.uA V V ?_);refine C 1 V (HZ (kk:=kk) (p:=.EO true) (dl:= -11) O ac V V V V V Ie V V λK a5 al=>⟨⟨true,K.k,false,K.w - 1⟩,some .len,?_,bN.2 V,?_⟩)
         .obtain⟨a9,bb,be,w3⟩:=K;obtain⟨U,g2,Z,ap,bi,aq⟩:=al;simp only at U g2 Z ap;subst U g2 Z;have bn:w3<134217728:=aq;have e:(⟨false,false,true,w3⟩:M4).num+(-11)=((8*(w3 - 1)+1:Nat):Int):=by simp only[M4.num,r8,rU];omega
          rw[e,Ga (by omega)];simp only[M4.num,r8,rU];omega
         exact C 2 V (a1 X O ay _ V)
        .refine An (v:=.int .i32 (m:M4).num) V (λρ h=>Yl.move (h _ _ V)) (An (v:=Dh m.w) V (λρ h=>JY am (h _ _ V) (h _ _ V)) ?_);refine C 3 V (GX (p:=(m.w:Int)=1) V (λd2=>?_) (λd2=>?_))
         .have hex:(!av || m.w==1)=true:=by rw[d1];simp;omega
          rw[hex];refine C 2 V (An (v:=.int .i32 (-11)) V (λρ h=>Yl.to (Yl.sub (h _ _ V) (h _ _ V)) V) ?_);refine C 6 V (JL.uA V V ?_);refine C 1 V (HZ (kk:=kk) (p:=.EO true) (dl:= -11) O ac V V V V V Ie V V λK a5 al=>⟨⟨true,K.k,false,K.w - 1⟩,some .len,?_,bN.2 V,?_⟩)
          .obtain⟨a9,bb,be,w3⟩:=K;obtain⟨U,g2,Z,ap,bi,aq⟩:=al;simp only at U g2 Z ap;subst U g2 Z;have bn:w3<134217728:=aq;have e:(⟨false,false,true,w3⟩:M4).num+(-11)=((8*(w3 - 1)+1:Nat):Int):=by simp only[M4.num,r8,rU];omega
           rw[e,Ga (by omega)];simp only[M4.num,r8,rU];omega
          exact C 2 V (a1 X O ay _ V)
         .have hex:(!av || m.w==1)=false:=by rw[d1];simp;omega
          rw[hex];refine C 5 V (JL.uA V V ?_);refine C 1 V (HZ (kk:=kk) (p:=.EO false) (dl:= -7) O ac V V V V V Ie V V λK a5 al=>⟨⟨true,K.k,true,K.w - 1⟩,some .len,?_,bN.2 V,?_⟩)
          .obtain⟨a9,bb,be,w3⟩:=K;obtain⟨U,g2,Z,ap,bi,aq⟩:=al;simp only at U g2 Z ap;subst U g2 Z;have bn:w3<134217728:=aq;have e:(⟨false,false,true,w3⟩:M4).num+(-7)=((8*(w3 - 1)+5:Nat):Int):=by simp only[M4.num,r8,rU];omega
           rw[e,Ga (by omega)];simp only[M4.num,r8,rU];omega
          exact C 2 V (a1 X O ay _ V)
       .refine⟨some (.Cz av true 0 m),by simp[Fam.Ce,ag],?_⟩;refine C 2 V ?_;have bo:m.s=false:=by simpa using ag
        refine C 4 V (An (v:=Dh (BM m&&& 4)) V (λρ h=>Fc (c:=4) am (h _ _ V) (h _ _ V) (by decide)) ?_);refine An (v:=.bool false) V (λρ h=>Yl.to (IE (h _ _ V) (h _ _ V)) (by rw[(IP m).2 bo];rfl)) (C 11 V ?_);refine JL.again ?_;rw[← a6];exact Fh [(0,.pointer (some F.uA)),(2,iV wt),(3,.bool av),(4,.bool true),(5,iV ((0:Nat):Int)),(6,.int .i32 (m:M4).num)] V (b5 (av,true,0,m,wt) ⟨λ_=>a0.2.1 bo,sC _,a8⟩)
      .rw [d6 rfl];refine C 15 V (JL.uA V V ?_);refine H2 (kk:=kk) (p:=.Fi true) O ac V V V V V HS Js V ?_;intro m ci a0;have a8:Dz m:=a0.2.2;have am:CB m:=a8.CB;by_cases ag:m.s=true
       .refine⟨some (.EO (!true || m.w==1)),by simp[Fam.Ce,ag],?_⟩;refine C 2 V ?_;let⟨bw,bx,bz⟩:=a0.1 ag;refine C 4 V (An (v:=Dh (BM m&&& 4)) V (λρ h=>Fc (c:=4) am (h _ _ V) (h _ _ V) (by decide)) ?_);refine An (v:=.bool true) V (λρ h=>Yl.to (IE (h _ _ V) (h _ _ V)) (by have b0:(((BM m&&& 4:Nat):Int)≠0):=(λe=>by rw[(IP m).1 e] at ag;cases ag);rw[sL b0])) ?_;refine C 6 V (An (v:=Dh (BM m&&& 3)) V (λρ h=>Fc (c:=3) am (h _ _ V) (h _ _ V) (by decide)) ?_);refine An (v:=.bool false) V (λρ h=>Yl.to (IE (h _ _ V) (h _ _ V)) (by rw[(QH m).2 ⟨bw,bx⟩];rfl)) (C 2 V ?_);refine An (v:=Dh m.w) V (λρ h=>JY am (h _ _ V) (h _ _ V)) (An (v:=.bool false) V (λρ h=>Yl.to (Yl.eql (h _ _ V) (h _ _ V)) (by rw[sz (λe=>bz (by omega))])) ?_);refine C 12 V (An (v:=.bool (!true)) V (λρ h=>Yl.not (h _ _ V)) ?_);refine C 1 V (LR (c:= !true) (i:=119) V (λd1=>?_) (λd1=>?_))
        .refine Jo V V V (C 5 V ?_);have hex:(!true || m.w==1)=true:=by rw[d1];simp
         rw[hex];refine C 2 V (An (v:=.int .i32 (-11)) V (λρ h=>Yl.to (Yl.sub (h _ _ V) (h _ _ V)) V) ?_);refine C 6 V (JL.uA V V ?_);refine C 1 V (HZ (kk:=kk) (p:=.EO true) (dl:= -11) O ac V V V V V Ie V V λK a5 al=>⟨⟨true,K.k,false,K.w - 1⟩,some .len,?_,bN.2 V,?_⟩)
         .obtain⟨a9,bb,be,w3⟩:=K;obtain⟨U,g2,Z,ap,bi,aq⟩:=al;simp only at U g2 Z ap;subst U g2 Z;have bn:w3<134217728:=aq;have e:(⟨false,false,true,w3⟩:M4).num+(-11)=((8*(w3 - 1)+1:Nat):Int):=by simp only[M4.num,r8,rU];omega
          rw[e,Ga (by omega)];simp only[M4.num,r8,rU];omega
         exact C 2 V (a1 X O ay _ V)
        .refine An (v:=.int .i32 (m:M4).num) V (λρ h=>Yl.move (h _ _ V)) (An (v:=Dh m.w) V (λρ h=>JY am (h _ _ V) (h _ _ V)) ?_);refine C 3 V (GX (p:=(m.w:Int)=1) V (λd2=>?_) (λd2=>?_))
         .have hex:(!true || m.w==1)=true:=by rw[d1];simp;omega
          rw[hex];refine C 2 V (An (v:=.int .i32 (-11)) V (λρ h=>Yl.to (Yl.sub (h _ _ V) (h _ _ V)) V) ?_);refine C 6 V (JL.uA V V ?_);refine C 1 V (HZ (kk:=kk) (p:=.EO true) (dl:= -11) O ac V V V V V Ie V V λK a5 al=>⟨⟨true,K.k,false,K.w - 1⟩,some .len,?_,bN.2 V,?_⟩)
          .obtain⟨a9,bb,be,w3⟩:=K;obtain⟨U,g2,Z,ap,bi,aq⟩:=al;simp only at U g2 Z ap;subst U g2 Z;have bn:w3<134217728:=aq;have e:(⟨false,false,true,w3⟩:M4).num+(-11)=((8*(w3 - 1)+1:Nat):Int):=by simp only[M4.num,r8,rU];omega
           rw[e,Ga (by omega)];simp only[M4.num,r8,rU];omega
          exact C 2 V (a1 X O ay _ V)
         .have hex:(!true || m.w==1)=false:=by rw[d1];simp;omega
          rw[hex];refine C 5 V (JL.uA V V ?_);refine C 1 V (HZ (kk:=kk) (p:=.EO false) (dl:= -7) O ac V V V V V Ie V V λK a5 al=>⟨⟨true,K.k,true,K.w - 1⟩,some .len,?_,bN.2 V,?_⟩)
          .obtain⟨a9,bb,be,w3⟩:=K;obtain⟨U,g2,Z,ap,bi,aq⟩:=al;simp only at U g2 Z ap;subst U g2 Z;have bn:w3<134217728:=aq;have e:(⟨false,false,true,w3⟩:M4).num+(-7)=((8*(w3 - 1)+5:Nat):Int):=by simp only[M4.num,r8,rU];omega
           rw[e,Ga (by omega)];simp only[M4.num,r8,rU];omega
          exact C 2 V (a1 X O ay _ V)
       .refine⟨some (.Cz true true 0 m),by simp[Fam.Ce,ag],?_⟩;refine C 2 V ?_;have bo:m.s=false:=by simpa using ag
        refine C 4 V (An (v:=Dh (BM m&&& 4)) V (λρ h=>Fc (c:=4) am (h _ _ V) (h _ _ V) (by decide)) ?_);refine An (v:=.bool false) V (λρ h=>Yl.to (IE (h _ _ V) (h _ _ V)) (by rw[(IP m).2 bo];rfl)) (C 11 V ?_);refine JL.again ?_;rw[← a6];exact Fh [(0,.pointer (some F.uA)),(2,iV wt),(3,.bool true),(4,.bool true),(5,iV ((0:Nat):Int)),(6,.int .i32 (m:M4).num)] V (b5 (true,true,0,m,wt) ⟨λ_=>a0.2.1 bo,sC _,a8⟩)
   .refine JL.done (C 4 V ?_);refine JL.uA V V (H2 (kk:=kk) (p:=.ER sv aw it) O ac V V V V V HS Js V λa7 cy bv=>⟨some (.Cz sv aw it a7),bN.2 V,?_⟩);refine C 3 V (JL.again ?_);rw[← a6];exact Fh [(0,.pointer (some F.uA)),(2,iV wt),(3,.bool sv),(4,.bool aw),(5,iV (it:Int)),(6,.int .i32 (a7:M4).num)] V (b5 (sv,aw,it,a7,wt) ⟨bv.2.2.2,b1.2.1,bv.2.2.1⟩)
 exact λa co=>key 5 a (by omega) co
set_option maxHeartbeats 4000000 in
theorem ZA(K:s.q=false)(O:ops[i]?=some ⟨d,.call ⟨.value (.func 91),#[x],ats⟩,ty,pp,af,g⟩)(hw:A2 L ops ⟨d,.call ⟨.value (.func 91),#[x],ats⟩,ty,pp,af,g⟩=some true)(U:((b.kind != .early)&&Bz n d)=true)(Y:ev L x=some (.pointer (some F.uA)))
  (h:JL (A9 Tryz.prog false) (Stop Tryz.prog F (.lk kk .Ge)) b n (AA L d (.tuple #[])) ds (.inRegion ops rest::k) cs s):
  JL (A9 Tryz.prog false) (Stop Tryz.prog F (.lk kk .GL)) b n L ds (.inRegion ops (i::rest)::k) cs s:=by
 refine H3 (vs:=[.pointer (some F.uA)]) O hw U Tryz.func91 (by decide+kernel) V (by simp[evs,Y]) (rT V) λac back=>C 2 V (MV (kk:=kk) (p:=.GL) Ds.stop K V (λ_ _=>V) V V V V (by simp) X9 ?_);refine C 6 V (JL.uA V V ?_);refine VF (kk:=kk) (p:=.H9) (old:=M4.zero) (nw:=⟨true,false,false,0⟩) Ds.stop K V V V V V QG V V V (λq Z=>⟨some .len,by simp[Fam.Ce],?_⟩) (λm q hm Z=>⟨some (.ER false false 0),by simp[Fam.Ce,hm],?_⟩);refine JL.done (C 5 V ?_);refine MV (kk:=kk) (p:=.len) Ds.stop K V (λ_ _=>V) V V V V (by simp) Q6 (C 3 V ?_);refine R1 (kk:=kk) (p:=.Mx) Ds.stop K V (λ_ _=>V) V V V V Tryz.underlying216 Tryz.underlying143 SG V (SQ (kk:=kk) (p:=.Lm) (ad:=F.uA) Ds.stop K V (λ_ _=>V) V V V V (by simp) Ya V V ?_);exact JL.done (JL.ret V V (BL.none Tryz.func91 V) (back _ _ _ _ h));refine JL.done (C 4 V ?_);refine aQ (kk:=kk) K V V V V (JL.done ?_);exact JL.fin V V (BL.none Tryz.func91 V) (back _ _ _ _ h)
set_option maxHeartbeats 4000000 in
theorem bg(K:s.q=false)(O:ops[i]?=some ⟨d,.call ⟨.value (.func 57),#[x],ats⟩,ty,pp,af,g⟩)(hw:A2 L ops ⟨d,.call ⟨.value (.func 57),#[x],ats⟩,ty,pp,af,g⟩=some true)(U:((b.kind != .early)&&Bz n d)=true)(Y:ev L x=some (.pointer (some F.uA)))
  (h:JL (A9 Tryz.prog false) (Stop Tryz.prog F (.lk kk .Ge)) b n (AA L d (.tuple #[])) ds (.inRegion ops rest::k) cs s):
  JL (A9 Tryz.prog false) (Stop Tryz.prog F (.lk kk .GL)) b n L ds (.inRegion ops (i::rest)::k) cs s:=by
 refine H3 (vs:=[.pointer (some F.uA)]) O hw U Tryz.func57 (by decide+kernel) V (by simp[evs,Y]) (rT V) λZ back=>C 3 V (An (v:=.pointer (some F.uA)) V (λρ h=>Hk (a:=F.uA) 1 0 Tryz.underlying107 (A0 Tryz.type105) V V V (h _ _ V)) ?_);refine ZA (kk:=kk) K V V V V (JL.done ?_);exact JL.fin V V (BL.none Tryz.func57 V) (back _ _ _ _ h)
def JK(m:M4):LP:=if m.l=false/\m.k=false/\m.s=false/\m.w≠0 then .Fz m else .FQ
def TH(m:M4):LP:=if m.s=true then .FP true else if m.k=false/\m.w≠0 then .Fz {m with l:=false} else .FQ
set_option maxHeartbeats 4000000 in
theorem ZS{Z:Operand}{nw:M4}(U:s.q=false)(a3:ops[i]?=some ⟨d,.call ⟨.value (.func 127),#[x,Z],ats⟩,ty,pp,af,g⟩)(hw:A2 L ops ⟨d,.call ⟨.value (.func 127),#[x,Z],ats⟩,ty,pp,af,g⟩=some true)(a4:((b.kind != .early)&&Bz n d)=true)(a5:ev L x=some (.pointer (some F.uA)))(a6:ev L Z=some (.int .i32 nw.num))(al:nw.l=false)(a7:Dz nw)(ac:CB nw)
  (h:JL (A9 Tryz.prog false) (Stop Tryz.prog F (.lk kk .FQ)) b n (AA L d (.tuple #[])) ds (.inRegion ops rest::k) cs s):
  JL (A9 Tryz.prog false) (Stop Tryz.prog F (.lk kk (if nw.s=true then .FP true else if nw.k=false/\nw.w≠0 then .Fz nw else .FQ))) b n L ds (.inRegion ops (i::rest)::k) cs s:=by
 refine H3 (vs:=[.pointer (some F.uA),.int .i32 nw.num]) a3 hw a4 Tryz.func127 (by decide+kernel) V (by simp[evs,a5,a6]) (rT V) λam back=>C 4 V (An (v:=.int .i32 ({nw with l:=true}:M4).num) V (λρ h=>gG ac al (h _ _ V) (h _ _ V)) ?_);refine An (v:=Dh (BM ({nw with l:=true}:M4)&&& 1)) V (λρ h=>Fc (c:=1) (m:={nw with l:=true}) ac (h _ _ V) (h _ _ V) (by decide)) (An (v:=.bool false) V (λρ h=>Yl.to (Yl.eql (h _ _ V) (h _ _ V)) (by rw[sz (λe=>by have q:=(Tn _).1 e;cases q)])) ?_);refine C 6 V (An (v:=Dh (BM nw&&& 4)) V (λρ h=>Fc (c:=4) ac (h _ _ V) (h _ _ V) (by decide)) ?_);refine C 2 V (GX (p:=((BM nw&&& 4:Nat):Int)=0) V (λc=>?_) (λc=>?_))
 .have ap:=(IP nw).1 c;rw[d0 (by rw[ap];exact tI)];refine C 6 V ?_;refine Ja ?_;refine Fh [(0,.pointer (some F.uA)),(4,.int .i32 nw.num)] V ?_;refine Yn λaq av=>?_;have a8:(if nw.k=false/\nw.w≠0 then LP.Fz nw else .FQ)=JK nw:=by unfold JK;rw[al,ap];simp
  rw[a8];refine XH (P:=Tryz.prog) (F:=F) (s:=s) (kk:=kk) (ph:=λm=>LP.Fz m) (ok:=Dz) (head:=λ(X:Ph->GP) (a:M4)=>JL (A9 Tryz.prog false) (X (.lk kk (JK a))) (base 127) Tryz.f127.ntmps ([(0,.pointer (some F.uA)),(4,.int .i32 (a:M4).num)]) [] aq (am::cs) s) ?_ nw a7;intro Y bx aw hC old ay;have K:CB old:=ay.CB;show JL (A9 Tryz.prog false) (Y (.lk kk (JK old))) (base 127) Tryz.f127.ntmps [(0,.pointer (some F.uA)),(4,.int .i32 old.num)] [] aq (am::cs) s;rw[av];refine C 5 V (An (v:=Dh old.w) V (λρ h=>JY K (h _ _ V) (h _ _ V)) ?_);refine C 2 V (NJ (q:=(old.w:Int)=0) (i:=17) V (λc2=>?_) (λc2=>?_))
  .have O:JK old=.FQ:=by unfold JK;rw[d0 (λe=>e.2.2.2 (by omega))]
   refine C 6 V ?_;rw[O];exact JL.ret V V (BL.none Tryz.func127 V) (back _ _ _ _ (Pg (λg s=>aw _ g s) h))
  .refine An (v:=.int .i32 (old:M4).num) V (λρ h=>Yl.move (h _ _ V)) (An (v:=Dh (BM old&&& 7)) V (λρ h=>Fc (c:=7) K (h _ _ V) (h _ _ V) (by decide)) ?_);refine C 3 V (GX (p:=((BM old&&& 7:Nat):Int)≠0) V (λc3=>?_) (λc3=>?_))
   .have O:JK old=.FQ:=by unfold JK;rw[d0 (λe=>c3 ((Yi old).2 ⟨e.1,e.2.1,e.2.2.1⟩))]
    rw[O];exact JL.ret V V (BL.none Tryz.func127 V) (back _ _ _ _ (Pg (λg s=>aw _ g s) h))
   .have a9:=(Yi old).1 (tB.1 c3);obtain⟨l0,bz,b0,w0⟩:=old;obtain⟨z1,az,a0⟩:=a9;simp only at z1 az a0 c2;subst z1 az a0;have a1:w0≠0:=by omega
    have O:JK ⟨false,false,false,w0⟩=.Fz ⟨false,false,false,w0⟩:=by unfold JK;rw[d6 ⟨rfl,rfl,rfl,a1⟩]
    rw[O];refine C 4 V (An (v:=.int .i32 (⟨false,false,false,w0 - 1⟩:M4).num) V (λρ h=>fY (m:=⟨false,false,false,w0⟩) K a1 (h _ _ V) (h _ _ V)) ?_);refine An (v:=.int .i32 (⟨false,true,false,w0 - 1⟩:M4).num) V (λρ h=>Qy (c:=2) (m:=⟨false,false,false,w0 - 1⟩) (by unfold CB at K ⊢;simp only at K ⊢;omega) (by decide) (TV _) V (h _ _ V) (h _ _ V)) (C 7 V ?_);refine JL.uA V V (C 2 V ?_);refine λT bb=>(A9 Tryz.prog false).stop (hC ⟨false,false,false,w0⟩ _ ay λX b1 be a2 bi bn=>?_);refine Sd (kk:=kk) (p:=.Fz ⟨false,false,false,w0⟩) (old:=⟨false,false,false,w0⟩) (nw:=⟨false,true,false,w0 - 1⟩) be U V V V V V QG V V V (λq bo=>⟨some (.FP false),by simp[Fam.Ce],?_⟩) (λm q hm bo=>⟨some .Ik,by simp[Fam.Ce,hm],?_⟩) T bb;refine JL.done (C 5 V ?_);refine An (v:=.pointer (some F.qA)) V (λρ h=>Hk (a:=F.uA) 0 1 Tryz.underlying105 OX V V V (h _ _ V)) (U0 (kk:=kk) (st:=false) a2 U V V V V W6 V V ?_);exact JL.done (JL.ret V V (BL.none Tryz.func127 V) (back _ _ _ _ (Pg (λg s=>bi _ g s) h)));refine JL.done (C 5 V ?_);refine JL.uA V V (H2 (kk:=kk) (p:=.Ik) a2 U V V V V V HS lC V λag b2 bv=>⟨some (JK ag),bN.2 V,?_⟩);refine C 3 V (JL.again ?_);rw[← av];exact Fh [(0,.pointer (some F.uA)),(4,.int .i32 ag.num)] V (bn ag bv)
 .have bw:nw.s=true:=by rcases uR nw.s with hh | hh;exact hh;exact absurd ((IP nw).2 hh) c
  rw[d6 bw];refine C 3 V (An (v:=.pointer (some F.qA)) V (λρ h=>Hk (a:=F.uA) 0 1 Tryz.underlying105 OX V V V (h _ _ V)) ?_);refine U0 (kk:=kk) (st:=true) Ds.stop U V V V V W6 V V (JL.done ?_);exact JL.fin V V (BL.none Tryz.func127 V) (back _ _ _ _ h)
set_option maxHeartbeats 4000000 in
theorem Za(K:s.q=false)(al:ops[i]?=some ⟨d,.call ⟨.value (.func 92),#[x],ats⟩,ty,pp,af,g⟩)(hw:A2 L ops ⟨d,.call ⟨.value (.func 92),#[x],ats⟩,ty,pp,af,g⟩=some true)(am:((b.kind != .early)&&Bz n d)=true)(ap:ev L x=some (.pointer (some F.uA)))
  (h:JL (A9 Tryz.prog false) (Stop Tryz.prog F .I1) b n (AA L d (.tuple #[])) ds (.inRegion ops rest::k) cs s):
  JL (A9 Tryz.prog false) (Stop Tryz.prog F (.lk kk .Hs)) b n L ds (.inRegion ops (i::rest)::k) cs s:=by
 refine H3 (vs:=[.pointer (some F.uA)]) al hw am Tryz.func92 (by decide+kernel) V (by simp[evs,ap]) (rT V) λa0 back=>C 6 V (JL.uA V V ?_);refine H2 (kk:=kk) (p:=.Hs) Ds.stop K V V V V V HS kX V λa1 a2 a3=>⟨some .Lu,bN.2 V,?_⟩;refine C 4 V (R1 (kk:=kk) (p:=.Lu) Ds.stop K V (λ_ _=>V) V V V V Tryz.underlying216 Tryz.underlying143 SG V ?_);refine SQ (kk:=kk) (p:=.Ls) (ad:=F.uA) Ds.stop K V (λ_ _=>V) V V V V (by simp) md V V (C 2 V ?_);refine MV (kk:=kk) (p:=.Lp) Ds.stop K V (λ_ _=>V) V V V V (by simp) X9 (C 5 V ?_);refine JL.uA V V (HZ (kk:=kk) (p:=.IS) (dl:= -1) Ds.stop K V V V V V Ie V V λm q Y=>⟨{m with l:=false},some (TH m),?_,bN.2 V,?_⟩)
 .obtain⟨aq,O,U,w3⟩:=m;obtain⟨Z,av⟩:=Y;simp only at Z;subst Z;have a4:w3<134217728:=av;have a5:=uk O;have a6:=uk U;have e:(⟨true,O,U,w3⟩:M4).num+(-1)=((2*O.toNat+4*U.toNat+8*w3:Nat):Int):=by simp only[M4.num,r8];omega
  rw[e,Ga (by omega)];simp only[M4.num,rU];omega
 .have ac:Dz m:=Y.2;have aw:CB ({m with l:=false}:M4):=(show Dz ({m with l:=false}:M4) from ac).CB;refine C 8 V ?_;refine GX (p:=({m with l:=false}:M4).num≠0) V (λc=>?_) (λc=>?_);refine JL.region (C 2 V ?_);refine ZS (kk:=kk) (nw:={m with l:=false}) K V V V V V V ac aw (C 2 V ?_);refine MV (kk:=kk) (p:=.FQ) Ds.stop K V (λ_ _=>V) V V V V (by simp) Q6 (JL.done ?_);exact JL.fin V V (BL.none Tryz.func92 V) (back _ _ _ _ h)
  .have ay:({m with l:=false}:M4).num=0:=tB.1 c;have ag:m.k=false/\m.s=false/\m.w=0:=by
    obtain⟨aq,O,U,w3⟩:=m;cases O<;>cases U<;>simp[M4.num] at ay ⊢<;>omega
   have az:TH m=.FQ:=by unfold TH;rw[d0 (by rw[ag.2.1];exact tI),d0 (λe=>e.2 ag.2.2)]
   rw[az];refine C 2 V (MV (kk:=kk) (p:=.FQ) Ds.stop K V (λ_ _=>V) V V V V (by simp) Q6 ?_);exact JL.done (JL.fin V V (BL.none Tryz.func92 V) (back _ _ _ _ h))
theorem JO.gJ{M:Env}(K:b.roundOf=none)(O:s.q=false)(h:JO (A9 Tryz.prog false) (Stop Tryz.prog F .I1) b n M ds cs s):
  JO (A9 Tryz.prog false) (Stop Tryz.prog F (.lk kk .Hs)) b n M (dcall 58 #[.pointer (some F.uA)]::ds) cs s:=by
 refine JO.enter (vs:=[.pointer (some F.uA)]) K Tryz.func58 (by decide+kernel) V (rT V) λT U todo=>C 3 V (An (v:=.pointer (some F.uA)) V (λρ h=>Hk (a:=F.uA) 1 0 Tryz.underlying107 (A0 Tryz.type105) V V V (h _ _ V)) ?_);refine Za (kk:=kk) O V V V V (JL.done ?_);exact JL.out V (JO.leaveD V Tryz.func58 V (.inl V) (h T U todo))
end Pal
namespace Pal
open Go Go.Conc
open Go.ConcN (upd)
variable {ops:Ao_}{i:Nat}{rest:List Nat}{d:Option Tmp}{f:FuncId}{z:Operand}{ats:Array TypeId}{ty t u tw:TypeId}{pp:String}{af:Ae_}{g:On_}{kk:Nat}
variable{w:World}
section
variable {P:Program}{F:Fam}{n:Nat}{L L':Env}{ds:Ld_}{k:Li_}{cs:Lf_}{s s':St}{b:Frame}
variable {x y:Operand}
theorem Zm{m:Nat}(h:BB P t=some m)(w:World):(Go.sizeOf t).run P w=.ok m w:=by
 unfold BB at h;simp only[Go.sizeOf,typeInfo,bind,Sem.bind,program,Sem.run];cases hi:P.info? t with
 | none=>rw[hi] at h;cases h
 | some j=>rw[hi] at h;simp at h;subst h;rfl
theorem gv{K:Nat->Value}(h:F.FD w K)(O:kk<F.n):w.cell? ⟨F.fd,kk,none⟩=some (K kk)/\w.frozen? ⟨F.fd,kk,none⟩=false:=by
 unfold Fam.FD Fam.JD at h;constructor;simp[World.cell?,h,O];simp[World.frozen?,h]
theorem ZT{O:Nat->Value}{v:Value}(h:F.FD w O)(ac:kk<F.n):w.setCell ⟨F.fd,kk,none⟩ v=F.Ii w (upd O kk v):=by
 unfold Fam.Ii World.setCell;congr 1;apply sK;intro i;unfold Fam.FD Fam.JD at h;rw[tu];have U:F.fd<w.heap.size:=by
  rcases jH F.fd w.heap.size with K | K;exact K;simp[rZ K] at h
 by_cases e:F.fd=i;subst e;rw[rR U,h];simp only[sO,sU,Fam.JD,sQ,Obj.cells.injEq,v5];apply Array.ext;simp;intro j ag Y;by_cases e2:kk=j;subst e2;simp[upd];have Z:¬j=kk:=λe=>e2 e.symm;simp[upd,Z];rw[Array.getElem_setIfInBounds (by simpa using Y),d0 e2];simp;rw[mt e,d0 e]
theorem ZC{X:Ph->GP}(av:Ds P F X){a:Option Addr}{l c:Nat}(aw:s.q=false)(Y:kk<F.n)
  (ay:ops[i]?=some ⟨d,.store t x y,ty,pp,af,g⟩) (Z:b.roundOf=none) (hw:A2 L ops ⟨d,.store t x y,ty,pp,af,g⟩=some true) (U:((b.kind != .early)&&Bz n d)=true)
  (az:BB P t=some 1) (a0:(P.funcs[b.fn]?).any (·.norace)=false) (a1:ev L x=some (.pointer (some ⟨F.fd,kk,none⟩))) (a2:ev L y=some (.slice a l c)) (hm:F.msg kk (.slice a l c) s.E)
  (h:JL (A9 P false) (X (.lk kk .Hs)) b n (AA L d undef) ds (.inRegion ops rest::k) cs s):
  JL (A9 P false) (X (.lk kk .Ge)) b n L ds (.inRegion ops (i::rest)::k) cs s:=λT K=>by
 simp only[f5] at U
 refine(A9 P _).stop (av _ _ _ {
  run:=rfl,offers:=rfl,quiet:=(by simp[Fam.Dd]),live:=λ_=>aw,act:=(by simp[Fam.act]),J8:=(by simp),FU:=(by simp),go:=(by simp),lk:=λk' l e a3=>by cases e;exact absurd rfl a3
  CL:=(by simp),store:=λk' e=>?_,fin:=(by simp)})
 cases e
 refine⟨_,hm,G (fr b (C6 T d undef) ds (.inRegion ops rest::k)) cs,rfl,λw a4 ac=>?_,h _ (K.put U.2 _)⟩
 let⟨c1,c2⟩:=gv ac Y
 have ag:execOp (⟨T,ds⟩:Act).eval ⟨d,.store t x y,ty,pp,af,g⟩=(do Instr.storeAt t (.pointer (some ⟨F.fd,kk,none⟩)) (.slice a l c);pure Next.skip):=by
  rw[ML];simp only[execOp,K.ev a1,K.ev a2]
 have al:(Value.slice a l c).cells=#[.slice a l c]:=rfl;have am:(Value.slice a l c).oneCell'=true:=rfl;have ap:(Addr.add ⟨F.fd,kk,none⟩ 0)=⟨F.fd,kk,none⟩:=by rw[Et rfl];rfl
 have aq:=Zm (P:=P) az w;have O:=run_store P w ⟨F.fd,kk,none⟩ (.slice a l c) .plain am;rw[c1] at O;simp only[c2,rY,sI] at O;rw[B2 Z,B2 Z,stepG_none (a:=⟨T,ds⟩) (w':=F.Ii w (upd a4 kk (.slice a l c))) ay (Cn K hw) (by simpa using U.1) (by
  rw[ag]
  simp[Instr.storeAt,Instr.sureAddr,storeVar,al,aq,storeCells,ap,O,ZT ac Y,Result.andThen]),EL]
 have e2:listed P b.fn ⟨T,ds⟩ ⟨d,.store t x y,ty,pp,af,g⟩ w=#[⟨.cell ⟨F.fd,kk,none⟩,true,false⟩]:=by
  unfold listed;rw[ag];have a5:=events_store (P:=P) (w:=w) (es:=#[]) ⟨F.fd,kk,none⟩ (.slice a l c) .plain am;have a6:(do Instr.storeAt t (.pointer (some ⟨F.fd,kk,none⟩)) (.slice a l c);pure Next.skip:Sem Next).events P w #[]=#[⟨.cell ⟨F.fd,kk,none⟩,true,false⟩]:=by
   simp[Instr.storeAt,Instr.sureAddr,storeVar,al,aq,storeCells,ap,O,c1,c2,a5,Result.evThen]
  rw[a6,seen_def];simp[seenStep,a0]
 rw[e2]
end
end Pal
namespace Pal
open Go Go.Conc Go.Proofs
open Go.Proofs.Tryz
open Go.Conc.Lib Go.ConcR.Gen
theorem kZ:(Tryz.prog.funcs[53]?).any (·.norace)=false:=by rw[func53];rfl
def J7(fu_:Nat)(K:Bh)(p:AH)(j:Nat):Option (List Int):=
 (f120 fu_ K).bind λO=>
 (f119 fu_ ([O]:List (List (AT))) ((j:Nat):Int) p ([]:List ((Nat×Bs)×Bool))).bind λU=>
 some U.1
variable{F:Fam}{Z ac al am c2 fu_ j kf:Nat}{a1 ap:As}{p:AH}{O:Bh}
set_option maxHeartbeats 1000000 in
theorem iA{E:LH}{aq:As}{av op ag oi off:Nat}(a3:At E ac op [.slice ap p.length Z])(a4:Ao AF E ap Z p)(a5:At E ag al [sV a1 O.1 c2,sV aq O.2 av])(a6:Ao (rL rI) E a1 c2 O.1)(a7:Ao AF E aq av O.2)(hi:At E am oi [iV ((j:Nat):Int)])(a8:At E kf off [.slice (some ⟨F.fd,0,none⟩) F.n F.n]){r:List Int}(az:J7 fu_ O p j=some r)(a0:j<F.n)(a9:∀E' a c,Le E E'->Ao rI E' a c r->(r=[]->a=none)->F.msg j (.slice a r.length c) E'):
  Way Tryz.prog false (Stop Tryz.prog F (F.start j)) (born Tryz.prog ⟨.fn (.func 53) [.pointer (some F.sA),Ar ac op,Ar ag al,Ar am oi,.pointer (some F.uA),Ar kf off].toArray,#[]⟩) ⟨E,λ_=>none,false⟩:=by
 refine de (fn:=Tryz.f53) (vs:=[.pointer (some F.sA),Ar ac op,Ar ag al,Ar am oi,.pointer (some F.uA),Ar kf off]) func53 (by decide+kernel) V (by simp) (rT V) ?_;obtain⟨H,bb⟩:∃H:LH,H=λ_=>none:=⟨_,V⟩;rw[← bb];have be:Av E H []:=trivial;refine(?_:JL (A9 Tryz.prog false) (Stop Tryz.prog F (.lk j .GL)) (baseD 53) Tryz.f53.ntmps (GY 0 [.pointer (some F.sA),Ar ac op,Ar ag al,Ar am oi,.pointer (some F.uA),Ar kf off]) [] [.code _] [Na Tryz.prog] (Ak E H []));unfold J7 at az;refine C 2 V (JL.defer (vs:=[.pointer (some F.sA)]) V V V V V ?_);refine C 3 V (CH 0 a3 BE V V V ?_);refine JS.makeMap V V V be λr1 bi=>An (v:=.agg #[sV ap p Z,.map (some r1)]) V (λρ h=>C4 [(0,1),(1,1)] h (Dw type118) underlying118 ⟨V,A0 type74,V,A0 type116,trivial⟩ V V) (JS.box (v:=.agg #[sV ap p Z,.map (some r1)]) V V V bi V λct bn=>?_);refine C 3 V (Db 1 bn V λcw K bo bv=>?_);refine Fu 5 λaw=>DW 0 aw V V (Kv 1 aw (a5.M K) FV DR V V V ?_);refine DC 4 aw 0 (hi.M K) Bb V V V V ?_;let⟨a2,bw,bx⟩:=bs az;refine JG.call (i:=2) (vs:=[.agg #[sV a1 O.1 c2,sV aq O.2 av]]) (jY (a6.M K) (a7.M K) bw) (by decide+kernel) V V V (A4 func56 V) V bv ?_;rintro _ cy _ U ⟨bz,b0,rfl,rfl,b1⟩ b2;refine JG.one (i:=3) V (by decide+kernel) (Take.FO (pp:=(rL (rM rI false rI false))) [sV bz a2 b0] ([a2]:List (List AT)) b2 V V V underlying123 KW OP (by decide) V V V ⟨⟨_,_,V,b1⟩,trivial⟩ λc0 c1 b3 b4=>?_);refine De [5,6] (Ck 3 b3 b4 V λc3 Y b5 b6=>?_);let⟨ca,cc,ce⟩:=bs bx;refine Cg 0 (jr b5 (bo.M (U.Ad Y)) (a4.M ((K.Ad U).Ad Y)) B3.nil cc) V V (A4 func55 V) b6 V ?_;rintro _ c4 _ ay ⟨c5,c6,c7,rfl,rfl,ci,co,c8⟩ c9;refine C 3 V ?_;have cp:r=ca.1:=(f6 ce).symm;subst cp;refine JL.region (bg (kk:=j) V V V V V ?_);refine C 3 V (JL.defer (vs:=[.pointer (some F.uA)]) V V V V V ?_);refine C 2 V (CH 0 (a8.M (((K.Ad U).Ad Y).Ad ay)) FX V V V ?_);refine CH 0 (hi.M (((K.Ad U).Ad Y).Ad ay)) Bb V V V (C 1 V ?_);refine An (v:=Ar F.fd j) V (λρ h=>Yl.to (EW (xs:=List.replicate F.n ()) (m:=((j:Nat):Int)) (xv:=()) (uv) (by simp[ix,a0]) underlying25 ET (h _ _ V) (h _ _ V)) (by show Ar F.fd (j*1)=_;rw[Nat.mul_one])) (ZC (kk:=j) Ds.stop V a0 V V V V ET kZ V V (a9 _ _ _ (((K.Ad U).Ad Y).Ad ay) ci co) ?_);exact JL.done (JL.out V (JO.gJ (kk:=j) V V (JO.lA Tryz.Md V V (JO.leaveD V func53 V (.inr V) ZF))))
variable{c:Nat}
theorem OL.kl{e:TypeId}{E:LH}{r:Nat}{seg:Seg}{xs:Lv_}(h:OL e rV E (Bd r) c seg xs)(Y:c=xs.length):seg=[(r,.cells xs.toArray e (0,0))]:=by
 obtain⟨wss,ag,K,Z⟩:=h;rcases ag with⟨al,_⟩ | ⟨bk,f,am,e2,ac,ap,O⟩;cases al
 cases am;have hw:wss=xs.map λx=>[x]:=by
  apply s9;intro i;rw[sk];cases U:xs[i]? with
  | none=>rw[sd (by rw[K];exact List.getElem?_eq_none_iff.1 U)];rfl
  | some x=>
   have hi:i<wss.length:=by rw[K];exact(d7.1 U).1
   have:=(Z i x wss[i] U (cT hi)).1;rw[cT hi,this];rfl
 have aq:wss.flatten=xs:=by
  rw[hw];clear hw O Z K ac ap Y
  induction xs with
  | nil=>rfl
  | cons x xs av=>simp[av]
 rw[aq] at O;have ay:rV.n=1:=V;have aw:f.toList=xs:=by
  rw[O];rw[s4 (by rw[vn,ac,Y];exact rJ _)]
 rw[e2,← aw]
noncomputable def Mi:Code:=match(Tryz.f24.body).bind (Kz 0) with | some (.loop c)=>c | _=>.skip
noncomputable def Yy:Code:=match(Tryz.f24.body).bind (Kz 2) with | some (.loop c)=>c | _=>.skip
variable{n:Nat}{xs:Nat->List Int}{H:LH}{k:Li_}{cs:Lf_}
set_option maxHeartbeats 1000000 in
theorem fK(aw:F.n=n)(bx:0<n)(bz:n<=1000){E:LH}{al:As}{aq:Nat}(ay:Ao AF E ap am p)(az:Ao (rL rI) E a1 c2 O.1)(a0:Ao AF E al aq O.2)(hlen:p.length=n){Y:Nat}(a2:At E Y 0 [.slice ap p.length am])(a3:At E Z 0 [sV a1 O.1 c2,sV al O.2 aq])(a4:At E kf 0 [.slice (some ⟨F.fd,0,none⟩) F.n F.n])(a5:∀j,j<n->J7 fu_ O p j=some (xs j))(a6:∀j,j<n->∀E' a c,Ao rI E' a c (xs j)->(xs j=[]->a=none)->F.msg j (.slice a (xs j).length c) E')(ac:j<n){ag:LH}(hle:Le E ag)(a7:Av ag H [])
  (h:∀U,Le E U->Av U H []->JL (A9 Tryz.prog true) (Stop Tryz.prog F (F.Fp j)) (base 24) Tryz.f24.ntmps [(2,Ar Z 0),(3,Ar Y 0),(6,.pointer (some F.uA)),(7,.pointer (some F.sA)),(8,Ar kf 0),(19,iV (p.length:Int)),(20,iV ((j+1:Nat):Int))] [] (.inLoop Mi::k) cs (Ak U H [])):
  JL (A9 Tryz.prog true) (Stop Tryz.prog F (.GZ j)) (base 24) Tryz.f24.ntmps [(2,Ar Z 0),(3,Ar Y 0),(6,.pointer (some F.uA)),(7,.pointer (some F.sA)),(8,Ar kf 0),(19,iV (p.length:Int)),(20,iV ((j:Nat):Int))] [] (.code Mi:: .inLoop Mi::k) cs (Ak ag H []):=by
 refine C 2 V (An (v:=.bool true) V (λρ h=>Yl.to (Yl.lss (h _ _ V) (h _ _ V)) (by rw[sL (show((j:Nat):Int)<(p.length:Int) by omega)])) ?_);refine C 9 V (B5 a7 CR λrn a8=>?_);refine JS.sx 0 a8 AK λa9=>?_;refine Db 0 a9 V λU bb be bi=>Jb (S':=[]) (by simp) bi λbn=>?_;have K:=hle.trans bb;refine C 3 V (bU Tryz.Md V V V V V V ?_);refine C 2 V (An (v:=.func (.func 53) #[] ([.pointer (some F.sA),Ar Y 0,Ar Z 0,Ar rn 0,.pointer (some F.uA),Ar kf 0]:Lv_).toArray) V (λρ h=>MM (by simp) (by simp[h (.tmp 7) _ rfl,h (.tmp 3) _ rfl,h (.tmp 2) _ rfl,h (.tmp 9) _ rfl,h (.tmp 6) _ rfl,h (.tmp 8) _ rfl])) ?_);have av:=iA (F:=F) (j:=j) (a2.M K) (ay.M K) (a3.M K) (az.M K) (a0.M K) be (a4.M K) (a5 j ac) (by rw[aw];exact ac) (λE' a c _ bo bv=>a6 j ac E' a c bo bv);refine j5 (fi:=#[]) V V V V V V V (by first | exact av | (simp only[List.append_toArray,sP,uJ,Array.empty_append];exact av)) ?_
 refine C 3 V ?_;have bw:Au (((j:Nat):Int)+1)=some (((j+1:Nat)):Int):=by unfold Au;rw[d6 (by omega)];simp
 refine Bt bw V V V (C 2 V ?_);exact Az (h U K bn) V
theorem Z5(Y:F.n=n)(aw:0<n)(ay:n<=1000){E:LH}{ag:As}(az:Ao AF E ap al p)(a0:Ao (rL rI) E a1 c2 O.1)(a2:Ao AF E ag am O.2)(hlen:p.length=n)(a3:At E Z 0 [.slice ap p.length al])(a4:At E ac 0 [sV a1 O.1 c2,sV ag O.2 am])(a5:At E kf 0 [.slice (some ⟨F.fd,0,none⟩) F.n F.n])(a6:∀j,j<n->J7 fu_ O p j=some (xs j))(a7:∀j,j<n->∀E' a c,Ao rI E' a c (xs j)->(xs j=[]->a=none)->F.msg j (.slice a (xs j).length c) E')
  (h:∀K,Le E K->Av K H []->JL (A9 Tryz.prog true) (Stop Tryz.prog F .DZ) (base 24) Tryz.f24.ntmps [(2,Ar ac 0),(3,Ar Z 0),(6,.pointer (some F.uA)),(7,.pointer (some F.sA)),(8,Ar kf 0),(19,iV (p.length:Int)),(20,iV (p.length:Int))] [] (.code Mi:: .inLoop Mi::k) cs (Ak K H [])):
  ∀(m j:Nat),j+m=n->0<m->∀U,Le E U->Av U H []->JL (A9 Tryz.prog true) (Stop Tryz.prog F (.GZ j)) (base 24) Tryz.f24.ntmps [(2,Ar ac 0),(3,Ar Z 0),(6,.pointer (some F.uA)),(7,.pointer (some F.sA)),(8,Ar kf 0),(19,iV (p.length:Int)),(20,iV ((j:Nat):Int))] [] (.code Mi:: .inLoop Mi::k) cs (Ak U H []):=by
 intro m
 induction m with
 | zero=>intro j _ a8;cases a8
 | succ m a9=>
  intro j bi _ U hle bb;refine fK Y aw ay az a0 a2 hlen a3 a4 a5 a6 a7 (by omega) hle bb λK aq av=>JL.again ?_;by_cases hm:m=0
  .subst hm;have be:j+1=F.n:=by rw[Y];omega
   have e:F.Fp j=.DZ:=by unfold Fam.Fp;rw[d6 be]
   rw[e];have e2:((j+1:Nat):Int)=(p.length:Int):=by rw[hlen];omega
   rw[e2];exact h K aq av
  .have e:F.Fp j=.GZ (j+1):=by unfold Fam.Fp;rw[d0 (by rw[Y];omega)]
   rw[e];exact a9 (j+1) (by omega) (by omega) K aq av
def KC(fu_:Nat)(K:Bh)(p:AH)(j:Nat):List Int:=(J7 fu_ K p j).getD []
def M3(n:Nat)(xs:Nat->List Int):(List Int)×Bool:=match(List.range n).find? (λj=> !(xs j).isEmpty) with | some j=>(xs j,true) | none=>([],false)
def f77(fu_:Nat)(K:Bh)(p:AH):Option ((List Int)×Bool):=if p.length=0 then some ([],true) else if p.length<=1000/\(List.range p.length).all (λj=>(J7 fu_ K p j).isSome)=true then some (M3 p.length (KC fu_ K p)) else none
theorem bl{i:Nat}(hi:i<n)(K:xs i≠ [])(O:∀k,k<i->xs k=[]):M3 n xs=(xs i,true):=by
 unfold M3;have:(List.range n).find? (λj=> !(xs j).isEmpty)=some i:=by
  rw[sZ];refine⟨by simp[K],by simpa using hi,λj U=>by simp[O j U]⟩
 rw[this]
theorem bE(K:∀k,k<n->xs k=[]):M3 n xs=([],false):=by
 unfold M3;have:(List.range n).find? (λj=> !(xs j).isEmpty)=none:=by
  rw[t7];intro j O;simp[K j (rH.1 O)]
 rw[this]
theorem dY{E:LH}{a:As}{xs:List Int}(h:Ao rI E a c xs)(K:xs≠ []):a.isNone=false:=by
 rcases h.2 with⟨e,_⟩ | ⟨bk,off,e,_⟩;exact absurd e K;rw[e];rfl
set_option maxHeartbeats 1000000 in
theorem iD{J:Judge Tryz.prog}{Q:Gs_}{Y:Frame}{fd:Nat}{f:Nat->Value}(ay:n<=1000){E:LH}(ag:Av E H [[(fd,.cells (Array.ofFn λi:Fin n=>f i) 22 (0,0))]])(hm:∀k,k<n->∃a c,f k=.slice a (xs k).length c/\Ao rI E a c (xs k)/\(xs k=[]->a=none))
  (al:∀i a c L',i<n->xs i≠ []->(∀k,k<i->xs k=[])->Ao rI E a c (xs i)->look L' 4=some (.slice a (xs i).length c)->look L' 5=some (.bool true)->∀k',JL J Q (base 24) Tryz.f24.ntmps L' [] (.code .ret::k') (Y::cs) (Ak E H [[(fd,.cells (Array.ofFn λi:Fin n=>f i) 22 (0,0))]]))
  (am:(∀k,k<n->xs k=[])->JL J Q (base 24) Tryz.f24.ntmps [] [] k (Y::cs) (Ak E H [[(fd,.cells (Array.ofFn λi:Fin n=>f i) 22 (0,0))]])):
  ∀m i,i+m=n->(∀k,k<i->xs k=[])->JL J Q (base 24) Tryz.f24.ntmps [(27,.slice (Bd fd) n n),(28,iV (n:Int)),(29,iV (i:Int))] [] (.code Yy:: .inLoop Yy:: .inBlock 2::k) (Y::cs) (Ak E H [[(fd,.cells (Array.ofFn λi:Fin n=>f i) 22 (0,0))]]):=by
 intro m
 induction m with
 | zero=>
  intro i hi K;refine C 2 V (An (v:=.bool false) V (λρ h=>Yl.to (Yl.lss (h _ _ V) (h _ _ V)) (by rw[sz (show ¬((i:Int)<(n:Int)) by omega)])) ?_);refine C 4 V (Fh [] V ?_);exact am λk az=>K k (by omega)
 | succ m ap=>
  intro i hi K;have O:i<n:=by omega
  let⟨a,c,aq,ac,av⟩:=hm i O;refine C 2 V (An (v:=.bool true) V (λρ h=>Yl.to (Yl.lss (h _ _ V) (h _ _ V)) (by rw[sL (show(i:Int)<(n:Int) by omega)])) ?_);refine C 8 V (An (v:=Ar fd i) V (λρ h=>Yl.to (EW (xs:=List.replicate n ()) (m:=((i:Nat):Int)) (xv:=()) (uv) (by simp[ix,O]) underlying25 ET (h _ _ V) (h _ _ V)) (by show Ar fd (i*1)=_;rw[Nat.mul_one])) ?_);refine An (v:=.slice a (xs i).length c) V (λρ h=>Yl.load He (h _ _ V) (B8 (j:=0) (off:=i) ag V (by simp[O,aq]))) (C 5 V ?_);refine An (v:=.bool (!a.isNone)) V (λρ h=>bf underlying22 (h _ _ V) (h _ _ V)) (JL.done ?_);by_cases U:xs i=[]
  .have Z:(!a.isNone)=false:=by rw[av U];rfl
   rw[Z];refine C 4 V ?_;have aw:Au (((i:Nat):Int)+1)=some (((i+1:Nat)):Int):=by unfold Au;rw[d6 (by omega)];simp
   refine Bt aw V V V ?_;refine C 2 V ?_;refine JL.again ?_;refine EV ?_ (ap (i+1) (by omega) (λk a0=>by
    by_cases e:k=i;subst e;exact U
    .exact K k (by omega)))
   exact⟨V,V,V,trivial⟩
  .have Z:(!a.isNone)=true:=by rw[dY ac U];rfl
   rw[Z];exact C 7 V (al i a c _ O U K ac V V _)
set_option maxHeartbeats 2000000 in
theorem Ye{E:LH}{a8:As}{a9 bb:Nat}(cc:Ao (rL rI) E a1 c2 O.1)(ce:Ao AF E a8 a9 O.2)(ci:Ao AF E ap bb p){r:(List Int)×Bool}(U:f77 fu_ O p=some r):
  AZ (Hi Tryz.prog) 24 [.agg #[sV a1 O.1 c2,sV a8 O.2 a9],sV ap p bb] E [] (λw E' B'=>∃(be:As) (bi:Nat),w=.tuple #[sV be r.1 bi,.bool r.2]/\B'=[]/\Ao rI E' be bi r.1):=by
 refine MZ func24 V V λQ ex cs H co Y=>?_;unfold f77 at U;refine C 2 V (DD co λcp ey ct cw cy=>?_);refine DD cy λc0 eA bn am c1=>?_;refine Jb (S':=[]) (by simp) c1 λbo=>?_;have bv:=ct.Ad bn;refine C 6 V (CH 0 am BE V V V ?_);refine JL.ln underlying74 V V V (C 2 V ?_);refine GX (p:=(p.length:Int)=0) V (λc3=>?_) (λc3=>?_);rw[d6 (by omega)] at U;have Z:=(f6 U).symm;subst Z;refine C 5 V (AW func24 V V ?_);exact Y _ _ _ _ bv V ⟨none,0,V,V,Ao.nil⟩ bo
 rw[d0 (by omega)] at U;split at U
 rotate_left
 .cases U
 rename_i hb;obtain⟨bw,c4⟩:=hb;have Z:=(f6 U).symm;have ag:∀j,j<p.length->J7 fu_ O p j=some (KC fu_ O p j):=λj az=>by
  have aq:=lH.1 c4 j (rH.2 az);let⟨x,a0⟩:=uH.1 aq;unfold KC;rw[a0];rfl
 generalize eC:KC fu_ O p=xs at ag Z;have bx:0<p.length:=by omega
 refine C 3 V (B5 bo (Dw type107) λmu c5=>?_);refine C 3 V (B5 c5 (Dw type113) λwg c6=>?_);refine JL.done (Jb (S':=[[(mu,.cells #[.int .i32 0,.int .u32 0] 107 (0,0))],[(wg,.cells #[.int .u64 0,.int .u32 0] 113 (0,0))]]) (by simp[Value.cells]) c6 λc7=>?_);refine C 2 V (CH 0 am BE V V V ?_);refine JL.ln underlying74 V V V ?_;have c8:IN (p.length:Int) (Value.slice none 0 0)=some (List.replicate p.length nS):=by unfold IN;rw[d6 (by omega)];simp
 refine JS.make (pp:=rV) c8 V V V V V underlying25 ET (Dc type22) (by decide) KV (by decide) ⟨V,V⟩ c7 λfd eN c9 bz=>?_;have dd:=OL.kl c9 V;subst dd;obtain⟨K,b0⟩:∃K,K=List.replicate p.length (Value.slice none 0 0):=⟨_,V⟩;have b1:(List.replicate p.length (Value.slice none 0 0)).length=p.length:=by simp
 rw[← b0] at bz b1 ⊢;rw[b1];refine B5 bz (Dw type25) λkf dj=>?_;refine JS.sx 3 dj FI λea=>?_;refine Db 3 ea V λac av b2 eb=>Jb (S':=[[(mu,.cells #[.int .i32 0,.int .u32 0] 107 (0,0))],[(wg,.cells #[.int .u64 0,.int .u32 0] 113 (0,0))],[(fd,.cells K.toArray 22 (0,0))]]) (by simp) eb λal=>?_;have aw:=bv.Ad av;refine C 4 V (CH 0 (am.M av) BE V V V ?_);refine JL.ln underlying74 V V V (C 3 V ?_);refine Ja (Fh [(2,Ar cp 0),(3,Ar c0 0),(6,.pointer (some (⟨mu,0,none⟩:Addr))),(7,.pointer (some (⟨wg,0,none⟩:Addr))),(8,Ar kf 0),(19,iV (p.length:Int)),(20,iV ((0:Nat):Int))] V ?_);have b3:=Nd.iff.1 al;intro T ec;let F:Fam:=⟨wg,mu,fd,113,107,22,p.length,λkk v E=>kk<p.length/\∃a c,v=.slice a (xs kk).length c/\Ao rI E a c (xs kk)/\(xs kk=[]->a=none),λg s=>(Hi Tryz.prog).ok Q g s⟩;have ay:=b3.1;simp only[su,vI,r9,tl,sP,sN,wb,un,iC,rO,not_or,sX,not_false_eq_true,v5,vr] at ay;have ed:(Ak ac H [[(mu,.cells #[.int .i32 0,.int .u32 0] 107 (0,0))],[(wg,.cells #[.int .u64 0,.int .u32 0] 113 (0,0))],[(fd,.cells K.toArray 22 (0,0))]]).H fd=some (F.JD λ_=>nS):=by
  rw[Lj (j:=2) al rfl];have:(Array.ofFn λ_:Fin p.length=>Value.slice none 0 0)=K.toArray:=by
   rw[b0];apply Array.ext;simp;intro i aq b4;simp
  show some (Obj.cells K.toArray 22 (0,0))=some (Obj.cells (Array.ofFn λ_:Fin p.length=>Value.slice none 0 0) 22 (0,0));rw[this]
 refine fJ F (f₀:=λ_=>.slice none 0 0) (show 1<=p.length by omega) (show p.length<134217728 by omega) ?_ ay.1.1 (λe=>ay.2 e.symm) (λe=>ay.1.2 e.symm) (Lj (j:=1) al V) (Lj (j:=0) al V) ed ?_ (λg s h=>h);rintro kk v e0 e1 ee ⟨aq,a,c,b4,a2,a3⟩;exact⟨aq,a,c,b4,a2.M ee,a3⟩
 have ef:=ZG al;show Way Tryz.prog true (Stop Tryz.prog F (.GZ 0)) _ (⟨(Ak ac H [[(mu,.cells #[.int .i32 0,.int .u32 0] 107 (0,0))],[(wg,.cells #[.int .u64 0,.int .u32 0] 113 (0,0))],[(fd,.cells K.toArray 22 (0,0))]]).E,K5 (Ak ac H [[(mu,.cells #[.int .i32 0,.int .u32 0] 107 (0,0))],[(wg,.cells #[.int .u64 0,.int .u32 0] 113 (0,0))],[(fd,.cells K.toArray 22 (0,0))]]).H wg mu fd,false⟩:St);rw[show(Ak ac H [[(mu,.cells #[.int .i32 0,.int .u32 0] 107 (0,0))],[(wg,.cells #[.int .u64 0,.int .u32 0] 113 (0,0))],[(fd,.cells K.toArray 22 (0,0))]]).E=ac from rfl,ef];have eg:Av ac H []:=trivial;have ej:H fd=none:=(b3.2 (fd,.cells K.toArray 22 (0,0)) (by simp)).2;refine Z5 (F:=F) (n:=p.length) V bx bw (ci.M aw) (cc.M aw) (ce.M aw) V (am.M av) (cw.M (bn.Ad av)) b2 ag (λj az E' a c ek el=>⟨az,a,c,V,ek,el⟩) (λem b5 e3=>?_) p.length 0 (by omega) bx ac AS eg T ec;refine C 2 V ?_;refine An (v:=.bool false) V (λρ h=>Yl.to (Yl.lss (h _ _ V) (h _ _ V)) (by rw[sz (show ¬((p.length:Int)<(p.length:Int)) by omega)])) ?_;refine C 6 V ?_;refine JL.wait Tryz.Md (F:=F) (show p.length<2147483648 by omega) V V V V V (Q:=Q) (λg s h=>h) λa4 f b6 eo e4 ep=>?_;have a5:Av a4 H [[(fd,F.JD f)]]:=Nd.iff.2 ⟨by simp,λq ag=>by
  simp at ag;subst ag;exact⟨eo,ej⟩⟩
 have es:(⟨a4,F.K9 (Ak em H []).H f,false⟩:St)=Ak a4 H [[(fd,F.JD f)]]:=by
  unfold Ak mk;congr 1
 rw[es];have ca:=(aw.Ad b5).Ad b6;refine C 4 V (CH 0 (b2.M (b5.Ad b6)) FX V V V ?_);refine JL.ln underlying25 V V V (C 3 V ?_);refine Ja (Fh [(27,.slice (Bd fd) p.length p.length),(28,iV (p.length:Int)),(29,iV ((0:Nat):Int))] V ?_);refine iD (n:=p.length) (f:=f) (xs:=xs) bw a5 (λk Y=>?_) (λi a c L' hi a0 a6 er a2 a3 k'=>?_) (λa6=>?_) p.length 0 (by omega) (λk Y=>absurd Y (Nat.not_lt_zero _));let⟨_,a,c,eu,e2,ew⟩:=ep k Y;exact⟨a,c,eu,e2,ew⟩;rw[bl hi a0 a6] at Z;subst Z;exact JL.ret (v:=.tuple #[.slice a (xs i).length c,.bool true]) V V (BL.list func24 V (vs:=[.slice a (xs i).length c,.bool true]) ⟨a2,a3,trivial⟩) (Ur a5 λa7=>Y _ _ _ _ ca V ⟨a,c,V,V,er⟩ a7);rw[bE a6] at Z;subst Z;refine C 5 V (AW func24 V V ?_);exact Ur a5 λa7=>Y _ _ _ _ ca V ⟨none,0,V,V,Ao.nil⟩ a7
end Pal
namespace Pal
open Go Go.Conc Go.Proofs
open Go.Proofs.Tryz
def QC(fu_:Nat)(Z:Bh×Int)(O:AQ)(K:Int):Option (Bm Int ((AH×(List Int)×Int)⊕(Unit))):=if K<(O.length:Int) then((ix O K).bind λU=>(f77 fu_ Z.1 U).bind λY=>if Y.2=true then(some (.done (Sum.inl (U,Y.1,0)))) else((Au (K+1)).bind λac=>some (.more ac))) else(some (.done (Sum.inr ())))
def f27(fu_:Nat)(p0:Bh):Option (AH×(List Int)×Int):=(f70 fu_ p0 ([])).bind λK=>if K.2≠0 then(some ([],[],K.2)) else((f71 fu_ K.1 0).bind λO=>(f76 fu_ O).bind λU=>Option.bind (iter (QC fu_ K U) fu_ 0) λY=>Sum.elim (λr=>some r) (λZ=>some ([],[],11)) Y)
variable{a1:As}{c2 fu_:Nat}
theorem X7{E:LH}{al:As}{am:Nat}{p0:Bh}(ce:Ao (rL rI) E a1 c2 p0.1)(ci:Ao AF E al am p0.2){r:AH×(List Int)×Int}(a8:f27 fu_ p0=some r):AZ (Hi Tryz.prog) 10 [.agg #[sV a1 p0.1 c2,sV al p0.2 am]] E [] (λw E' B'=>∃(a9:As) (bb:Nat) (be:As) (bi:Nat),w=.tuple #[sV a9 r.1 bb,sV be r.2.1 bi,iV r.2.2]/\B'=[]/\Ao AF E' a9 bb r.1/\Ao rI E' be bi r.2.1):=by
 refine Bq func10 λQ fw cs H co a2=>?_;unfold f27 at a8;refine C 2 V (DD co λcp fN Y ct cw=>?_);refine C 6 V (B6 ct EK CJ V V ?_);let⟨K,cy,c0⟩:=bs a8;refine BW (Lc (ce.M Y) (ci.M Y) Ao.nil cy) V V KR cw ?_;rintro _ gc _ a3 ⟨ap,aq,av,aw,rfl,rfl,bn,bo⟩ c1;refine C 3 V (B5 c1 HT λbv c3=>?_);refine JS.sx 3 c3 DR λc4=>?_;refine Db 3 c4 V λge O bw bx=>C 8 V (AX c0 (λc5 c6=>?_) (λc5 c7=>?_));refine C 7 V ?_;cases c6;exact AW func10 V V (a2 ((Y.Ad a3).Ad O) V ⟨none,0,none,0,V,V,Ao.nil,Ao.nil⟩ bx);refine C 3 V (B6 bw FV DR V V ?_);let⟨gg,c8,c9⟩:=bs c7;refine BW (Tz (bn.M O) (bo.M O) c8) V V Rr bx ?_;rintro _ gh gt Z ⟨ay,az,_,rfl,rfl,dd⟩ dj;let⟨ac,ea,eb⟩:=bs c9;refine C 5 V (Cg 4 (jC dd ea) V V (A4 func29 V) dj V ?_);rintro _ ec ed ag ⟨rfl,ee,a4⟩ ef;refine EV (L':=[(23,.tuple #[]),(0,.agg #[.slice a1 p0.1.length c2,.slice al p0.2.length am]),(1,Ar cp 0),(2,.slice none 0 0),(3,.slice none 0 0),(4,iV 0),(13,.agg #[.slice a1 p0.1.length c2,.slice al p0.2.length am]),(14,.tuple #[.agg #[.slice ap K.1.1.length aq,.slice av K.1.2.length aw],iV K.2]),(12,.tuple #[.agg #[.slice ap K.1.1.length aq,.slice av K.1.2.length aw],iV K.2]),(15,.agg #[.slice ap K.1.1.length aq,.slice av K.1.2.length aw]),(16,iV K.2),(5,Ar bv 0),(6,iV K.2),(17,iV K.2),(18,.bool (decide (K.2≠0))),(20,.agg #[.slice ap K.1.1.length aq,.slice av K.1.2.length aw]),(21,.slice ay ac.length az),(7,.slice ay ac.length az),(22,.slice ay ac.length az)]) ⟨V,V,V,V,V,V,V,V,V,V,V,V,V,V,V,V,by rw[a4];rfl,by rw[a4];rfl,by rw[a4];rfl,trivial⟩ ?_;refine C 5 V (JL.ln underlying69 V V V ?_);let⟨bz,eg,b0⟩:=bs eb;refine C 2 V (Bx (λL s=>∃(b1:Unit) (b2:LH),bz=Sum.inr b1/\Jm ec H b2 [] [] L s) ?_ ?_);rintro _ _ ⟨b1,b2,rfl,rfl,rfl,ej,ek⟩;have el:=elim_inr b0;refine C 6 V ?_;cases el;exact AW func10 V V (a2 (((((Y.Ad a3).Ad O).Ad Z).Ad ag).Ad ej) V ⟨none,0,none,0,V,V,Ao.nil,Ao.nil⟩ ek);intro em;refine JL.block (Ej eg (λa5=>[ed]) (λa5=>[(5,Ar bv 0),(24,sV ay ac az),(25,iV (ac.length:Int)),(26,iV a5)]) AS ef ?_);rintro a5 eo U a6 b3 ⟨gE,a0⟩ ep;have b4:=a0;unfold QC at b4;refine C 5 V (AX b4 (λer eu=>?_) (λer ew=>?_));let⟨ex,ey,eA⟩:=bs eu;refine C 5 V (Ji 0 (ee.M U) ey V V V V V V underlying69 A1 ?_);rintro gO g0 f93 _ eC ⟨b5,b6,rfl,ca⟩ eN g1 g3 g4 g5;refine An (v:=sV b5 ex b6) V (λρ h=>Yl.load BE (h _ _ V) (B8 (j:=0) a6 eC (eN 0 _ V))) (C 4 V ?_);refine B6 (bw.M ((Z.Ad ag).Ad U)) FV DR V V ?_;let⟨g6,e0,e1⟩:=bs eA;refine C 1 V (BW (Ye (bn.M (((O.Ad Z).Ad ag).Ad U)) (bo.M (((O.Ad Z).Ad ag).Ad U)) ca e0) V V (A4 func24 V) a6 ?_);rintro _ g7 _ a7 ⟨e3,e4,rfl,rfl,e5⟩ cc;refine C 10 V (Cp e1 (λe6 e7=>?_) (λe6 e8=>?_));refine C 8 V (JS.drop 0 cc V λff=>?_);cases e7;obtain rfl:=b3 _ a0;have fk:=elim_inl b0;cases fk;exact AW func10 V V (a2 ((((((Y.Ad a3).Ad O).Ad Z).Ad ag).Ad U).Ad a7) V ⟨b5,b6,e3,e4,V,V,(ca.M a7),e5⟩ ff);let⟨fl,fm,fo⟩:=bs e8;refine C 3 V (Bt fm V V V ?_);refine C 2 V ?_;cases fo;exact ep fl (U.Ad a7) cc V a0;refine JL.exit V (JS.drop 0 a6 V λfs=>?_);cases ew;have fv:bz=(Sum.inr ()):=(b3 _ a0).symm;exact Az (em _ _ ⟨(),eo,fv,V,V,U,fs⟩) V
variable {J:Judge Tryz.prog}
variable {E:LH}
def Xo(fu_:Nat)(p0:List Int)(K:AH×Int):Option (Bm (AH×Int) (AH)):=(Au (K.2+2)).bind λO=>if O<(p0.length:Int) then((ix p0 K.2).bind λU=>(Au (K.2+1)).bind λY=>(ix p0 Y).bind λZ=>(Au (K.2+2)).bind λac=>(ix p0 ac).bind λag=>(Ex K.1 ([(U,Z,ag)]:AH)).bind λal=>(Au (K.2+3)).bind λam=>some (.more (al,am))) else(some (.done K.1))
def f67(fu_:Nat)(p0:List Int):Option (AH):=Option.bind (iter (Xo fu_ p0) fu_ ([],0)) λK=>some K
theorem QW{p0:List Int}(aq:Ao rI E a1 c2 p0){r:AH}(a2:f67 fu_ p0=some r):AZ J 42 [sV a1 p0 c2] E [] (λw E' B'=>∃(a3:As) (a4:Nat) (g0:Seg),w= sV a3 r a4/\B'=g0/\OL 52 AF E' a3 a4 g0 r):=by
 refine Bq func42 λQ eo cs H be bi=>?_;unfold f67 at a2;let⟨a5,bn,bo⟩:=bs a2;refine C 13 V (Bx (λL s=>∃(av:LH) (Y:As) (Z:Nat) (ac:Seg),Jn E H av [ac] [(3,sV Y a5 Z)] L s (OL 52 AF av Y Z ac a5)) ?_ ?_);rintro _ _ ⟨av,Y,Z,ac,rfl,rfl,bv,bw,bx⟩;refine C 5 V ?_;cases bo;exact AW func42 V V (bi bv V ⟨Y,Z,ac,V,(by first | rfl | simp | (simp[Value.cells])),bx⟩ bw);intro bz;refine JL.block (Ch bn (λL s ag=>∃(al:LH) (am:As) (ap:Nat) (O:Seg),Jn E H al [O] [(0,sV a1 p0 c2),(3,sV am ag.1 ap),(4,iV ag.2)] L s (OL 52 AF al am ap O ag.1)) ⟨E,none,0,[],V,V,AS,be,OL.nil⟩ ?_);rintro _ _ ag ⟨al,am,ap,O,rfl,rfl,U,a6,a7⟩ b0 ⟨ep,aw⟩ b1;have a8:=aw;unfold Xo at a8;let⟨er,b2,b3⟩:=bs a8;refine C 4 V (Bt b2 V V V ?_);refine C 1 V (JL.ln underlying22 V V V ?_);refine C 2 V (AX b3 (λb4 b5=>?_) (λb4 b6=>?_));refine C 3 V (Fu 17 λK=>?_);refine A5 K V [0,1,2] V ?_;let⟨ay,ca,cc⟩:=bs b5;refine Ew 3 (aq.M U) ca K underlying22 AK ?_;rintro eu ew _ rfl ce;refine DC 4 K 0 ce Bb V V V V (A5 K V [5,6] V ?_);let⟨ex,ci,co⟩:=bs cc;refine AU 7 K V V (λρ h s' a9=>DX (h _ _ V) (h _ _ V) ci) ?_;let⟨az,cp,ct⟩:=bs co;refine Ew 8 (aq.M U) cp K underlying22 AK ?_;rintro ey eA _ rfl cw;refine DC 9 K 0 cw Bb V V V V (A5 K V [10,11] V ?_);let⟨eC,cy,c0⟩:=bs ct;refine AU 12 K V V (λρ h s' a9=>DX (h _ _ V) (h _ _ V) cy) ?_;let⟨a0,c1,c3⟩:=bs c0;refine Ew 13 (aq.M U) c1 K underlying22 AK ?_;rintro eN e0 _ rfl c4;refine DC 14 K 0 c4 Bb V V V V (AU (v:=.agg #[iV ay,iV az,iV a0]) 15 K V V (λρ h s' a9=>C4 [(0,1),(1,1),(2,1)] h BU underlying52 ⟨V,A0 type3,V,A0 type3,V,A0 type3,trivial⟩ V V) ?_);refine JG.one (i:=16) V (by decide+kernel) (Take.FO (pp:=AF) [.agg #[iV ay,iV az,iV a0]] ([(ay,az,a0)]:AH) a6 V V V underlying26 Bv BU (by decide) V V V ⟨⟨_,_,V,V,⟨_,_,V,V,V⟩⟩,trivial⟩ λe1 c5 c6 c7=>?_);refine De [17,18] (BS (S':=[O,c5]) V c7 λc8=>?_);refine Ck 1 c6 c8 V λc9 bb dd dj=>?_;let⟨ea,eb,ec⟩:=bs c3;refine JX (pp:=AF) 0 eb V V V V V V V underlying26 underlying26 Bv (Dc type52) BU V (by decide) (by decide) (a7.M bb) dd dj V λed ee ef eg ej=>?_;let⟨ek,el,em⟩:=bs ec;refine C 5 V (Bt el V V V ?_);refine C 2 V ?_;cases em;exact Az (b1 _ _ (ea,ek) ⟨c9,ed,ee,ef,V,V,(U.Ad bb),ej,eg⟩ aw) V;refine JL.exit V ?_;cases b6;obtain rfl:=b0 _ aw;exact Az (bz _ _ ⟨al,am,ap,O,V,V,U,a6,a7⟩) V
def f110(fu_:Nat)(p0:List Int)(p1:List Int):Option (Bh):=(f67 fu_ ([0,1,5,1,2,5,2,3,2,0,3,1,3,1,1]:List Int)).bind λK=>(f67 fu_ p1).bind λO=>(Ex K O).bind λU=>some (([p0,[],([3]:List Int),([1]:List Int)]:Bs),U)
variable{p1:List Int}{r:Bh}
theorem Tf{aw:As}{ay:Nat}{p0:List Int}(a8:Ao rI E a1 c2 p0)(a9:Ao rI E aw ay p1)(az:f110 fu_ p0 p1=some r):AZ J 68 [sV a1 p0 c2,sV aw p1 ay] E [] (λw E' B'=>∃(a0:As) (a2:Nat) (a3:As) (a4:Nat),w=.agg #[sV a0 r.1 a2,sV a3 r.2 a4]/\B'=[]/\Ao (rL rI) E' a0 a2 r.1/\Ao AF E' a3 a4 r.2):=by
 refine Bq func68 λQ eo cs H bb be=>?_;unfold f110 at az;refine C 2 V (B5 bb KT λY bi=>?_);refine C 4 V (Gq (pp:=rI) [iV 3] [3] V V V underlying22 AK CR (by decide) V V V ⟨V,trivial⟩ bi λbn bo bv bw=>?_);refine Gq (pp:=rI) [iV 1] [1] V V V underlying22 AK CR (by decide) V V V ⟨V,trivial⟩ bw λbx bz b0 b1=>BS (S':=[[],[(Y,.cells #[nS,nS] 28 (0,0))],bo,bz]) V b1 λb2=>Ck 2 bv b2 V λep ac b3 b4=>Ck 3 (b0.M ac) b4 V λer ag b5 b6=>Gq (pp:=(rL rI)) [sV a1 p0 c2,nS,.slice (Bd bn) (([3]:List Int)).length 1,.slice (Bd bx) (([1]:List Int)).length 1] [p0,[],([3]:List Int),([1]:List Int)] V V V underlying25 ET KV (by decide) V V V ⟨⟨_,_,V,(a8.M (ac.Ad ag))⟩,⟨_,_,V,Ao.nil⟩,⟨_,_,V,(b3.M ag)⟩,⟨_,_,V,b5⟩,trivial⟩ b6 λK al ca cc=>BS (S':=[[],[(Y,.cells #[nS,nS] 28 (0,0))],[],[],al]) V cc λce=>Gq (pp:=rI) [iV 0,iV 1,iV 5,iV 1,iV 2,iV 5,iV 2,iV 3,iV 2,iV 0,iV 3,iV 1,iV 3,iV 1,iV 1] [0,1,5,1,2,5,2,3,2,0,3,1,3,1,1] V V V underlying22 AK CR (by decide) V V V ⟨V,V,V,V,V,V,V,V,V,V,V,V,V,V,V,trivial⟩ ce λeu ew ci co=>Ck 5 ci co V λex am cp ct=>?_;let⟨ey,cw,cy⟩:=bs az;refine BW (QW cp cw) V V OO ct ?_;rintro _ eA c0 ap ⟨eC,eN,_,rfl,rfl,c1⟩ c3;refine BS (S':=[[],[(Y,.cells #[nS,nS] 28 (0,0))],[],[],al,[],c0]) V c3 λc4=>?_;let⟨e0,c5,c6⟩:=bs cy;refine C 1 V (BW (QW (a9.M (((ac.Ad ag).Ad am).Ad ap)) c5) V V OO c4 ?_);rintro _ e1 e3 aq ⟨e4,e5,_,rfl,rfl,c7⟩ c8;refine Ck 7 c7 c8 V λe6 av c9 dd=>?_;let⟨Z,dj,ea⟩:=bs c6;refine JX (pp:=AF) 6 dj V V V V V V V underlying26 underlying26 Bv (Dc type52) BU V (by decide) (by decide) (c1.M (aq.Ad av)) c9 dd V λO U eb ec ed=>BS (S':=[[],[(Y,.cells #[nS,nS] 28 (0,0))],[],[],al,[],eb,[]]) V ed λee=>An (v:=.agg #[.slice (Bd K) (([p0,[],([3]:List Int),([1]:List Int)]:Bs)).length 4,sV O Z U]) V (λρ h=>C4 [(0,1),(1,1)] h KT underlying28 ⟨V,A0 type25,V,A0 type26,trivial⟩ V V) (JS.sx 1 ee CJ λef=>?_);refine JL.done (Ck 4 (ca.M (((am.Ad ap).Ad aq).Ad av)) ef V λe7 a5 eg ej=>?_);refine Ck 6 (ec.M a5) ej V λe8 a6 ek el=>BS (S':=[[],[(Y,.cells #[.slice (Bd K) (([p0,[],([3]:List Int),([1]:List Int)]:Bs)).length 4,sV O Z U] 28 (0,0))],[],[],[],[],[],[]]) V el λa7=>?_;cases ea;refine JL.ret (v:=.agg #[.slice (Bd K) (([p0,[],([3]:List Int),([1]:List Int)]:Bs)).length 4,sV O Z U]) V V (BL.list func68 V (vs:=[.agg #[.slice (Bd K) (([p0,[],([3]:List Int),([1]:List Int)]:Bs)).length 4,sV O Z U]]) ⟨⟨_,V,Ld.many (vs:=[.slice (Bd K) (([p0,[],([3]:List Int),([1]:List Int)]:Bs)).length 4,sV O Z U]) EK CJ (HV (off:=0) 1 a7 V V)⟩,trivial⟩) (Fe 1 a7 V λem=>?_);exact be (((((((ac.Ad ag).Ad am).Ad ap).Ad aq).Ad av).Ad a5).Ad a6) V ⟨(Bd K),4,O,U,V,V,(eg.M a6),ek⟩ em
def f63(fu_:Nat):Option (Bh):=(f110 fu_ ([1,2,3]:List Int) ([])).bind λK=>some K
theorem QM(ac:f63 fu_=some r):AZ J 34 [] E [] (λw E' B'=>∃(ag:As) (al:Nat) (am:As) (ap:Nat),w=.agg #[sV ag r.1 al,sV am r.2 ap]/\B'=[]/\Ao (rL rI) E' ag al r.1/\Ao AF E' am ap r.2):=by
 refine Bq func34 λQ be cs H av aw=>?_;unfold f63 at ac;refine C 2 V (B5 av KT λr1 ay=>?_);refine C 3 V (Gq (pp:=rI) [iV 1,iV 2,iV 3] [1,2,3] V V V underlying22 AK CR (by decide) V V V ⟨V,V,V,trivial⟩ ay λbi bn az a0=>?_);refine Ck 2 az a0 V λbo a1 a2 a3=>?_;let⟨K,a4,a5⟩:=bs ac;refine BW (Tf a2 Ao.nil a4) V V Rn a3 ?_;rintro _ bv _ a6 ⟨O,U,Y,Z,rfl,rfl,a7,a8⟩ a9;refine JS.sx 1 a9 CJ λaq=>?_;refine JL.done ?_;obtain rfl:=(oi a5);refine JL.ret (v:=.agg #[sV O K.1 U,sV Y K.2 Z]) V V (BL.list func34 V (vs:=[.agg #[sV O K.1 U,sV Y K.2 Z]]) ⟨⟨_,V,Ld.many (vs:=[sV O K.1 U,sV Y K.2 Z]) EK CJ (HV (off:=0) 1 aq V V)⟩,trivial⟩) (Fe 1 aq V λbb=>?_);exact aw (a1.Ad a6) V ⟨O,U,Y,Z,V,V,a7,a8⟩ bb
def f64(fu_:Nat):Option (Bh):=(f110 fu_ ([]) ([])).bind λK=>some K
theorem ll(ac:f64 fu_=some r):AZ J 38 [] E [] (λw E' B'=>∃(ag:As) (al:Nat) (am:As) (ap:Nat),w=.agg #[sV ag r.1 al,sV am r.2 ap]/\B'=[]/\Ao (rL rI) E' ag al r.1/\Ao AF E' am ap r.2):=by
 refine Bq func38 λQ a6 cs H av aw=>?_;unfold f64 at ac;refine C 2 V (B5 av KT λr1 ay=>?_);let⟨K,az,a0⟩:=bs ac;refine C 3 V (BW (Tf Ao.nil Ao.nil az) V V Rn ay ?_);rintro _ a7 _ a1 ⟨O,U,Y,Z,rfl,rfl,a2,a3⟩ a4;refine JS.sx 1 a4 CJ λaq=>?_;refine JL.done ?_;obtain rfl:=(oi a0);refine JL.ret (v:=.agg #[sV O K.1 U,sV Y K.2 Z]) V V (BL.list func38 V (vs:=[.agg #[sV O K.1 U,sV Y K.2 Z]]) ⟨⟨_,V,Ld.many (vs:=[sV O K.1 U,sV Y K.2 Z]) EK CJ (HV (off:=0) 1 aq V V)⟩,trivial⟩) (Fe 1 aq V λa5=>?_);exact aw a1 V ⟨O,U,Y,Z,V,V,a2,a3⟩ a5
def f65(fu_:Nat):Option (Bh):=(f110 fu_ ([5,1]:List Int) ([])).bind λK=>some K
theorem lX(ac:f65 fu_=some r):AZ J 39 [] E [] (λw E' B'=>∃(ag:As) (al:Nat) (am:As) (ap:Nat),w=.agg #[sV ag r.1 al,sV am r.2 ap]/\B'=[]/\Ao (rL rI) E' ag al r.1/\Ao AF E' am ap r.2):=by
 refine Bq func39 λQ be cs H av aw=>?_;unfold f65 at ac;refine C 2 V (B5 av KT λr1 ay=>?_);refine C 3 V (Gq (pp:=rI) [iV 5,iV 1] [5,1] V V V underlying22 AK CR (by decide) V V V ⟨V,V,trivial⟩ ay λbi bn az a0=>?_);refine Ck 2 az a0 V λbo a1 a2 a3=>?_;let⟨K,a4,a5⟩:=bs ac;refine BW (Tf a2 Ao.nil a4) V V Rn a3 ?_;rintro _ bv _ a6 ⟨O,U,Y,Z,rfl,rfl,a7,a8⟩ a9;refine JS.sx 1 a9 CJ λaq=>?_;refine JL.done ?_;obtain rfl:=(oi a5);refine JL.ret (v:=.agg #[sV O K.1 U,sV Y K.2 Z]) V V (BL.list func39 V (vs:=[.agg #[sV O K.1 U,sV Y K.2 Z]]) ⟨⟨_,V,Ld.many (vs:=[sV O K.1 U,sV Y K.2 Z]) EK CJ (HV (off:=0) 1 aq V V)⟩,trivial⟩) (Fe 1 aq V λbb=>?_);exact aw (a1.Ad a6) V ⟨O,U,Y,Z,V,V,a7,a8⟩ bb
def f66(fu_:Nat):Option (AH):=(f67 fu_ ([0,1,1,0,2,3,0,3,2]:List Int)).bind λK=>some K
theorem lx{r:AH}(K:f66 fu_=some r):AZ J 41 [] E [] (λw E' B'=>∃(O:As) (U:Nat),w= sV O r U/\B'=[]/\Ao AF E' O U r):=by
 refine Bq func41 λQ a5 cs H Y Z=>?_;unfold f66 at K;refine C 6 V (Gq (pp:=rI) [iV 0,iV 1,iV 1,iV 0,iV 2,iV 3,iV 0,iV 3,iV 2] [0,1,1,0,2,3,0,3,2] V V V underlying22 AK CR (by decide) V V V ⟨V,V,V,V,V,V,V,V,V,trivial⟩ Y λr1 g2 ac ag=>?_);refine Ck 1 ac ag V λa6 al am ap=>?_;let⟨a7,aq,av⟩:=bs K;refine BW (QW am aq) V V OO ap ?_;rintro _ a8 a9 aw ⟨ay,az,_,rfl,rfl,a0⟩ a1;refine C 2 V (Ck 2 a0 a1 V λbb a2 a3 a4=>?_);cases av;exact AW func41 V V (Z ((al.Ad aw).Ad a2) V ⟨ay,az,V,V,a3⟩ a4)
def Qp(fu_:Nat)(p0:List Int)(p1:List Int)(K:Int):Option (Bm Int ((Bool)⊕(Unit))):=Option.bind (if K<(p0.length:Int) then(some (decide (K<(p1.length:Int)))) else(some false)) λO=>if O=true then((ix p0 K).bind λU=>(ix p1 K).bind λY=>if U≠Y then(some (.done (Sum.inl false))) else((Au (K+1)).bind λZ=>some (.more Z))) else(some (.done (Sum.inr ())))
def f29(fu_:Nat)(p0:List Int)(p1:List Int):Option Bool:=Option.bind (iter (Qp fu_ p0 p1) fu_ 0) λK=>Sum.elim (λr=>some r) (λO=>some (decide ((p0.length:Int)=(p1.length:Int)))) K
variable{O:As}{U:Nat}
theorem Nc{p0:List Int}(a6:Ao rI E a1 c2 p0)(a7:Ao rI E O U p1){r:Bool}(aq:f29 fu_ p0 p1=some r):AZ J 9 [sV a1 p0 c2,sV O p1 U] E [] (λw E' B'=>w=.bool r/\B'=[]):=by
 refine Bq func9 λQ c4 cs H a8 av=>?_;unfold f29 at aq;let⟨aw,a9,ay⟩:=bs aq;refine C 9 V (Bx (λL s=>∃(az:Unit) (a0:LH),aw=Sum.inr az/\Jm E H a0 [] [(0,sV a1 p0 c2),(1,sV O p1 U)] L s) ?_ ?_);rintro _ _ ⟨az,a0,rfl,rfl,rfl,bb,be⟩;have bi:=elim_inr ay;refine C 3 V (JL.ln underlying22 V V V ?_);refine C 1 V (JL.ln underlying22 V V V ?_);refine C 3 V ?_;cases bi;exact AW func9 V V (av bb V ⟨V,V⟩ be);intro bn;refine JL.block (Ej a9 (λac=>[]) (λac=>[(0,sV a1 p0 c2),(1,sV O p1 U),(5,iV ac)]) AS a8 ?_);rintro ac al Y a2 a3 ⟨c5,ag⟩ bo;have a4:=ag;unfold Qp at a4;refine C 5 V (JL.ln underlying22 V V V ?_);let⟨bv,bw,bx⟩:=bs a4;refine C 2 V (HY [] (λL s=>∃(am:LH),Jm al H am [] [(0,sV a1 p0 c2),(1,sV O p1 U),(5,iV ac),(15,.bool bv)] L s) ?_ ?_);rintro _ _ ⟨am,rfl,rfl,Z,ap⟩;refine JL.done (Cp bx (λbz b0=>?_) (λbz b1=>?_));refine C 4 V (Fu 8 λK=>?_);refine A5 K V [0,1] V ?_;let⟨c6,b2,b3⟩:=bs b0;refine Ew 2 (a6.M (Y.Ad Z)) b2 K underlying22 AK ?_;rintro c7 c8 _ rfl b4;refine DC 3 K 0 b4 Bb V V V V (A5 K V [4,5] V ?_);let⟨c9,b5,b6⟩:=bs b3;refine Ew 6 (a7.M (Y.Ad Z)) b5 K underlying22 AK ?_;rintro dd dj _ rfl ca;refine DC 7 K 0 ca Bb V V V V (De [8] ?_);refine C 2 V (AX b6 (λcc ce=>?_) (λcc ci=>?_));refine C 4 V ?_;cases ce;obtain rfl:=a3 _ ag;have co:=elim_inl ay;cases co;exact AW func9 V V (av (Y.Ad Z) V ⟨V,V⟩ ap);let⟨cp,ct,cw⟩:=bs ci;refine C 4 V (Bt ct V V V ?_);refine C 2 V ?_;cases cw;exact bo cp (Y.Ad Z) ap V ag;refine JL.exit V ?_;cases b1;have cy:aw=(Sum.inr ()):=(a3 _ ag).symm;exact Az (bn _ _ ⟨(),am,cy,V,V,(Y.Ad Z),ap⟩) V;intro a5;refine Jq 10 bw (λc0 c1=>?_) (λc0 c3=>?_);refine C 2 V (JL.ln underlying22 V V V ?_);refine C 2 V ?_;cases c1;exact Az (a5 _ _ ⟨al,V,V,AS,a2⟩) V;refine C 5 V ?_;cases c3;exact Az (a5 _ _ ⟨al,V,V,AS,a2⟩) V
def XQ(fu_:Nat)(p0:AH)(p1:AH)(K:Int):Option (Bm Int ((Bool)⊕(Unit))):=Option.bind (if K<(p0.length:Int) then(some (decide (K<(p1.length:Int)))) else(some false)) λO=>if O=true then((ix p0 K).bind λU=>(ix p1 K).bind λY=>if U≠Y then(some (.done (Sum.inl false))) else((Au (K+1)).bind λZ=>some (.more Z))) else(some (.done (Sum.inr ())))
def f26(fu_:Nat)(p0:AH)(p1:AH):Option Bool:=Option.bind (iter (XQ fu_ p0 p1) fu_ 0) λK=>Sum.elim (λr=>some r) (λO=>some (decide ((p0.length:Int)=(p1.length:Int)))) K
theorem Yj{p0 p1:AH}(a8:Ao AF E a1 c2 p0)(a9:Ao AF E O U p1){r:Bool}(aw:f26 fu_ p0 p1=some r):AZ J 40 [sV a1 p0 c2,sV O p1 U] E [] (λw E' B'=>w=.bool r/\B'=[]):=by
 refine Bq func40 λQ c6 cs H bb ay=>?_;unfold f26 at aw;let⟨az,be,a0⟩:=bs aw;refine C 9 V (Bx (λL s=>∃(a2:Unit) (a3:LH),az=Sum.inr a2/\Jm E H a3 [] [(0,sV a1 p0 c2),(1,sV O p1 U)] L s) ?_ ?_);rintro _ _ ⟨a2,a3,rfl,rfl,rfl,bi,bn⟩;have bo:=elim_inr a0;refine C 3 V (JL.ln underlying26 V V V ?_);refine C 1 V (JL.ln underlying26 V V V ?_);refine C 3 V ?_;cases bo;exact AW func40 V V (ay bi V ⟨V,V⟩ bn);intro bv;refine JL.block (Ej be (λam=>[]) (λam=>[(0,sV a1 p0 c2),(1,sV O p1 U),(5,iV am)]) AS bb ?_);rintro am aq Y a4 a5 ⟨c7,ap⟩ bw;have a6:=ap;unfold XQ at a6;refine C 5 V (JL.ln underlying26 V V V ?_);let⟨bx,bz,b0⟩:=bs a6;refine C 2 V (HY [] (λL s=>∃(Z:LH),Jm aq H Z [] [(0,sV a1 p0 c2),(1,sV O p1 U),(5,iV am),(15,.bool bx)] L s) ?_ ?_);rintro _ _ ⟨Z,rfl,rfl,ac,av⟩;refine JL.done (Cp b0 (λb1 b2=>?_) (λb1 b3=>?_));refine C 4 V (Fu 8 λK=>?_);refine A5 K V [0,1] V ?_;let⟨ag,b4,b5⟩:=bs b2;refine Ew 2 (a8.M (Y.Ad ac)) b4 K underlying26 Bv ?_;rintro c8 c9 _ ⟨_,_,rfl,rfl,⟨_,_,rfl,rfl,rfl⟩⟩ b6;refine Kv 3 K b6 Ei Bv V V V (A5 K V [4,5] V ?_);let⟨al,ca,cc⟩:=bs b5;refine Ew 6 (a9.M (Y.Ad ac)) ca K underlying26 Bv ?_;rintro dd dj _ ⟨_,_,rfl,rfl,⟨_,_,rfl,rfl,rfl⟩⟩ ce;refine Kv 7 K ce Ei Bv V V V (De [8] ?_);refine An (v:=.bool (decide (ag≠al))) V (λρ h=>Ss (E:=Z) (E':=Z) (ws:=[iV ag.1,iV ag.2.1,iV ag.2.2]) (ws':=[iV al.1,iV al.2.1,iV al.2.2]) (a:=ag) (b:=al) k8 (by decide) (by decide+kernel) ⟨_,_,V,V,⟨_,_,V,V,V⟩⟩ ⟨_,_,V,V,⟨_,_,V,V,V⟩⟩ (h _ _ V) (h _ _ V)) (JL.done ?_);refine AX cc (λci co=>?_) (λci cp=>?_);refine C 4 V ?_;cases co;obtain rfl:=a5 _ ap;have ct:=elim_inl a0;cases ct;exact AW func40 V V (ay (Y.Ad ac) V ⟨V,V⟩ av);let⟨cw,cy,c0⟩:=bs cp;refine C 4 V (Bt cy V V V ?_);refine C 2 V ?_;cases c0;exact bw cw (Y.Ad ac) av V ap;refine JL.exit V ?_;cases b3;have c1:az=(Sum.inr ()):=(a5 _ ap).symm;exact Az (bv _ _ ⟨(),Z,c1,V,V,(Y.Ad ac),av⟩) V;intro a7;refine Jq 10 bz (λc3 c4=>?_) (λc3 c5=>?_);refine C 2 V (JL.ln underlying26 V V V ?_);refine C 2 V ?_;cases c4;exact Az (a7 _ _ ⟨aq,V,V,AS,a4⟩) V;refine C 5 V ?_;cases c5;exact Az (a7 _ _ ⟨aq,V,V,AS,a4⟩) V
def f18(fu_:Nat):Option Bool:=(f63 fu_).bind λx1=>(f43 fu_ x1).bind λO=>(f63 fu_).bind λag=>(f33 fu_ ag).bind λU=>(f63 fu_).bind λal=>(f22 fu_ al).bind λY=>(f63 fu_).bind λam=>(f24 fu_ am).bind λZ=>(f64 fu_).bind λap=>(f39 fu_ ap).bind λac=>(f65 fu_).bind λaq=>(f27 fu_ aq).bind λK=>Option.bind (if O.2=0 then(some (decide (U.2=0))) else(some false)) λav=>Option.bind (if av=true then(some (decide (Y.2=0))) else(some false)) λaw=>Option.bind (if aw=true then(some (decide (Z.2=0))) else(some false)) λay=>Option.bind (if ay=true then(some (decide (ac.2=0))) else(some false)) λaz=>Option.bind (if az=true then(some (decide (K.2.2=0))) else(some false)) λa0=>Option.bind (if a0=true then(some (decide (Z.1=16))) else(some false)) λa1=>Option.bind (if a1=true then((f29 fu_ O.1 ([(-6),1,3,2]:List Int)).bind λa2=>some a2) else(some false)) λa3=>Option.bind (if a3=true then((f29 fu_ U.1 ([1,2,3]:List Int)).bind λa4=>some a4) else(some false)) λa5=>Option.bind (if a5=true then((f66 fu_).bind λa6=>(f26 fu_ Y.1 a6).bind λa7=>some a7) else(some false)) λa8=>Option.bind (if a8=true then((f29 fu_ ac.1 ([0]:List Int)).bind λa9=>some a9) else(some false)) λbb=>Option.bind (if bb=true then((f67 fu_ ([0,2,6,2,3,3,3,1,1]:List Int)).bind λbe=>(f26 fu_ K.1 be).bind λbi=>some bi) else(some false)) λbn=>Option.bind (if bn=true then((f29 fu_ K.2.1 ([0,1,2]:List Int)).bind λbo=>some bo) else(some false)) λbv=>some bv
theorem X0{E:LH}{r:Bool}(b2:f18 fu_=some r):AZ (Hi Tryz.prog) 12 [] E [] (λw E' B'=>w=.bool r/\B'=[]):=by
 refine Bq func12 λQ nm cs H em eo=>?_;unfold f18 at b2;let⟨x1,ep,er⟩:=bs b2;refine C 6 V (BW (QM ep) V V OQ em ?_);rintro _ np _ eu ⟨nq,nr,ns,nt,rfl,rfl,ew,ex⟩ ey;let⟨a6,eA,eC⟩:=bs er;refine BW (lP ew ex eA) V V (A4 func33 V) ey ?_;rintro _ nu _ eN ⟨a7,a8,rfl,rfl,e0⟩ e1;let⟨nx,e3,e4⟩:=bs eC;refine C 8 V (BW (QM e3) V V OQ e1 ?_);rintro _ ny _ b3 ⟨nz,nA,nB,nC,rfl,rfl,e5,e6⟩ e7;refine BS (S':=[[],[],[],[]]) V e7 λe8=>?_;let⟨av,ff,fk⟩:=bs e4;refine BW (lf e5 e6 ff) V V (A4 func35 V) e8 ?_;rintro _ nD _ b4 ⟨aw,ay,rfl,rfl,fl⟩ fm;let⟨nE,fo,fs⟩:=bs fk;refine C 8 V (BW (QM fo) V V OQ fm ?_);rintro _ nF _ bz ⟨nG,nH,nI,nJ,rfl,rfl,fv,fw⟩ fN;let⟨ag,gc,ge⟩:=bs fs;refine BW (Yd fv fw gc) V V (A4 func11 V) fN ?_;rintro _ nK _ b0 ⟨ap,aq,rfl,rfl,gg⟩ gh;refine BS (S':=[[],[],[],[],[],[],[]]) V gh λgt=>?_;let⟨nL,gE,gO⟩:=bs ge;refine C 8 V (BW (QM gE) V V OQ gt ?_);rintro _ nM _ bn ⟨nN,nO,nP,nQ,rfl,rfl,g0,g1⟩ g3;let⟨az,g4,g5⟩:=bs gO;refine Co (lZ g0 g1 g4) V V (A4 func36 V) g3 λnR bo g6=>?_;let⟨nT,g7,g8⟩:=bs g5;refine C 8 V (BW (ll g7) V V (A4 func38 V) g6 ?_);rintro _ nU _ bv ⟨nV,nW,nX,nY,rfl,rfl,g9,ha⟩ hb;refine BS (S':=[[],[],[],[],[],[],[],[],[],[]]) V hb λhc=>?_;let⟨O,hd,he⟩:=bs g8;refine BW (lR g9 ha hd) V V (A4 func37 V) hc ?_;rintro _ nZ _ bw ⟨al,am,rfl,rfl,hf⟩ hg;let⟨n0,hj,hk⟩:=bs he;refine C 8 V (BW (lX hj) V V (A4 func39 V) hg ?_);rintro _ n3 _ bb ⟨n4,n6,n7,n8,rfl,rfl,hl,hm⟩ hn;let⟨K,ho,hp⟩:=bs hk;refine BW (X7 hl hm ho) V V (A4 func10 V) hn ?_;rintro _ n9 _ be ⟨Z,ac,U,Y,rfl,rfl,hq,hr⟩ hs;refine BS (S':=[[],[],[],[],[],[],[],[],[],[],[],[],[]]) V hs λb5=>?_;let⟨ht,hu,hv⟩:=bs hp;refine C 13 V (FL 6 52 [] [(1,sV a7 a6.1 a8),(3,sV aw av.1 ay),(5,sV ap ag.1 aq),(6,iV ag.2),(7,iV az.1),(8,iV az.2),(9,sV al O.1 am),(10,iV O.2),(11,sV Z K.1 ac),(12,sV U K.2.1 Y),(13,iV K.2.2),(50,.bool ht)] (λoa a0 b6=>?_) (λca=>?_));let⟨hw,hx,hy⟩:=bs hv;refine C 1 V (FL 10 48 [] [(1,sV a7 a6.1 a8),(3,sV aw av.1 ay),(5,sV ap ag.1 aq),(7,iV az.1),(8,iV az.2),(9,sV al O.1 am),(10,iV O.2),(11,sV Z K.1 ac),(12,sV U K.2.1 Y),(13,iV K.2.2),(54,.bool hw)] (λob a1 cc=>?_) (λce=>?_));let⟨hz,hA,hB⟩:=bs hy;refine C 1 V (FL 14 44 [] [(1,sV a7 a6.1 a8),(3,sV aw av.1 ay),(5,sV ap ag.1 aq),(7,iV az.1),(9,sV al O.1 am),(10,iV O.2),(11,sV Z K.1 ac),(12,sV U K.2.1 Y),(13,iV K.2.2),(58,.bool hz)] (λoc a2 ci=>?_) (λco=>?_));let⟨hC,hD,hE⟩:=bs hB;refine C 1 V (FL 18 40 [] [(1,sV a7 a6.1 a8),(3,sV aw av.1 ay),(5,sV ap ag.1 aq),(7,iV az.1),(9,sV al O.1 am),(11,sV Z K.1 ac),(12,sV U K.2.1 Y),(13,iV K.2.2),(62,.bool hC)] (λod a3 cp=>?_) (λct=>?_));let⟨hF,hG,hH⟩:=bs hE;refine C 1 V (FL 22 36 [] [(1,sV a7 a6.1 a8),(3,sV aw av.1 ay),(5,sV ap ag.1 aq),(7,iV az.1),(9,sV al O.1 am),(11,sV Z K.1 ac),(12,sV U K.2.1 Y),(66,.bool hF)] (λoe a4 cw=>?_) (λcy=>?_));let⟨hI,hK,hL⟩:=bs hH;refine C 1 V (FL 26 32 [] [(1,sV a7 a6.1 a8),(3,sV aw av.1 ay),(5,sV ap ag.1 aq),(9,sV al O.1 am),(11,sV Z K.1 ac),(12,sV U K.2.1 Y),(70,.bool hI)] (λog a5 c0=>?_) (λc1=>?_));let⟨hM,hN,hO⟩:=bs hL;refine C 1 V (FL 31 27 [] [(3,sV aw av.1 ay),(5,sV ap ag.1 aq),(9,sV al O.1 am),(11,sV Z K.1 ac),(12,sV U K.2.1 Y),(75,.bool hM)] (λoh a9 c2=>?_) (λc3=>?_));let⟨hP,hQ,hR⟩:=bs hO;refine C 1 V (FL 36 22 [] [(5,sV ap ag.1 aq),(9,sV al O.1 am),(11,sV Z K.1 ac),(12,sV U K.2.1 Y),(80,.bool hP)] (λoj bi c4=>?_) (λc5=>?_));let⟨hS,hT,hU⟩:=bs hR;refine C 1 V (FL 41 17 [] [(9,sV al O.1 am),(11,sV Z K.1 ac),(12,sV U K.2.1 Y),(85,.bool hS)] (λom bx c6=>?_) (λc7=>?_));obtain⟨hV,hW,hX⟩:=bs hU;refine C 1 V (FL 46 12 [] [(11,sV Z K.1 ac),(12,sV U K.2.1 Y),(90,.bool hV)] (λoo b1 c8=>?_) (λc9=>?_));let⟨hY,h0,h1⟩:=bs hX;refine C 1 V (FL 52 6 [] [(12,sV U K.2.1 Y),(96,.bool hY)] (λoq dd dj=>?_) (λea=>?_));let⟨h2,h3,h4⟩:=bs h1;refine C 1 V (FL 57 1 [] [(101,.bool h2)] (λot h5 h6=>?_) (λeb=>?_));refine C 2 V ?_;cases h4;exact AW func12 V V (eo (((((((((((((((((((((((eu.Ad eN).Ad b3).Ad b4).Ad bz).Ad b0).Ad bn).Ad bo).Ad bv).Ad bw).Ad bb).Ad be).Ad a0).Ad a1).Ad a2).Ad a3).Ad a4).Ad a5).Ad a9).Ad bi).Ad bx).Ad b1).Ad dd).Ad h5) V ⟨V,V⟩ h6);refine EM 97 h3 (λh7 h8=>?_) (λh7 h9=>?_);refine C 1 V (Gq (pp:=rI) [iV 0,iV 1,iV 2] [0,1,2] V V V underlying22 AK CR (by decide) V V V ⟨V,V,V,trivial⟩ dj λou ov ia ih=>?_);refine Ck 0 ia ih V λow ec ii io=>?_;let⟨ox,i0,i1⟩:=bs h8;refine Co (Nc (hr.M (((((((((((a0.Ad a1).Ad a2).Ad a3).Ad a4).Ad a5).Ad a9).Ad bi).Ad bx).Ad b1).Ad dd).Ad ec)) ii i0) V V MF io λoy i3 i4=>BS (S':=[[],[]]) V i4 λi5=>C 1 V ?_;cases i1;exact eb (ec.Ad i3) i5 V;refine C 4 V ?_;cases h9;exact eb AS dj V;refine EM 91 h0 (λi6 i7=>?_) (λi6 i8=>?_);refine C 1 V (Gq (pp:=rI) [iV 0,iV 2,iV 6,iV 2,iV 3,iV 3,iV 3,iV 1,iV 1] [0,2,6,2,3,3,3,1,1] V V V underlying22 AK CR (by decide) V V V ⟨V,V,V,V,V,V,V,V,V,trivial⟩ c8 λoz oA i9 jg=>?_);refine Ck 0 i9 jg V λoB ed jj jp=>?_;let⟨oD,jt,jy⟩:=bs i7;refine BW (QW jj jt) V V OO jp ?_;rintro _ oE j0 ee ⟨oF,oG,_,rfl,rfl,j1⟩ kb;refine BS (S':=[[],j0]) V kb λkc=>Ck 1 j1 kc V λoH ef ke kf=>?_;let⟨oI,ki,km⟩:=bs jy;refine Co (Yj (hq.M ((((((((((((a0.Ad a1).Ad a2).Ad a3).Ad a4).Ad a5).Ad a9).Ad bi).Ad bx).Ad b1).Ad ed).Ad ee).Ad ef)) ke ki) V V (A4 func40 V) kf λoJ kn ko=>C 1 V ?_;cases km;exact ea (((ed.Ad ee).Ad ef).Ad kn) ko V;refine C 5 V ?_;cases i8;exact ea AS c8 V;refine EM 86 hW (λkp ks=>?_) (λkp kv=>?_);refine C 1 V (Gq (pp:=rI) [iV 0] [0] V V V underlying22 AK CR (by decide) V V V ⟨V,trivial⟩ c6 λoK oL k0 k1=>?_);refine Ck 0 k0 k1 V λoM eg k2 k3=>?_;let⟨oN,k4,k5⟩:=bs ks;refine Co (Nc (hf.M (((((((((((bb.Ad be).Ad a0).Ad a1).Ad a2).Ad a3).Ad a4).Ad a5).Ad a9).Ad bi).Ad bx).Ad eg)) k2 k4) V V MF k3 λoO k6 k7=>BS (S':=[[],[]]) V k7 λk9=>C 1 V ?_;cases k5;exact c9 (eg.Ad k6) k9 V;refine C 4 V ?_;cases kv;exact c9 AS c6 V;refine EM 81 hT (λla ld=>?_) (λla li=>?_);let⟨oP,lm,ls⟩:=bs ld;refine C 1 V (BW (lx lm) V V (A4 func41 V) c4 ?_);rintro _ oQ _ ej ⟨oR,oS,rfl,rfl,lw⟩ l3;let⟨oT,l4,l5⟩:=bs ls;refine Co (Yj (gg.M ((((((((((((((bn.Ad bo).Ad bv).Ad bw).Ad bb).Ad be).Ad a0).Ad a1).Ad a2).Ad a3).Ad a4).Ad a5).Ad a9).Ad bi).Ad ej)) lw l4) V V (A4 func40 V) l3 λoU l6 ma=>C 1 V ?_;cases l5;exact c7 (ej.Ad l6) ma V;refine C 4 V ?_;cases li;exact c7 AS c4 V;refine EM 76 hQ (λmb mm=>?_) (λmb mp=>?_);refine C 1 V (Gq (pp:=rI) [iV 1,iV 2,iV 3] [1,2,3] V V V underlying22 AK CR (by decide) V V V ⟨V,V,V,trivial⟩ c2 λoV oW ms mv=>?_);refine Ck 0 ms mv V λoX ek mH mI=>?_;let⟨oY,mJ,mK⟩:=bs mm;refine Co (Nc (fl.M (((((((((((((((bz.Ad b0).Ad bn).Ad bo).Ad bv).Ad bw).Ad bb).Ad be).Ad a0).Ad a1).Ad a2).Ad a3).Ad a4).Ad a5).Ad a9).Ad ek)) mH mJ) V V MF mI λoZ mL mM=>BS (S':=[[],[]]) V mM λmO=>C 1 V ?_;cases mK;exact c5 (ek.Ad mL) mO V;refine C 4 V ?_;cases mp;exact c5 AS c2 V;refine EM 71 hN (λmP mQ=>?_) (λmP mR=>?_);refine C 1 V (Gq (pp:=rI) [iV (-6),iV 1,iV 3,iV 2] [(-6),1,3,2] V V V underlying22 AK CR (by decide) V V V ⟨V,V,V,V,trivial⟩ c0 λo0 o1 mS mT=>?_);refine Ck 0 mS mT V λo2 el mU mV=>?_;let⟨o3,mW,mX⟩:=bs mQ;refine Co (Nc (e0.M ((((((((((((((((b3.Ad b4).Ad bz).Ad b0).Ad bn).Ad bo).Ad bv).Ad bw).Ad bb).Ad be).Ad a0).Ad a1).Ad a2).Ad a3).Ad a4).Ad a5).Ad el)) mU mW) V V MF mV λo4 mY mZ=>BS (S':=[[],[]]) V mZ λm0=>C 1 V ?_;cases mX;exact c3 (el.Ad mY) m0 V;refine C 4 V ?_;cases mR;exact c3 AS c0 V;refine EM 67 hK (λm1 m2=>?_) (λm1 m3=>?_);refine C 3 V ?_;cases m2;exact c1 AS cw V;refine C 3 V ?_;cases m3;exact c1 AS cw V;refine EM 63 hG (λm4 m5=>?_) (λm4 m6=>?_);refine C 3 V ?_;cases m5;exact cy AS cp V;refine C 3 V ?_;cases m6;exact cy AS cp V;refine EM 59 hD (λm7 m9=>?_) (λm7 na=>?_);refine C 3 V ?_;cases m9;exact ct AS ci V;refine C 3 V ?_;cases na;exact ct AS ci V;refine EM 55 hA (λnb nc=>?_) (λnb nf=>?_);refine C 3 V ?_;cases nc;exact co AS cc V;refine C 3 V ?_;cases nf;exact co AS cc V;refine EM 51 hx (λng nh=>?_) (λng ni=>?_);refine C 3 V ?_;cases nh;exact ce AS b6 V;refine C 3 V ?_;cases ni;exact ce AS b6 V;refine Jq 47 hu (λnj nk=>?_) (λnj nl=>?_);refine C 3 V ?_;cases nk;exact ca AS b5 V;refine C 3 V ?_;cases nl;exact ca AS b5 V
variable {E:LH}
def f20(fu_:Nat)(p0:List Int):Option ((Cl)):=some (p0,0,2685821657736338717)
theorem kT{p0:List Int}(Z:Ao rI E a1 c2 p0){r:(Cl)}(K:f20 fu_ p0=some r):AZ J 4 [sV a1 p0 c2] E [] (λw E' B'=>∃(O:Nat) (U:As) (Y:Nat),w= Ar O 0/\B'=[(O,.cells #[sV U r.1 Y,iV r.2.1,.int .u64 ((r.2.2:Nat):Int)] 46 (0,0))]/\Ao rI E' U Y r.1):=by
 refine Bq func4 λQ ap cs H ac ag=>?_;unfold f20 at K;refine C 7 V (An (v:=.agg #[sV a1 p0 c2,iV 0,.int .u64 ((2685821657736338717:Nat):Int)]) V (λρ h=>C4 [(0,1),(1,1),(2,1)] h (Dw type46) underlying46 ⟨V,A0 type22,V,A0 type3,V,A0 type44,trivial⟩ V V) ?_);refine JS.box (v:=.agg #[sV a1 p0 c2,iV 0,.int .u64 ((2685821657736338717:Nat):Int)]) V V V ac V λal am=>C 2 V ?_;cases K;exact AW func4 V V (ag AS V ⟨al,a1,c2,V,(by first | rfl | simp | (simp[Value.cells])),Z⟩ am)
def f92(fu_:Nat)(p0:Int)(p1:Int)(p2:Int):Option Bool:=Option.bind (if p1<=p0 then(some (decide (p0<=p2))) else(some false)) λx1=>some x1
def f88(fu_:Nat)(p0:Int)(p1:Int×Int×Int)(p2:Int):Option Int:=(Au (p0 - 1)).bind λK=>(f92 fu_ p1.1 0 K).bind λO=>Option.bind (if(!O)=true then(some true) else((Au (p0 - 1)).bind λU=>(f92 fu_ p1.2.1 0 U).bind λY=>some (!Y))) λZ=>if Z=true then(some 3) else(if p1.1=p1.2.1 then(some 8) else((f92 fu_ p1.2.2 1 p2).bind λac=>if(!ac)=true then(some 1) else(some 0)))
def N5(fu_:Nat)(p0:Bh)(O:Int)(K:Int):Option (Bm Int ((Int)⊕(Unit))):=(ix p0.1 O).bind λU=>if K<(U.length:Int) then((ix p0.1 O).bind λY=>(ix Y K).bind λZ=>(f92 fu_ Z 1 9).bind λac=>if(!ac)=true then(some (.done (Sum.inl 1))) else((Au (K+1)).bind λag=>some (.more ag))) else(some (.done (Sum.inr ())))
def Ob(fu_:Nat)(p0:Bh)(K:Int):Option (Bm Int ((Int)⊕(Unit))):=if K<(p0.1.length:Int) then((ix p0.1 K).bind λO=>if 3<(O.length:Int) then(some (.done (Sum.inl 6))) else(Option.bind (iter (N5 fu_ p0 K) fu_ 0) λU=>Sum.elim (λr=>some (.done (Sum.inl r))) (λZ=>(Au (K+1)).bind λY=>some (.more Y)) U)) else(some (.done (Sum.inr ())))
def S8(fu_:Nat)(p0:Bh)(K:Int):Option (Bm Int ((Int)⊕(Unit))):=if K<(p0.2.length:Int) then((ix p0.2 K).bind λU=>(f88 fu_ (p0.1.length:Int) U 9).bind λO=>if O≠0 then(some (.done (Sum.inl O))) else((Au (K+1)).bind λY=>some (.more Y))) else(some (.done (Sum.inr ())))
def f48(fu_:Nat)(p0:Bh):Option Int:=if(p0.1.length:Int)<2 then(some 7) else(if 5<(p0.1.length:Int) then(some 6) else(Option.bind (iter (Ob fu_ p0) fu_ 0) λK=>Sum.elim (λr=>some r) (λU=>if 8<(p0.2.length:Int) then(some 6) else(Option.bind (iter (S8 fu_ p0) fu_ 0) λO=>Sum.elim (λr=>some r) (λY=>some 0) O)) K))
variable {E:LH}
def f83(fu_:Nat)(p0:Cl):Option (Nat×(Cl)):=(Au (p0.2.1+1)).bind λO=>Option.bind (if O<=(p0.1.length:Int) then((Au (O - 1)).bind λU=>(ix p0.1 U).bind λY=>some (((((CC O)*11400714819323198485)%2^64) ^^^ (((CC Y)*14029467366897019727)%2^64))%2^64)) else(some (((CC O)*11400714819323198485)%2^64))) λK=>some (((((((((((p0.2.2 ^^^ K)%2^64)*18397679294719823053)%2^64) ^^^ (((((p0.2.2 ^^^ K)%2^64)*18397679294719823053)%2^64)>>>33))%2^64)*14181476777654086739)%2^64) ^^^ (((((((((p0.2.2 ^^^ K)%2^64)*18397679294719823053)%2^64) ^^^ (((((p0.2.2 ^^^ K)%2^64)*18397679294719823053)%2^64)>>>33))%2^64)*14181476777654086739)%2^64)>>>29))%2^64)>>>11,(p0.1,O,(((((p0.2.2 ^^^ K)%2^64)*18397679294719823053)%2^64) ^^^ (((((p0.2.2 ^^^ K)%2^64)*18397679294719823053)%2^64)>>>33))%2^64))
variable{bk:Nat}{p0:Cl}
theorem lU(al:Ao rI E a1 c2 p0.1){r:Nat×(Cl)}(am:f83 fu_ p0=some r):AZ J 43 [Ar bk 0] E [(bk,.cells #[sV a1 p0.1 c2,iV p0.2.1,.int .u64 ((p0.2.2:Nat):Int)] 46 (0,0))] (λw E' B'=>∃(ap:As) (aq:Nat),w=.int .u64 ((r.1:Nat):Int)/\B'=[(bk,.cells #[sV ap r.2.1 aq,iV r.2.2.1,.int .u64 ((r.2.2.2:Nat):Int)] 46 (0,0))]/\Ao rI E' ap aq r.2.1):=by
 refine Bq func43 λQ bv cs H av a2=>?_;unfold f83 at am;refine C 8 V (JL.fd underlying46 AK V V V ?_);refine An (v:=iV p0.2.1) V (λρ h=>Yl.load Bb (h _ _ V) (B8 (j:=0) (off:=1) av V V)) ?_;let⟨Y,a3,a4⟩:=bs am;refine Bt a3 V V V (C 1 V ?_);refine JL.fd underlying46 AK V V V (JS.sx 0 av AK λU=>?_);refine C 5 V (JL.fd underlying46 AK V V V ?_);refine An (v:=iV Y) V (λρ h=>Yl.load Bb (h _ _ V) (B8 (j:=0) (off:=1) U V V)) (An (v:=.int .u64 ((CC Y:Nat):Int)) V (λρ h=>Yl.CC underlying3 underlying44 (h _ _ V)) ?_);refine An (v:=.int .u64 ((((CC Y)*11400714819323198485)%2^64:Nat):Int)) V (λρ h=>Qb (h _ _ V) (h _ _ V)) (C 4 V ?_);refine EF 9 [bk] ⟨⟨0,_,V⟩,trivial⟩ U λK=>A5 K V [0,1] V (JG.fd 2 K underlying46 AK V V V V ?_);refine Ib 3 K 1 0 U Bb ?_;refine A5 K V [4,5] V (JG.fd 6 K underlying46 ET V V V V ?_);refine Ib 7 K 0 0 U He ?_;refine AU 8 K V V (λρ h s' Z=>Yl.len V underlying22 (h _ _ V)) (De [9] ?_);let⟨O,a5,a6⟩:=bs a4;refine C 2 V (Fg [bX bk #[sV a1 p0.1 c2,iV Y,.int .u64 ((p0.2.2:Nat):Int)] 46] [(0,Ar bk 0),(3,.int .u64 ((O:Nat):Int))] (λbw aw ay=>?_) (λaz=>?_));refine C 5 V (JL.fd underlying46 KX V V V ?_);refine An (v:=.int .u64 ((p0.2.2:Nat):Int)) V (λρ h=>Yl.load ON (h _ _ V) (B8 (j:=0) (off:=2) ay V V)) (C 1 V ?_);refine An (v:=.int .u64 (((p0.2.2 ^^^ O)%2^64:Nat):Int)) V (λρ h=>L3 (h _ _ V) (h _ _ V)) (An (v:=.int .u64 (((((p0.2.2 ^^^ O)%2^64)*18397679294719823053)%2^64:Nat):Int)) V (λρ h=>Qb (h _ _ V) (h _ _ V)) ?_);refine C 1 V (JL.fd underlying46 KX V V V ?_);refine JS.sx 0 ay KX λac=>?_;refine C 2 V (EF 11 [bk] ⟨⟨0,_,V⟩,trivial⟩ ac λK=>?_);refine A5 K V [0,1,2] V (JG.fd 3 K underlying46 KX V V V V ?_);refine Ib 4 K 2 0 ac ON ?_;refine A5 K V [5,6] V (JG.fd 7 K underlying46 KX V V V V ?_);refine Ib 8 K 2 0 ac ON ?_;refine AU (v:=.int .u64 ((((((p0.2.2 ^^^ O)%2^64)*18397679294719823053)%2^64)>>>33:Nat):Int)) 9 K V V (λρ h s' Z=>LX 33 (h _ _ V) (h _ _ V) (by decide)) (AU (v:=.int .u64 (((((((p0.2.2 ^^^ O)%2^64)*18397679294719823053)%2^64) ^^^ (((((p0.2.2 ^^^ O)%2^64)*18397679294719823053)%2^64)>>>33))%2^64:Nat):Int)) 10 K V V (λρ h s' Z=>L3 (h _ _ V) (h _ _ V)) ?_);refine De [11,12,13] (C 1 V ?_);refine JL.fd underlying46 KX V V V (JS.sx 0 ac KX λa0=>?_);refine C 5 V (JL.fd underlying46 KX V V V ?_);refine An (v:=.int .u64 (((((((p0.2.2 ^^^ O)%2^64)*18397679294719823053)%2^64) ^^^ (((((p0.2.2 ^^^ O)%2^64)*18397679294719823053)%2^64)>>>33))%2^64:Nat):Int)) V (λρ h=>Yl.load ON (h _ _ V) (B8 (j:=0) (off:=2) a0 V V)) (An (v:=.int .u64 (((((((((p0.2.2 ^^^ O)%2^64)*18397679294719823053)%2^64) ^^^ (((((p0.2.2 ^^^ O)%2^64)*18397679294719823053)%2^64)>>>33))%2^64)*14181476777654086739)%2^64:Nat):Int)) V (λρ h=>Qb (h _ _ V) (h _ _ V)) ?_);refine C 6 V (An (v:=.int .u64 ((((((((((p0.2.2 ^^^ O)%2^64)*18397679294719823053)%2^64) ^^^ (((((p0.2.2 ^^^ O)%2^64)*18397679294719823053)%2^64)>>>33))%2^64)*14181476777654086739)%2^64)>>>29:Nat):Int)) V (λρ h=>LX 29 (h _ _ V) (h _ _ V) (by decide)) ?_);refine An (v:=.int .u64 (((((((((((p0.2.2 ^^^ O)%2^64)*18397679294719823053)%2^64) ^^^ (((((p0.2.2 ^^^ O)%2^64)*18397679294719823053)%2^64)>>>33))%2^64)*14181476777654086739)%2^64) ^^^ (((((((((p0.2.2 ^^^ O)%2^64)*18397679294719823053)%2^64) ^^^ (((((p0.2.2 ^^^ O)%2^64)*18397679294719823053)%2^64)>>>33))%2^64)*14181476777654086739)%2^64)>>>29))%2^64:Nat):Int)) V (λρ h=>L3 (h _ _ V) (h _ _ V)) (An (v:=.int .u64 ((((((((((((p0.2.2 ^^^ O)%2^64)*18397679294719823053)%2^64) ^^^ (((((p0.2.2 ^^^ O)%2^64)*18397679294719823053)%2^64)>>>33))%2^64)*14181476777654086739)%2^64) ^^^ (((((((((p0.2.2 ^^^ O)%2^64)*18397679294719823053)%2^64) ^^^ (((((p0.2.2 ^^^ O)%2^64)*18397679294719823053)%2^64)>>>33))%2^64)*14181476777654086739)%2^64)>>>29))%2^64)>>>11:Nat):Int)) V (λρ h=>LX 11 (h _ _ V) (h _ _ V) (by decide)) ?_);refine C 2 V ?_;cases a6;exact AW func43 V V (a2 aw V ⟨a1,c2,V,V,(al.M aw)⟩ a0);refine AX a5 (λa7 a8=>?_) (λa7 a9=>?_);refine EF 14 [bk] ⟨⟨0,_,V⟩,trivial⟩ U λK=>A5 K V [0,1,2] V (JG.fd 3 K underlying46 ET V V V V ?_);refine Ib 4 K 0 0 U He ?_;refine A5 K V [5,6] V (JG.fd 7 K underlying46 AK V V V V ?_);refine Ib 8 K 1 0 U Bb ?_;let⟨bx,bb,be⟩:=bs a8;refine AU 9 K V V (λρ h s' Z=>EB (h _ _ V) (h _ _ V) bb) ?_;let⟨ag,bi,bn⟩:=bs be;refine Ew 10 al bi K underlying22 AK ?_;rintro bz b0 _ rfl bo;refine JG.lp 11 K 0 bo U ⟨⟨0,_,V⟩,trivial⟩ Bb ?_;refine AU (v:=.int .u64 ((CC ag:Nat):Int)) 12 K V V (λρ h s' Z=>Yl.CC underlying3 underlying44 (h _ _ V)) (AU (v:=.int .u64 ((((CC ag)*14029467366897019727)%2^64:Nat):Int)) 13 K V V (λρ h s' Z=>Qb (h _ _ V) (h _ _ V)) ?_);refine De [14,15] (An (v:=.int .u64 ((((((CC Y)*11400714819323198485)%2^64) ^^^ (((CC ag)*14029467366897019727)%2^64))%2^64:Nat):Int)) V (λρ h=>L3 (h _ _ V) (h _ _ V)) ?_);refine C 2 V ?_;cases bn;exact az AS U V;refine JL.skip ?_;cases a9;exact az AS U V
def f36(fu_:Nat)(p0:Cl)(p1:Int):Option (Int×(Cl)):=(f83 fu_ p0).bind λK=>if p1<1 then(some (0,K.2)) else((QX K.1 ((CC p1+1)%2^64)).bind λO=>some (Ke O,K.2))
variable{p2:Int}
theorem Lf(aq:Ao rI E a1 c2 p0.1){r:Int×(Cl)}(K:f36 fu_ p0 p2=some r):AZ J 16 [Ar bk 0,iV p2] E [(bk,.cells #[sV a1 p0.1 c2,iV p0.2.1,.int .u64 ((p0.2.2:Nat):Int)] 46 (0,0))] (λw E' B'=>∃(O:As) (U:Nat),w=iV r.1/\B'=[(bk,.cells #[sV O r.2.1 U,iV r.2.2.1,.int .u64 ((r.2.2.2:Nat):Int)] 46 (0,0))]/\Ao rI E' O U r.2.1):=by
 refine Bq func16 λQ a5 cs H av Y=>?_;unfold f36 at K;let⟨a6,aw,ay⟩:=bs K;refine C 7 V (Cg 0 (lU aq aw) V V (A4 func43 V) av V ?_);rintro _ a7 _ Z ⟨ac,ag,rfl,rfl,al⟩ am;refine C 8 V (AX ay (λaz a0=>?_) (λaz a2=>?_));refine C 4 V ?_;cases a0;exact AW func16 V V (Y Z V ⟨ac,ag,V,V,al⟩ am);refine C 5 V (An (v:=.int .u64 ((CC p2:Nat):Int)) V (λρ h=>Yl.CC underlying3 underlying44 (h _ _ V)) ?_);refine An (v:=.int .u64 (((CC p2+1)%2^64:Nat):Int)) V (λρ h=>eY (h _ _ V) (h _ _ V)) ?_;let⟨ap,a3,a4⟩:=bs a2;refine An (v:=.int .u64 ((ap:Nat):Int)) V (λρ h=>cd (h _ _ V) (h _ _ V) a3) (An (v:=iV (Ke ap)) V (λρ h=>Xj underlying44 underlying3 (h _ _ V)) ?_);refine C 2 V ?_;cases a4;exact AW func16 V V (Y Z V ⟨ac,ag,V,V,al⟩ am)
def f37(fu_:Nat)(p0:Cl)(p1:Int)(p2:Int):Option (Int×(Cl)):=(Au (p2 - p1)).bind λO=>(f36 fu_ p0 O).bind λK=>(Au (p1+K.1)).bind λU=>some (U,K.2)
theorem TA{p1:Int}(Y:Ao rI E a1 c2 p0.1){r:Int×(Cl)}(K:f37 fu_ p0 p1 p2=some r):AZ J 14 [Ar bk 0,iV p1,iV p2] E [(bk,.cells #[sV a1 p0.1 c2,iV p0.2.1,.int .u64 ((p0.2.2:Nat):Int)] 46 (0,0))] (λw E' B'=>∃(O:As) (U:Nat),w=iV r.1/\B'=[(bk,.cells #[sV O r.2.1 U,iV r.2.2.1,.int .u64 ((r.2.2.2:Nat):Int)] 46 (0,0))]/\Ao rI E' O U r.2.1):=by
 refine Bq func14 λQ a3 cs H Z ac=>?_;unfold f37 at K;let⟨a4,ag,al⟩:=bs K;refine C 10 V (BY ag V V V ?_);let⟨a5,am,ap⟩:=bs al;refine Cg 0 (Lf Y am) V V KS Z V ?_;rintro _ a6 _ aq ⟨av,aw,rfl,rfl,ay⟩ az;let⟨a7,a0,a2⟩:=bs ap;refine Bt a0 V V V (C 2 V ?_);cases a2;exact AW func14 V V (ac aq V ⟨av,aw,V,V,ay⟩ az)
def f32(fu_:Nat)(p0:Cl)(p1:Int):Option (Bool×(Cl)):=(Au (p1 - 1)).bind λO=>(f36 fu_ p0 O).bind λK=>some (decide (K.1=0),K.2)
theorem lu(Y:Ao rI E a1 c2 p0.1){r:Bool×(Cl)}(K:f32 fu_ p0 p2=some r):AZ J 15 [Ar bk 0,iV p2] E [(bk,.cells #[sV a1 p0.1 c2,iV p0.2.1,.int .u64 ((p0.2.2:Nat):Int)] 46 (0,0))] (λw E' B'=>∃(O:As) (U:Nat),w=.bool r.1/\B'=[(bk,.cells #[sV O r.2.1 U,iV r.2.2.1,.int .u64 ((r.2.2.2:Nat):Int)] 46 (0,0))]/\Ao rI E' O U r.2.1):=by
 refine Bq func15 λQ a0 cs H Z ac=>?_;unfold f32 at K;let⟨a2,ag,al⟩:=bs K;refine C 8 V (BY ag V V V ?_);let⟨a3,am,ap⟩:=bs al;refine Cg 0 (Lf Y am) V V KS Z V ?_;rintro _ a4 _ aq ⟨av,aw,rfl,rfl,ay⟩ az;refine C 3 V ?_;cases ap;exact AW func15 V V (ac aq V ⟨av,aw,V,V,ay⟩ az)
def f81(fu_:Nat)(p0:Cl)(p1:List Int):Option (Int×(Cl)):=(Au ((p1.length:Int) - 1)).bind λO=>(f36 fu_ p0 O).bind λK=>(ix p1 K.1).bind λU=>some (U,K.2)
theorem Ys{K:As}{kf:Nat}(ag:Ao rI E a1 c2 p0.1)(al:Ao rI E K kf p1){r:Int×(Cl)}(U:f81 fu_ p0 p1=some r):AZ J 17 [Ar bk 0,sV K p1 kf] E [(bk,.cells #[sV a1 p0.1 c2,iV p0.2.1,.int .u64 ((p0.2.2:Nat):Int)] 46 (0,0))] (λw E' B'=>∃(Y:As) (Z:Nat),w=iV r.1/\B'=[(bk,.cells #[sV Y r.2.1 Z,iV r.2.2.1,.int .u64 ((r.2.2.2:Nat):Int)] 46 (0,0))]/\Ao rI E' Y Z r.2.1):=by
 refine Bq func17 λQ a7 cs H am ap=>?_;unfold f81 at U;refine C 9 V (JL.ln underlying22 V V V ?_);let⟨a8,aq,av⟩:=bs U;refine BY aq V V V ?_;let⟨a9,aw,ay⟩:=bs av;refine Cg 0 (Lf ag aw) V V KS am V ?_;rintro _ bb _ ac ⟨az,a0,rfl,rfl,a2⟩ a3;let⟨be,a4,a5⟩:=bs ay;refine JS.ix (al.M ac) a4 underlying22 AK ?_;rintro bi bn _ rfl a6;refine CH 0 a6 Bb V V V (C 2 V ?_);cases a5;exact AW func17 V V (ap ac V ⟨az,a0,V,V,a2⟩ a3)
def f40(fu_:Nat)(p0:Cl)(p1:Int):Option (Dq×(Cl)):=(Au (p1 - 1)).bind λZ=>(f36 fu_ p0 Z).bind λK=>(f37 fu_ K.2 1 9).bind λO=>(f81 fu_ O.2 ([1,2,2,3,O.1]:List Int)).bind λU=>(Au (p1 - 1)).bind λac=>(f37 fu_ U.2 1 ac).bind λY=>(Au (K.1+Y.1)).bind λag=>(Q5 ag p1).bind λal=>some ((K.1,al,U.1),Y.2)
theorem Ym(ay:Ao rI E a1 c2 p0.1){r:Dq×(Cl)}(ac:f40 fu_ p0 p2=some r):AZ J 18 [Ar bk 0,iV p2] E [(bk,.cells #[sV a1 p0.1 c2,iV p0.2.1,.int .u64 ((p0.2.2:Nat):Int)] 46 (0,0))] (λw E' B'=>∃(ag:As) (al:Nat),w=.agg #[iV r.1.1,iV r.1.2.1,iV r.1.2.2]/\B'=[(bk,.cells #[sV ag r.2.1 al,iV r.2.2.1,.int .u64 ((r.2.2.2:Nat):Int)] 46 (0,0))]/\Ao rI E' ag al r.2.1):=by
 refine Bq func18 λQ c9 cs H az a0=>?_;unfold f40 at ac;refine C 2 V (B5 az BU λdd a2=>?_);let⟨dj,a3,a4⟩:=bs ac;refine C 5 V (BY a3 V V V ?_);let⟨O,a5,a6⟩:=bs a4;refine Cg 0 (Lf ay a5) V V KS a2 V ?_;rintro _ ea _ a7 ⟨eb,ec,rfl,rfl,a8⟩ a9;let⟨am,bb,be⟩:=bs a6;refine C 2 V (Cg 0 (TA a8 bb) V V Ro a9 V ?_);rintro _ ed _ bi ⟨ee,ef,rfl,rfl,bn⟩ bo;refine Gq (pp:=rI) [iV 1,iV 2,iV 2,iV 3,iV am.1] [1,2,2,3,am.1] V V V underlying22 AK CR (by decide) V V V ⟨V,V,V,V,V,trivial⟩ bo λeg ej bv bw=>Ck 2 bv bw V λek ap bx bz=>?_;let⟨U,b0,b1⟩:=bs be;refine Cg 0 (Ys (bn.M ap) bx b0) V V (A4 func17 V) bz V ?_;rintro _ el _ b2 ⟨em,eo,rfl,rfl,b3⟩ b4;refine An (v:=.agg #[iV O.1,iV 0,iV U.1]) V (λρ h=>C4 [(0,1),(1,1),(2,1)] h BU underlying52 ⟨V,A0 type3,V,A0 type3,V,A0 type3,trivial⟩ V V) (B5 b4 BU λaq b5=>?_);refine JS.sx 3 b5 Bv λZ=>?_;refine C 2 V (EF 8 [aq] ⟨⟨3,_,V⟩,trivial⟩ Z λK=>?_);refine JG.fd 0 K underlying52 AK V V V V (Ib 1 K 0 3 Z Bb ?_);refine A5 K V [2,3] V ?_;let⟨b6,ca,cc⟩:=bs b1;refine AU 4 K V V (λρ h s' ce=>EB (h _ _ V) (h _ _ V) ca) (DW 7 K V V ?_);let⟨ep,ci,co⟩:=bs cc;refine R4 (i:=5) (vs:=[Ar bk 0,iV 1,iV b6]) 0 (by exact λx cp=>H7.mem (bks:=[aq]) (by exact⟨⟨3,_,rfl⟩,trivial⟩) x (by simpa [AG] using cp)) (TA b3 ci) (by decide+kernel) V V V Ro V Z V ?_;rintro _ er _ ct ⟨cw,cy,rfl,rfl,c0⟩ c1;let⟨eu,c3,c4⟩:=bs co;refine AU 6 K V V (λρ h s' ce=>DX (h _ _ V) (h _ _ V) c3) (De [8,9,10] ?_);let⟨Y,c5,c6⟩:=bs c4;refine An (v:=iV Y) V (λρ h=>gB (h _ _ V) (h _ _ V) c5) (JL.fd underlying52 AK V V V ?_);refine JS.sx 3 c1 AK λav=>?_;refine C 3 V (An V (λρ h=>Jc (vs:=[iV O.1,iV Y,iV U.1]) Ei Bv (h _ _ V) (HV (off:=0) 3 av V V)) ?_);refine JS.sx 1 av Bv λc7=>?_;refine JL.done (JS.drop 3 c7 V λaw=>?_);cases c6;refine JL.ret (v:=.agg #[iV O.1,iV Y,iV U.1]) V V (BL.list func18 V (vs:=[.agg #[iV O.1,iV Y,iV U.1]]) ⟨⟨_,V,Ld.many (vs:=[iV O.1,iV Y,iV U.1]) Ei Bv (HV (off:=0) 1 aw V V)⟩,trivial⟩) (Fe 1 aw V λc8=>?_);exact a0 ((((a7.Ad bi).Ad ap).Ad b2).Ad ct) V ⟨cw,cy,V,V,c0⟩ c8
end Pal
namespace Pal
open Go Go.Conc
variable {P:Program}{J:Judge P}{Q:Gs_}{b:Frame}{n:Nat}{ds:Ld_}{ops:Ao_}{cs:Lf_}{fuel:Nat}{D:Nat->Bool}{listed:Array Bool}{L:Env}{s:St}{E' H:LH}{S:List Seg}
variable {d:Option Tmp}{t u ty e:TypeId}{p:String}{af:Ae_}{g:On_}{v:Value}{i:Nat}{kd:IntKind}
section
variable {k:Li_}{m:Nat}{E:LH}
variable {x y:Operand}
theorem Take.XL{f:FuncId}{args:Array Operand}{ats:Array TypeId}{vs:Lv_}{seg:Seg}{R:Value->LH->Seg->Prop}(j:Nat)(O:Av E H S)(ap:AZ J f vs E seg R)
  (aq:ops[i]?=some ⟨d,.call ⟨.value (.func f),args,ats⟩,ty,p,af,g⟩) (hw:A2 L ops ⟨d,.call ⟨.value (.func f),args,ats⟩,ty,p,af,g⟩=some true) (av:Bz n d=true) (hb:El P f=true) (aw:evs L args.toList=some vs) (U:S[j]?=some seg)
  (ay:∀v E' seg',Le E E'->R v E' seg'->Av E' H (S.set j seg')->A3 J Q b n ds ops k cs m Ec fuel (Bp listed i) (AA L d v) (Ak E' H (S.set j seg'))):
  Take J Q b n ds ops k cs m Ec fuel listed L (Ak E H S) i:=by
 have Y:S.flatten.Perm (seg++(S.set j []).flatten):=(EU (seg':=seg) U).1.trans r0;have Z:Nd E H (seg++(S.set j []).flatten):=Nd.perm O Y;have az:Ak E H S=mk E (By (S.set j []).flatten H) seg:=by
  rw[show Ak E H S=mk E H S.flatten from rfl,FK O Y];unfold mk;rw[Gm]
 have ac:=Fj.Mk (ap (By (S.set j []).flatten H) (Nd.front Z)) (by rintro v s' ⟨E',B',_,_,_,rfl⟩;rfl);rw[← az] at ac;refine⟨_,aq,by simp[EN],av,hw,λρ ag=>?_⟩;have a0:args.map ρ=vs.toArray:=by
  rw[← GF ag aw];apply s5;simp
 have a1:ρ (.func f)=.func (.func f) #[] #[]:=ag _ _ V;simp only[execOp,resolve,bind,Sem.bind,Deferred.ofValue,a1,pure,invoke];have e: #[]++args.map ρ++ #[]=vs.toArray:=by rw[a0];simp
 rw[e];refine Kl hb ?_;rw[MI];refine⟨_,ac,?_⟩;rintro v be ⟨⟨E',B',hle,a2,a3,rfl⟩,w,a4⟩;have e2:mk E' (By (S.set j []).flatten H) B'=mk E' H (B'++(S.set j []).flatten):=by unfold mk;rw[Gm]
 have a5:Nd E H (S.set j []).flatten:=by
  have:=Z;rw[Nd.iff] at this ⊢;rw[sB,sR] at this;exact⟨this.1.2.1,λq a6=>this.2 q (sc _ a6)⟩
 have a7:Nd E' H (S.set j []).flatten:=a5.grow λx K=>by
  have a8:=a4.d x K;have a9:By B' (By (S.set j []).flatten H) x=none:=a8;exact(IA a9).1
 have al:Nd E' H (B'++(S.set j []).flatten):=Nd.glue a3 a7;have am:(B'++(S.set j []).flatten).Perm (S.set j B').flatten:=r0.trans (EU U).2.symm;have bb:Av E' H (S.set j B'):=Nd.perm al am;rw[e2,FK al am];exact⟨V,λx o K=>hle _ _ K,ay v E' B' hle a2 bb⟩
end
open Go.Proofs Go.Proofs.Tryz
variable {J:Judge Tryz.prog}{E:LH}
def Qw(fu_:Nat)(Y:Bool×(Cl))(K:(List Int)×Int×Nat×(List Int)×Int):Option (Bm ((List Int)×Int×Nat×(List Int)×Int) ((List Int)×Cl)):=if 0<K.2.2.2.2 then(Option.bind (if Y.1=true then((room K.2.2.2.1 1).bind λZ=>some (Z,K.1,K.2.1,K.2.2.1)) else((f81 fu_ (K.1,K.2.1,K.2.2.1) ([1,1,2,2,3,5]:List Int)).bind λO=>(room K.2.2.2.1 O.1).bind λac=>some (ac,O.2.1,O.2.2.1,O.2.2.2))) λU=>(Au (K.2.2.2.2 - 1)).bind λag=>some (.more (U.2.1,U.2.2.1,U.2.2.2,U.1,ag))) else(some (.done (K.2.2.2.1,K.1,K.2.1,K.2.2.1)))
def Qm(fu_:Nat)(Y:Int×(Cl))(Z:Bool×(Cl))(K:Bs×(List Int)×Int×Nat×Int):Option (Bm (Bs×(List Int)×Int×Nat×Int) ((List Int)×Int×Nat×Bs)):=if K.2.2.2.2<Y.1 then((f36 fu_ (K.2.1,K.2.2.1,K.2.2.2.1) 3).bind λO=>Option.bind (iter (Qw fu_ Z) fu_ (O.2.1,O.2.2.1,O.2.2.2,[],O.1)) λU=>(room K.1 U.1).bind λac=>(Au (K.2.2.2.2+1)).bind λag=>some (.more (ac,U.2.1,U.2.2.1,U.2.2.2,ag))) else(some (.done (K.2.1,K.2.2.1,K.2.2.2.1,K.1)))
def Qn(fu_:Nat)(U:Int×(Cl))(K:AH×(List Int)×Int×Nat×Int):Option (Bm (AH×(List Int)×Int×Nat×Int) ((List Int)×Int×Nat×AH)):=if 0<K.2.2.2.2 then((f40 fu_ (K.2.1,K.2.2.1,K.2.2.2.1) U.1).bind λO=>(Ex K.1 ([O.1]:AH)).bind λY=>(Au (K.2.2.2.2 - 1)).bind λZ=>some (.more (Y,O.2.1,O.2.2.1,O.2.2.2,Z))) else(some (.done (K.2.1,K.2.2.1,K.2.2.2.1,K.1)))
def f31(fu_:Nat)(p0:Cl)(p1:Int)(p2:Int):Option (Bh×(Cl)):=(f37 fu_ p0 2 p1).bind λZ=>(f32 fu_ Z.2 3).bind λK=>Option.bind (iter (Qm fu_ Z K) fu_ ([],K.2.1,K.2.2.1,K.2.2.2,0)) λO=>(f36 fu_ (O.1,O.2.1,O.2.2.1) p2).bind λU=>Option.bind (iter (Qn fu_ Z) fu_ ([],U.2.1,U.2.2.1,U.2.2.2,U.1)) λY=>some ((O.2.2.2,Y.2.2.2),(Y.1,Y.2.1,Y.2.2.1))
theorem lh{bk:Nat}{a1:As}{c2:Nat}{p0:Cl}{p1 p2:Int}(hq:Ao rI E a1 c2 p0.1){fu_:Nat}{r:Bh×(Cl)}(e3:f31 fu_ p0 p1 p2=some r):AZ J 5 [Ar bk 0,iV p1,iV p2] E [(bk,.cells #[sV a1 p0.1 c2,iV p0.2.1,.int .u64 ((p0.2.2:Nat):Int)] 46 (0,0))] (λw E' B'=>∃(e4:As) (e5:Nat) (e6:As) (e7:Nat) (e8:As) (ff:Nat),w=.agg #[sV e4 r.1.1 e5,sV e6 r.1.2 e7]/\B'=[(bk,.cells #[sV e8 r.2.1 ff,iV r.2.2.1,.int .u64 ((r.2.2.2:Nat):Int)] 46 (0,0))]/\Ao (rL rI) E' e4 e5 r.1.1/\Ao AF E' e6 e7 r.1.2/\Ao rI E' e8 ff r.2.1):=by
 refine Bq func5 λQ n0 cs H hr hs=>?_;unfold f31 at e3;refine C 2 V (B5 hr KT λO ht=>?_);refine C 3 V (B5 ht KT λU hu=>?_);let⟨az,hv,hw⟩:=bs e3;refine C 5 V (Cg 0 (TA hq hv) V V Ro hu V ?_);rintro _ n3 _ hx ⟨hy,hz,rfl,rfl,hA⟩ hB;refine BS (S':=[[(bk,.cells #[sV hy az.2.1 hz,iV az.2.2.1,.int .u64 ((az.2.2.2:Nat):Int)] 46 (0,0))],[(O,.cells #[nS,nS] 28 (0,0))],[(U,.cells #[nS,nS] 28 (0,0))]]) V hB λhC=>?_;let⟨b5,hD,hE⟩:=bs hw;refine C 5 V (Cg 0 (lu hA hD) V V (A4 func15 V) hC V ?_);rintro _ dj _ hF ⟨hG,hH,rfl,rfl,hI⟩ hK;let⟨Y,hL,hM⟩:=bs hE;refine C 7 V (Bx (λL s=>∃(b6:LH) (ea:As) (eb:Nat) (ac:As) (ag:Nat) (ay:Seg),Jn dj H b6 [bX bk #[sV ea Y.1 eb,iV Y.2.1,.int .u64 ((Y.2.2.1:Nat):Int)] 46,bX O #[nS,nS] 28,bX U #[sV ac Y.2.2.2 ag,nS] 28,ay] [(0,Ar bk 0),(2,iV p2),(6,Ar O 0),(7,Ar U 0),(8,iV az.1)] L s (Ao rI b6 ea eb Y.1/\OL 22 (rL rI) b6 ac ag ay Y.2.2.2)) ?_ ?_);rintro _ _ ⟨b6,ea,eb,ac,ag,ay,rfl,rfl,hN,hO,hP,hQ⟩;let⟨n4,hR,hS⟩:=bs hM;refine C 5 V (Cg 0 (Lf hP hR) V V KS hO V ?_);rintro _ ec _ fk ⟨hT,hU,rfl,rfl,hV⟩ hW;let⟨al,hX,hY⟩:=bs hS;refine C 2 V (Bx (λL s=>∃(ca:LH) (bv:As) (bw:Nat) (a2:As) (a3:Nat) (cc:Seg),Jn ec H ca [bX bk #[sV bv al.1 bw,iV al.2.1,.int .u64 ((al.2.2.1:Nat):Int)] 46,bX O #[nS,nS] 28,bX U #[sV ac Y.2.2.2 ag,sV a2 al.2.2.2 a3] 28,ay,cc] [(6,Ar O 0),(7,Ar U 0)] L s (Ao rI ca bv bw al.1/\OL 52 AF ca a2 a3 cc al.2.2.2)) ?_ ?_);rintro _ _ ⟨ca,bv,bw,a2,a3,cc,rfl,rfl,fl,fm,h0,h1⟩;refine C 2 V (An V (λρ h=>Jc (vs:=[sV ac Y.2.2.2 ag,sV a2 al.2.2.2 a3]) EK CJ (h _ _ V) (HV (off:=0) 2 fm V V)) ?_);refine JS.sx 1 fm CJ λh2=>?_;refine BS (S':=[[(bk,.cells #[sV bv al.1 bw,iV al.2.1,.int .u64 ((al.2.2.1:Nat):Int)] 46 (0,0))],[(O,.cells #[sV ac Y.2.2.2 ag,sV a2 al.2.2.2 a3] 28 (0,0))],[(U,.cells #[sV ac Y.2.2.2 ag,sV a2 al.2.2.2 a3] 28 (0,0))],ay,cc]) V h2 λh3=>JL.done (Ck 3 (hQ.M (fk.Ad fl)) h3 V λn6 ed h4 h5=>?_);refine Ck 4 (h1.M ed) h5 V λn7 ee h6 h7=>JS.drop 2 h7 V λfo=>?_;cases hY;refine JL.ret (v:=.agg #[sV ac Y.2.2.2 ag,sV a2 al.2.2.2 a3]) V V (BL.list func5 V (vs:=[.agg #[sV ac Y.2.2.2 ag,sV a2 al.2.2.2 a3]]) ⟨⟨_,V,Ld.many (vs:=[sV ac Y.2.2.2 ag,sV a2 al.2.2.2 a3]) EK CJ (HV (off:=0) 1 fo V V)⟩,trivial⟩) (Fe 1 fo V λh8=>?_);exact hs ((((((hx.Ad hF).Ad hN).Ad fk).Ad fl).Ad ed).Ad ee) V ⟨ac,ag,a2,a3,bv,bw,V,V,(h4.M ee),h6,(h0.M (ed.Ad ee))⟩ h8;intro h9;refine JL.block (Ch hX (λL s ap=>∃(bx:LH) (a4:As) (a5:Nat) (a7:Seg) (ce:As) (ci:Nat),Jn ec H bx [bX bk #[sV ce ap.2.1 ci,iV ap.2.2.1,.int .u64 ((ap.2.2.2.1:Nat):Int)] 46,bX O #[nS,nS] 28,bX U #[sV ac Y.2.2.2 ag,sV a4 ap.1 a5] 28,ay,a7] [(0,Ar bk 0),(6,Ar O 0),(7,Ar U 0),(8,iV az.1),(13,iV ap.2.2.2.2)] L s (OL 52 AF bx a4 a5 a7 ap.1/\Ao rI bx ce ci ap.2.1)) ⟨ec,none,0,[],hT,hU,V,V,AS,hW,OL.nil,hV⟩ ?_);rintro _ _ ap ⟨bx,a4,a5,a7,ce,ci,rfl,rfl,co,cp,ct,ef⟩ ia ⟨n8,bz⟩ eg;have fs:=bz;unfold Qn at fs;refine C 6 V (AX fs (λih ii=>?_) (λih io=>?_));refine C 3 V (Fu 6 λfv=>?_);refine JG.fd 0 fv underlying28 HU V V V V (A5 fv V [2,3] V ?_);let⟨K,fw,ej⟩:=bs ii;refine GU (i:=1) (j:=4) V (by decide+kernel) ?_ ?_;refine Take.y0 (v:=sV a4 ap.1 a5) V V V (λρ h=>Yl.load Kj (h _ _ V) (B8 (j:=2) cp V V)) (JG.one (i:=4) V (by decide+kernel) ?_);refine Take.XL (vs:=[Ar bk 0,iV az.1]) 0 cp (Ym ef fw) V V V (A4 func18 V) V V ?_;rintro _ n9 _ fN ⟨ek,el,rfl,rfl,i0⟩ i1;refine JG.one (i:=5) V (by decide+kernel) (Take.FO (pp:=AF) [.agg #[iV K.1.1,iV K.1.2.1,iV K.1.2.2]] ([K.1]:AH) i1 V V V underlying26 Bv BU (by decide) V V V ⟨⟨_,_,V,V,⟨_,_,V,V,V⟩⟩,trivial⟩ λoa i3 i4 i5=>?_);refine De [6,7,8] (BS (S':=[[(bk,.cells #[sV ek K.2.1 el,iV K.2.2.1,.int .u64 ((K.2.2.2:Nat):Int)] 46 (0,0))],[(O,.cells #[nS,nS] 28 (0,0))],[(U,.cells #[sV ac Y.2.2.2 ag,sV a4 ap.1 a5] 28 (0,0))],ay,a7,i3]) V i5 λi6=>?_);refine Ck 5 i4 i6 V λi7 em i8 i9=>?_;let⟨gc,jg,jj⟩:=bs ej;refine JX (pp:=AF) 4 jg V V V V V V V underlying26 underlying26 Bv (Dc type52) BU V (by decide) (by decide) (ct.M (fN.Ad em)) i8 i9 V λge gg gh jp jt=>JL.fd underlying28 HU V V V (JS.sx 2 jt HU λjy=>?_);refine BS (S':=[[(bk,.cells #[sV ek K.2.1 el,iV K.2.2.1,.int .u64 ((K.2.2.2:Nat):Int)] 46 (0,0))],[(O,.cells #[nS,nS] 28 (0,0))],[(U,.cells #[sV ac Y.2.2.2 ag,sV ge gc gg] 28 (0,0))],ay,gh,[]]) V jy λj0=>?_;let⟨j1,kb,kc⟩:=bs jj;refine C 4 V (BY kb V V V ?_);refine C 2 V ?_;cases kc;exact Az (eg _ _ (gc,K.2.1,K.2.2.1,K.2.2.2,j1) ⟨i7,ge,gg,gh,ek,el,V,V,((co.Ad fN).Ad em),j0,jp,(i0.M em)⟩ bz) V;refine Take.XL (vs:=[Ar bk 0,iV az.1]) 0 cp (Ym ef fw) V V V (A4 func18 V) V V ?_;rintro _ ob _ cw ⟨be,bi,rfl,rfl,gt⟩ eo;refine GU (i:=1) (j:=5) V (by decide+kernel) ?_ ?_;refine Take.y0 (v:=sV a4 ap.1 a5) V V V (λρ h=>Yl.load Kj (h _ _ V) (B8 (j:=2) eo V V)) (JG.one (i:=5) V (by decide+kernel) ?_);refine Take.FO (pp:=AF) [.agg #[iV K.1.1,iV K.1.2.1,iV K.1.2.2]] ([K.1]:AH) eo V V V underlying26 Bv BU (by decide) V V V ⟨⟨_,_,V,V,⟨_,_,V,V,V⟩⟩,trivial⟩ λoc ke kf ki=>De [6,7,8] (BS (S':=[[(bk,.cells #[sV be K.2.1 bi,iV K.2.2.1,.int .u64 ((K.2.2.2:Nat):Int)] 46 (0,0))],[(O,.cells #[nS,nS] 28 (0,0))],[(U,.cells #[sV ac Y.2.2.2 ag,sV a4 ap.1 a5] 28 (0,0))],ay,a7,ke]) V ki λkm=>?_);refine Ck 5 kf km V λkn ep ko kp=>?_;let⟨gE,ks,kv⟩:=bs ej;refine JX (pp:=AF) 4 ks V V V V V V V underlying26 underlying26 Bv (Dc type52) BU V (by decide) (by decide) (ct.M (cw.Ad ep)) ko kp V λgO g0 g1 k0 k1=>JL.fd underlying28 HU V V V (JS.sx 2 k1 HU λk2=>?_);refine BS (S':=[[(bk,.cells #[sV be K.2.1 bi,iV K.2.2.1,.int .u64 ((K.2.2.2:Nat):Int)] 46 (0,0))],[(O,.cells #[nS,nS] 28 (0,0))],[(U,.cells #[sV ac Y.2.2.2 ag,sV gO gE g0] 28 (0,0))],ay,g1,[]]) V k2 λk3=>?_;let⟨k4,k5,k6⟩:=bs kv;refine C 4 V (BY k5 V V V ?_);refine C 2 V ?_;cases k6;exact Az (eg _ _ (gE,K.2.1,K.2.2.1,K.2.2.2,k4) ⟨kn,gO,g0,g1,be,bi,V,V,((co.Ad cw).Ad ep),k3,k0,(gt.M ep)⟩ bz) V;refine Take.FO (pp:=AF) [.agg #[iV K.1.1,iV K.1.2.1,iV K.1.2.2]] ([K.1]:AH) eo V V V underlying26 Bv BU (by decide) V V V ⟨⟨_,_,V,V,⟨_,_,V,V,V⟩⟩,trivial⟩ λod k7 k9 g3=>JG.one (i:=1) V (by decide+kernel) (Take.y0 (v:=sV a4 ap.1 a5) V V V (λρ h=>Yl.load Kj (h _ _ V) (B8 (j:=2) g3 V V)) ?_);refine De [6,7,8] (BS (S':=[[(bk,.cells #[sV be K.2.1 bi,iV K.2.2.1,.int .u64 ((K.2.2.2:Nat):Int)] 46 (0,0))],[(O,.cells #[nS,nS] 28 (0,0))],[(U,.cells #[sV ac Y.2.2.2 ag,sV a4 ap.1 a5] 28 (0,0))],ay,a7,k7]) V g3 λla=>?_);refine Ck 5 k9 la V λld er li lm=>?_;let⟨g4,ls,lw⟩:=bs ej;refine JX (pp:=AF) 4 ls V V V V V V V underlying26 underlying26 Bv (Dc type52) BU V (by decide) (by decide) (ct.M (cw.Ad er)) li lm V λg5 g6 g7 l3 l4=>JL.fd underlying28 HU V V V (JS.sx 2 l4 HU λl5=>?_);refine BS (S':=[[(bk,.cells #[sV be K.2.1 bi,iV K.2.2.1,.int .u64 ((K.2.2.2:Nat):Int)] 46 (0,0))],[(O,.cells #[nS,nS] 28 (0,0))],[(U,.cells #[sV ac Y.2.2.2 ag,sV g5 g4 g6] 28 (0,0))],ay,g7,[]]) V l5 λl6=>?_;let⟨ma,mb,mm⟩:=bs lw;refine C 4 V (BY mb V V V ?_);refine C 2 V ?_;cases mm;exact Az (eg _ _ (g4,K.2.1,K.2.2.1,K.2.2.2,ma) ⟨ld,g5,g6,g7,be,bi,V,V,((co.Ad cw).Ad er),l6,l3,(gt.M er)⟩ bz) V;refine JL.exit V ?_;cases io;obtain rfl:=ia _ bz;exact Az (h9 _ _ ⟨bx,ce,ci,a4,a5,a7,V,V,co,cp,ef,ct⟩) V;intro mp;refine JL.block (Ch hL (λL s Z=>∃(b0:LH) (aq:As) (av:Nat) (a0:Seg) (cy:As) (c0:Nat),Jn dj H b0 [bX bk #[sV cy Z.2.1 c0,iV Z.2.2.1,.int .u64 ((Z.2.2.2.1:Nat):Int)] 46,bX O #[nS,nS] 28,bX U #[sV aq Z.1 av,nS] 28,a0] [(0,Ar bk 0),(2,iV p2),(6,Ar O 0),(7,Ar U 0),(8,iV az.1),(9,.bool b5.1),(10,iV Z.2.2.2.2)] L s (OL 22 (rL rI) b0 aq av a0 Z.1/\Ao rI b0 cy c0 Z.2.1)) ⟨dj,none,0,[],hG,hH,V,V,AS,hK,OL.nil,hI⟩ ?_);rintro _ _ Z ⟨b0,aq,av,a0,cy,c0,rfl,rfl,g8,g9,ha,hb⟩ ms ⟨oe,eu⟩ mv;have hc:=eu;unfold Qm at hc;refine C 7 V (AX hc (λmH mI=>?_) (λmH mJ=>?_));let⟨og,mK,mL⟩:=bs mI;refine C 11 V (Cg 0 (Lf hb mK) V V KS g9 V ?_);rintro _ ew _ hd ⟨mM,mO,rfl,rfl,mP⟩ mQ;let⟨aw,mR,mS⟩:=bs mL;refine C 2 V (Bx (λL s=>∃(c1:LH) (c3:As) (c4:Nat) (ex:Seg) (b1:As) (b2:Nat),Jn ew H c1 [bX bk #[sV b1 aw.2.1 b2,iV aw.2.2.1,.int .u64 ((aw.2.2.2:Nat):Int)] 46,bX O #[nS,nS] 28,bX U #[sV aq Z.1 av,nS] 28,a0,ex] [(0,Ar bk 0),(2,iV p2),(6,Ar O 0),(7,Ar U 0),(8,iV az.1),(9,.bool b5.1),(10,iV Z.2.2.2.2),(11,sV c3 aw.1 c4)] L s (OL 3 rI c1 c3 c4 ex aw.1/\Ao rI c1 b1 b2 aw.2.1)) ?_ ?_);rintro _ _ ⟨c1,c3,c4,ex,b1,b2,rfl,rfl,he,hf,mT,mU⟩;refine JL.region (JL.fd underlying28 FI V V V ?_);refine An (v:=sV aq Z.1 av) V (λρ h=>Yl.load FX (h _ _ V) (B8 (j:=2) (off:=0) hf V V)) (C 1 V ?_);refine Ck 4 mT hf V λmV ey mW mX=>BS (S':=[[(bk,.cells #[sV b1 aw.2.1 b2,iV aw.2.2.1,.int .u64 ((aw.2.2.2:Nat):Int)] 46 (0,0))],[(O,.cells #[nS,nS] 28 (0,0))],[(U,.cells #[sV aq Z.1 av,nS] 28 (0,0))],a0,[]]) V mX λmY=>?_;let⟨mZ,m0,m1⟩:=bs mS;refine JS.app (pp:=(rL rI)) (v:=sV c3 aw.1 c4) (a:=aq) (c:=av) 3 m0 V V V V (λ_=>V) V (λ_=>V) V V V underlying25 underlying25 underlying25 ET (Dc type22) KV V (by decide) (by decide) (by decide) (by decide) (ha.M ((hd.Ad he).Ad ey)) ⟨_,_,V,mW⟩ mY V λoh m2 m3 m4 m5 m6=>JL.fd underlying28 FI V V V (JS.sx 2 m6 FI λm7=>?_);let⟨m9,na,nb⟩:=bs m1;refine C 4 V (Bt na V V V ?_);refine C 2 V ?_;cases nb;exact Az (mv _ _ (mZ,aw.2.1,aw.2.2.1,aw.2.2.2,m9) ⟨mV,m2,m3,m4,b1,b2,V,V,(((g8.Ad hd).Ad he).Ad ey),m7,m5,(mU.M ey)⟩ eu) V;intro nc;refine JL.block (Ch mR (λL s am=>∃(a8:LH) (a9:As) (bb:Nat) (bn:As) (bo:Nat) (b3:Seg),Jn ew H a8 [bX bk #[sV a9 am.1 bb,iV am.2.1,.int .u64 ((am.2.2.1:Nat):Int)] 46,bX O #[nS,nS] 28,bX U #[sV aq Z.1 av,nS] 28,a0,b3] [(0,Ar bk 0),(2,iV p2),(6,Ar O 0),(7,Ar U 0),(8,iV az.1),(9,.bool b5.1),(10,iV Z.2.2.2.2),(11,sV bn am.2.2.2.1 bo),(12,iV am.2.2.2.2)] L s (Ao rI a8 a9 bb am.1/\OL 3 rI a8 bn bo b3 am.2.2.2.1)) ⟨ew,mM,mO,none,0,[],V,V,AS,mQ,mP,OL.nil⟩ ?_);rintro _ _ am ⟨a8,a9,bb,bn,bo,b3,rfl,rfl,hg,eA,eC,eN⟩ nf ⟨oj,e0⟩ ng;have hj:=e0;unfold Qw at hj;refine C 6 V (AX hj (λnh ni=>?_) (λnh nj=>?_));let⟨a6,nk,nl⟩:=bs ni;refine C 7 V (Bx (λL s=>∃(b4:LH) (c5:As) (c6:Nat) (c7:Seg) (c8:As) (c9:Nat),Jn a8 H b4 [bX bk #[sV c8 a6.2.1 c9,iV a6.2.2.1,.int .u64 ((a6.2.2.2:Nat):Int)] 46,bX O #[nS,nS] 28,bX U #[sV aq Z.1 av,nS] 28,a0,c7] [(0,Ar bk 0),(2,iV p2),(6,Ar O 0),(7,Ar U 0),(8,iV az.1),(9,.bool b5.1),(10,iV Z.2.2.2.2),(11,sV c5 a6.1 c6),(12,iV am.2.2.2.2)] L s (OL 3 rI b4 c5 c6 c7 a6.1/\Ao rI b4 c8 c9 a6.2.1)) ?_ ?_);rintro _ _ ⟨b4,c5,c6,c7,c8,c9,rfl,rfl,nm,np,nq,nr⟩;let⟨ns,nt,nu⟩:=bs nl;refine C 3 V (BY nt V V V ?_);refine C 2 V ?_;cases nu;exact Az (ng _ _ (a6.2.1,a6.2.2.1,a6.2.2.2,a6.1,ns) ⟨b4,c8,c9,c5,c6,c7,V,V,(hg.Ad nm),np,nr,nq⟩ e0) V;intro hk;refine Cp nk (λnx ny=>?_) (λnx nz=>?_);let⟨om,nA,nB⟩:=bs ny;refine C 2 V (JS.app (pp:=rI) (v:=iV 1) (a:=bn) (c:=bo) 4 nA V V V V (λ_=>V) V (λ_=>V) V V V underlying22 underlying22 underlying22 AK (Dc type3) CR V (by decide) (by decide) (by decide) (by decide) eN V eA V λoo nC nD hl nE nF=>?_);refine BS (S':=[[(bk,.cells #[sV a9 am.1 bb,iV am.2.1,.int .u64 ((am.2.2.1:Nat):Int)] 46 (0,0))],[(O,.cells #[nS,nS] 28 (0,0))],[(U,.cells #[sV aq Z.1 av,nS] 28 (0,0))],a0,hl]) V nF λnG=>C 2 V ?_;cases nB;exact Az (hk _ _ ⟨a8,nC,nD,hl,a9,bb,V,V,AS,nG,nE,eC⟩) V;refine C 3 V (Gq (pp:=rI) [iV 1,iV 1,iV 2,iV 2,iV 3,iV 5] [1,1,2,2,3,5] V V V underlying22 AK CR (by decide) V V V ⟨V,V,V,V,V,V,trivial⟩ eA λoq nH nI nJ=>?_);refine BS (S':=[[(bk,.cells #[sV a9 am.1 bb,iV am.2.1,.int .u64 ((am.2.2.1:Nat):Int)] 46 (0,0))],[(O,.cells #[nS,nS] 28 (0,0))],[(U,.cells #[sV aq Z.1 av,nS] 28 (0,0))],a0,b3,nH]) V nJ λnK=>Ck 5 nI nK V λot e1 nL nM=>?_;let⟨dd,nN,nO⟩:=bs nz;refine Cg 0 (Ys (eC.M e1) nL nN) V V (A4 func17 V) nM V ?_;rintro _ nP _ hm ⟨hn,ho,rfl,rfl,nQ⟩ nR;let⟨ou,nT,nU⟩:=bs nO;refine JS.app (pp:=rI) (v:=iV dd.1) (a:=bn) (c:=bo) 4 nT V V V V (λ_=>V) V (λ_=>V) V V V underlying22 underlying22 underlying22 AK (Dc type3) CR V (by decide) (by decide) (by decide) (by decide) (eN.M (e1.Ad hm)) V nR V λov nV nW hp nX nY=>BS (S':=[[(bk,.cells #[sV hn dd.2.1 ho,iV dd.2.2.1,.int .u64 ((dd.2.2.2:Nat):Int)] 46 (0,0))],[(O,.cells #[nS,nS] 28 (0,0))],[(U,.cells #[sV aq Z.1 av,nS] 28 (0,0))],a0,hp,[]]) V nY λnZ=>C 2 V ?_;cases nU;exact Az (hk _ _ ⟨nP,nV,nW,hp,hn,ho,V,V,(e1.Ad hm),nZ,nX,nQ⟩) V;refine JL.exit V ?_;cases nj;obtain rfl:=nf _ e0;exact Az (nc _ _ ⟨a8,bn,bo,b3,a9,bb,V,V,hg,eA,eN,eC⟩) V;refine JL.exit V ?_;cases mJ;obtain rfl:=ms _ eu;exact Az (mp _ _ ⟨b0,cy,c0,aq,av,a0,V,V,g8,g9,hb,ha⟩) V
variable {J:Judge Tryz.prog}{E:LH}
variable {J:Judge Tryz.prog}{E:LH}
variable {J:Judge Tryz.prog}{E:LH}
def Qr(fu_:Nat)(p0:Bh)(K:(List Int)×Int):Option (Bm ((List Int)×Int) ((List Int))):=if K.2<(p0.2.length:Int) then((ix p0.2 K.2).bind λO=>(ix K.1 O.1).bind λal=>(ix K.1 O.1).bind λU=>(Au (U - O.2.2)).bind λY=>(ix K.1 O.2.1).bind λZ=>(Au (Z+O.2.2)).bind λac=>(Au (K.2+1)).bind λag=>some (.more (((K.1.set (Int.toNat O.1) Y).set (Int.toNat O.2.1) ac),ag))) else(some (.done K.1))
def f55(fu_:Nat)(p0:Bh):Option ((List Int)):=(IN (p0.1.length:Int) (0:Int)).bind λK=>Option.bind (iter (Qr fu_ p0) fu_ (K,0)) λO=>some O
end Pal
namespace Pal
open Go Go.Conc
def Ns(t:TypeId)(v:Value):Option Int->Prop
 | none=>v=.nilIface
 | some c=>v=.iface t (.agg #[iV c])
variable {P:Program}{s:St}{ρ:Operand->Value}{z:Operand}{d:Option Tmp}{t u ty e:TypeId}{p:String}{af:Ae_}{g:On_}{v v':Value}
variable{ms:Array (String×TypeId)}{K:TypeId}{o:Option Int}
section
variable {x y:Operand}
theorem Zz{n:Nat}(O:P.underlying t=some (.interface ms))(he:Ns K v o){Q:Bool->St->Prop}{X:Halt->St->Prop}(k:Q o.isNone s):lp P (Op.equalIn (n+1) t v .nilIface) s Q X:=by
 unfold Op.equalIn;refine Ay _ _ (Cy O ?_);cases o with
 | none=>obtain rfl:v=.nilIface:=he;exact k
 | some q=>obtain rfl:v=.iface K (.agg #[iV q]):=he;exact k
theorem U4(O:P.underlying t=some (.interface ms))(he:Ns K v o)(U:ρ x=v)(Y:ρ (.const .nilIface)=.nilIface):Yl P ⟨d,.binOp .eql t x (.const .nilIface) u,ty,p,af,g⟩ ρ s (.bool o.isNone):=by
 refine FY (sm:=do eqGuard .eql t x (.const .nilIface) (ρ x) (ρ (.const .nilIface));binOp .eql t (ρ x) (ρ (.const .nilIface))) V ?_
 rw[U,Y];have Z:lp P (eqGuard .eql t x (.const .nilIface) v .nilIface) s (λ_ s'=>s'=s) (λ_ _=>False):=by
  cases o with
  | none=>obtain rfl:v=.nilIface:=he;simp[eqGuard,lp,pure]
  | some q=>obtain rfl:v=.iface K (.agg #[iV q]):=he;simp[eqGuard,lp,pure]
 refine Ay _ _ (Es _ Z ?_ (λ_ _ h=>h));rintro _ _ rfl;have hb:binOp .eql t v .nilIface=(do pure (.bool (← Op.equal t v .nilIface))):=by
  cases o with
  | none=>obtain rfl:v=.nilIface:=he;rfl
  | some q=>obtain rfl:v=.iface K (.agg #[iV q]):=he;rfl
 rw[hb];refine Ay (x:=Op.equal t v .nilIface) _ ?_;unfold Op.equal Op.maxDepth;refine Zz O he ?_;refine⟨?_,V⟩
 rfl
end
end Pal
set_option autoImplicit false
open Go
namespace Pal
variable{p2:Int}
theorem Ao.YB{P:Program}{E:LH}{α:Type}{pp:Rp α}{a:Option Addr}{c:Nat}{xs:List α}{xv:α}(U:Ao pp E a c xs)(O:ix xs p2=some xv):
  ∃bk o ws,pp.r E ws xv/\At E bk o ws/\∀{s:St}{ρ:Operand->Value}{x y:Operand}{d:Option Tmp}{t ty e:TypeId}{p:String}{af:Ae_}{g:On_}{kd:IntKind},
   P.underlying t=some (.slice e)->BB P e=some pp.n->ρ x=.slice a xs.length c->ρ y=.int kd p2->Yl P ⟨d,.indexAddr t x y,ty,p,af,g⟩ ρ s (.pointer (some ⟨bk,o,none⟩)):=by
 obtain⟨p2,rfl,O⟩:=F7 O;have Y:p2<xs.length:=(d7.1 O).1;obtain⟨av,⟨rfl,_⟩ | ⟨bk,off,rfl,Z⟩⟩:=U;simp at Y
 let⟨ws,ac,ag⟩:=Z p2 xv O;refine⟨bk,off+p2*pp.n,ws,ac,ag,λ{s ρ x y d t ty e p af g kd} al am ap aq=>?_⟩;have:=NI (P:=P) (s:=s) (d:=d) (ty:=ty) (p:=p) (af:=af) (g:=g) al am ap aq ⟨by omega,by omega⟩;rw[Et rfl] at this;simpa using this
open Go Go.Conc Go.Proofs
variable {J:Judge Tryz.prog}{E:LH}
def Ou(fu_:Nat)(p0:Nat)(p1:Int)(p2:Int):Option (Nat):=
 (f106 fu_ p1 p2).bind λx1=>
 (QR p0 x1).bind λK=>
 some K
variable{fu_ r:Nat}
theorem ju{p0:Nat}{p1:Int}(K:Ou fu_ p0 p1 p2=some r):AZ J 50 [.int .u32 ((p0:Nat):Int),iV p1,iV p2] E [] (λw E' B'=>w=.int .u32 ((r:Nat):Int)/\B'=[]):=by
 refine Bq Tryz.func50 λQ aq cs H O U=>?_;unfold Ou at K;let⟨x1,Y,Z⟩:=bs K;refine C 9 V (Co (Xx Y) V V (A4 Tryz.func75 V) O λav ac ag=>?_);let⟨al,am,ap⟩:=bs Z;refine An (v:=.int .u32 ((al:Nat):Int)) V (λρ h=>cG (h _ _ V) (h _ _ V) am) (C 2 V ?_);cases ap;exact AW Tryz.func50 V V (U ac V ⟨V,V⟩ ag)
def PF(fu_:Nat)(p0:Bh)(p1:AH)(K:(List Int)×Nat×Int):Option (Bm ((List Int)×Nat×Int) (((Option Int))⊕((List Int)))):=
 if K.2.2<((p1).length:Int) then(
  (ix p1 (K.2.2)).bind λO=>
  (f86 fu_ O ((p0.1).length:Int) 72).bind λU=>
  if U≠0 then(
   some (.done (Sum.inl (some (U))))
  ) else(
   (f136 fu_ K.2.1 O.1 O.2.1).bind λY=>
   if Y=true then(
    some (.done (Sum.inl (some (4))))
   ) else(
    (Ou fu_ K.2.1 O.1 O.2.1).bind λZ=>
    (Nl fu_ K.1 O).bind λac=>
    (Au (K.2.2+1)).bind λag=>
    some (.more (ac,Z,ag))
   )
  )
 ) else(
  some (.done (Sum.inr K.1))
 )
def No(fu_:Nat)(p0:Bh)(p1:AH):Option ((Option Int)):=
 if 8<((p1).length:Int) then(
  some (some (6))
 ) else(
  (f84 fu_ p0).bind λK=>
  Option.bind (iter (PF fu_ p0 p1) fu_ (K,0,0)) λO=>
  Sum.elim (λr=>some r) (λU=>
  if U≠(List.replicate 5 (0:Int)) then(
   some (some (9))
  ) else(
   some none
  )
  ) O
 )
variable{c2:Nat}
theorem XY{a1 b1:As}{b2:Nat}{bb:As}{be:Nat}{p0:Bh}{p1:AH}(cy:Ao (rL rI) E a1 c2 (p0.1))(c0:Ao AF E b1 b2 (p0.2))(c1:Ao AF E bb be (p1)){r:(Option Int)}(b3:No fu_ p0 p1=some r):AZ J 23 [.agg #[.slice a1 (p0.1).length c2,.slice b1 (p0.2).length b2],.slice bb (p1).length be] E [] (λw E' B'=>∃(b4:Value),w=b4/\B'=[]/\Ns 92 b4 (r)):=by
 refine Bq Tryz.func23 λQ g0 cs H c3 aw=>?_;unfold No at b3;refine C 2 V (DD c3 λc4 g1 U b5 b6=>?_);refine C 6 V (JL.ln Tryz.underlying26 V V V ?_);refine C 2 V (AX b3 (λc5 c6=>?_) (λc5 c7=>?_));refine C 2 V (An (v:=.agg #[iV 6]) V (λρ h=>C4 [(0,1)] h ME Tryz.underlying92 ⟨V,A0 Tryz.type31,trivial⟩ V V) ?_);refine An (v:=.iface 92 (.agg #[iV 6])) V (λρ h=>Kn Tryz.underlying92 (λ_ h=>by cases h) (h _ _ V)) (C 2 V ?_);cases c6;exact AW Tryz.func23 V V (aw U V ⟨.iface 92 (.agg #[iV 6]),V,V,V⟩ b6);refine C 7 V (B6 b5 FV DR V V ?_);let⟨g3,c8,c9⟩:=bs c7;refine BW (QK (cy.M U) (c0.M U) c8) V V OR b6 ?_;rintro _ ay _ al ⟨bi,rfl,rfl,az⟩ dd;refine B5 dd KU λa0 dj=>?_;refine Hx (v:=.agg bi.toArray) (l:=[]) (ws:=(List.replicate 5 (iV 0):Lv_)) (us:=bi) (o:=0) 3 V V V dj V V V (by rw[Cb (kk:=5) (pp:=rI) az];exact A0 Tryz.type96) ((rA 5 rI).one az) V (by rw[Cb (kk:=5) (pp:=rI) az,Cb (kk:=5) (pp:=rI) (GG (E:=ay) (pp:=rI) rfl)];omega) λca=>?_;rw[JU (by rw[Cb (kk:=5) (pp:=rI) az,Cb (kk:=5) (pp:=rI) (GG (E:=ay) (pp:=rI) rfl)])] at ca ⊢;refine C 5 V (JL.ln Tryz.underlying26 V V V ?_);let⟨cc,ea,bn⟩:=bs c9;refine C 2 V (Bx (λL s=>∃(a2:(List Int)) (am:LH) (a3:Lv_),cc=Sum.inr a2/\Jn ay H am [[(a0,.cells (([]:Lv_)++a3).toArray 96 (0,0))]] [(6,.pointer (some ⟨a0,0,none⟩))] L s ((rA 5 rI).r am a3 (a2))) ?_ ?_);rintro _ _ ⟨a2,am,a3,rfl,rfl,rfl,ce,bo,ci⟩;have eb:=elim_inr bn;refine C 3 V (An (v:=.agg a3.toArray) V (λρ h=>H0 (kk:=5) (pp:=rI) ci Iw I5 (h _ _ V) (Hh (l:=[]) 0 bo V)) ?_);refine An (v:=.agg (List.replicate 5 (iV 0):Lv_).toArray) V (λρ h=>VB Tryz.underlying96 KU AK V) (An (v:=.bool (decide (a2≠(List.replicate 5 (0:Int))))) V (λρ h=>Ss (E:=am) (E':=am) (ws:=a3) (ws':=(List.replicate 5 (iV 0):Lv_)) (a:=a2) (b:=(List.replicate 5 (0:Int))) Xe (by decide) (by decide+kernel) ci (GG (E:=am) (pp:=rI) V) (h _ _ V) (h _ _ V)) ?_);refine JL.done (AX eb (λec ed=>?_) (λec ee=>?_));refine C 2 V (An (v:=.agg #[iV 9]) V (λρ h=>C4 [(0,1)] h ME Tryz.underlying92 ⟨V,A0 Tryz.type31,trivial⟩ V V) ?_);refine An (v:=.iface 92 (.agg #[iV 9])) V (λρ h=>Kn Tryz.underlying92 (λ_ h=>by cases h) (h _ _ V)) (C 2 V ?_);refine JS.drop 0 bo V λef=>?_;cases ed;exact AW Tryz.func23 V V (aw ((U.trans al).trans ce) V ⟨.iface 92 (.agg #[iV 9]),V,V,V⟩ ef);refine C 5 V (JS.drop 0 bo V λeg=>?_);cases ee;exact AW Tryz.func23 V V (aw ((U.trans al).trans ce) V ⟨.nilIface,V,V,V⟩ eg);intro ej;refine JL.block (Ch ea (λL s Z=>∃(a8:LH) (ap:Lv_),Jn ay H a8 [[(a0,.cells (([]:Lv_)++ap).toArray 96 (0,0))]] [(2,.pointer (some ⟨c4,0,none⟩)),(5,.int .u32 ((Z.2.1:Nat):Int)),(6,.pointer (some ⟨a0,0,none⟩)),(17,.slice bb (p1).length be),(18,iV ((p1).length:Int)),(19,iV Z.2.2)] L s ((rA 5 rI).r a8 ap (Z.1))) ⟨ay,bi,V,V,(Le.refl _),ca,az⟩ ?_);rintro _ _ Z ⟨a8,ap,rfl,rfl,aq,co,a4⟩ bv ⟨g4,a5⟩ ek;have cp:=a5;unfold PF at cp;refine C 5 V (AX cp (λel em=>?_) (λel eo=>?_));let⟨a6,ep,er⟩:=bs em;refine C 5 V (JS.ix (c1.M ((U.trans al).trans aq)) ep Tryz.underlying26 Bv ?_);rintro g5 g6 _ ⟨_,_,rfl,rfl,⟨_,_,rfl,rfl,rfl⟩⟩ eu;refine B6 eu Ei Bv V V (B5 co BU λg7 ew=>?_);refine JS.sx 1 ew Bv λex=>?_;refine Db 1 ex V λg8 Y av ey=>C 4 V (B6 av Ei Bv V V ?_);refine JL.fd Tryz.underlying57 CJ V V V (Cc 0 (b5.M ((al.trans aq).trans Y)) Tryz.underlying28 FI FX ?_);refine JL.ln Tryz.underlying25 V V V ?_;let⟨bw,eA,eC⟩:=bs er;refine Co (Yt eA) V V (A4 Tryz.func48 V) ey λg9 K ct=>C 7 V (AX eC (λeN e0=>?_) (λeN e1=>?_));refine C 3 V (An (v:=.agg #[iV bw]) V (λρ h=>C4 [(0,1)] h ME Tryz.underlying92 ⟨V,A0 Tryz.type31,trivial⟩ V V) ?_);refine An (v:=.iface 92 (.agg #[iV bw])) V (λρ h=>Kn Tryz.underlying92 (λ_ h=>by cases h) (h _ _ V)) (C 2 V ?_);refine JS.drop 0 ct V λe3=>?_;cases e0;obtain rfl:=bv _ a5;have e4:=elim_inl bn;cases e4;exact AW Tryz.func23 V V (aw ((((U.trans al).trans aq).trans Y).trans K) V ⟨.iface 92 (.agg #[iV bw]),V,V,V⟩ e3);refine C 5 V (Cc 0 (av.M K) Tryz.underlying52 AK Bb ?_);refine Cc 1 (av.M K) Tryz.underlying52 AK Bb ?_;let⟨ha,e5,e6⟩:=bs e1;refine Co (Xd e5) V V (A4 Tryz.func49 V) ct λhb O ac=>JL.done (Cp e6 (λe7 e8=>?_) (λe7 ff=>?_));refine C 2 V (An (v:=.agg #[iV 4]) V (λρ h=>C4 [(0,1)] h ME Tryz.underlying92 ⟨V,A0 Tryz.type31,trivial⟩ V V) ?_);refine An (v:=.iface 92 (.agg #[iV 4])) V (λρ h=>Kn Tryz.underlying92 (λ_ h=>by cases h) (h _ _ V)) (C 2 V ?_);refine JS.drop 0 ac V λfk=>?_;cases e8;obtain rfl:=bv _ a5;have fl:=elim_inl bn;cases fl;exact AW Tryz.func23 V V (aw (((((U.trans al).trans aq).trans Y).trans K).trans O) V ⟨.iface 92 (.agg #[iV 4]),V,V,V⟩ fk);refine JL.skip (EF 8 [a0] ⟨⟨0,_,V⟩,trivial⟩ ac λag=>?_);refine DW 0 ag V V (JG.fd 1 ag Tryz.underlying52 AK V V V V ?_);refine JG.lp 2 ag 0 (av.M (K.trans O)) ac ⟨⟨0,_,V⟩,trivial⟩ Bb ?_;refine JG.fd 3 ag Tryz.underlying52 AK V V V V (JG.lp 4 ag 1 (av.M (K.trans O)) ac ⟨⟨0,_,V⟩,trivial⟩ Bb ?_);refine AU (v:=.agg ap.toArray) 6 ag V V (λρ h s' bx=>H0 (kk:=5) (pp:=rI) (Rp.M _ ((Y.trans K).trans O) a4) Iw I5 (h _ _ V) (Vi (l:=[]) 0 ac V (by simp[AG]) bx)) (AU 7 ag V V (λρ h s' bx=>Jc (vs:=[iV a6.1,iV a6.2.1,iV a6.2.2]) Ei Bv (h _ _ V) (At.Tg (av.M (K.trans O)) (Yf ac bx ⟨⟨0,_,V⟩,trivial⟩))) ?_);let⟨fm,fo,fs⟩:=bs ff;refine dU (i:=5) ⟨⟨0,_,V⟩,trivial⟩ (vs:=[.int .u32 ((Z.2.1:Nat):Int),iV a6.1,iV a6.2.1]) (ju fo) (by decide+kernel) V V V (A4 Tryz.func50 V) V ac ?_;rintro _ hc _ a9 ⟨rfl,rfl⟩ fv;refine De [8,9,10] ?_;let⟨fw,fN,gc⟩:=bs fs;refine BW (IH (Rp.M _ (((Y.trans K).trans O).trans a9) a4) fN) V V Ix fv ?_;rintro _ ge _ bz ⟨b0,rfl,rfl,a7⟩ gg;refine C 1 V (Hx (v:=.agg b0.toArray) (l:=[]) (ws:=ap) (us:=b0) (o:=0) 0 V V V gg V V V (by rw[Cb (kk:=5) (pp:=rI) a7];exact A0 Tryz.type96) ((rA 5 rI).one a7) V (by rw[Cb (kk:=5) (pp:=rI) a7,Cb (kk:=5) (pp:=rI) (Rp.M _ ((((Y.trans K).trans O).trans a9).trans bz) a4)];omega) λcw=>?_);rw[JU (by rw[Cb (kk:=5) (pp:=rI) a7,Cb (kk:=5) (pp:=rI) (Rp.M _ ((((Y.trans K).trans O).trans a9).trans bz) a4)])] at cw ⊢;let⟨gh,gt,gE⟩:=bs gc;refine C 3 V (Bt gt V V V ?_);refine C 2 V ?_;cases gE;exact Az (ek _ _ (fw,fm,gh) ⟨ge,b0,V,V,(((((aq.trans Y).trans K).trans O).trans a9).trans bz),cw,a7⟩ a5) V;refine JL.exit V ?_;cases eo;have gO:cc=(Sum.inr Z.1):=(bv _ a5).symm;exact Az (ej _ _ ⟨Z.1,a8,ap,gO,V,V,aq,co,a4⟩) V
def TR(fu_:Nat):Option (Bool):=
 some false
theorem iR{O:Value}{r:Bool}(K:TR fu_=some r):AZ J 46 [.nilIface,O] E [] (λw E' B'=>w=.bool r/\B'=[]):=by
 refine Bq Tryz.func46 λQ Z cs H U Y=>?_;unfold TR at K;refine C 8 V ?_;refine An (v:=.bool true) V (λρ h=>U4 Tryz.underlying62 (show Ns 0 .nilIface none from V) (h _ _ V) (h _ _ V)) (C 6 V ?_);cases K;exact AW Tryz.func46 V V (Y (Le.refl _) V ⟨V,V⟩ U)
def TP(fu_:Nat):Option (Int):=
 (TR fu_).bind λK=>
 if K=true then(
  some 0
 ) else(
  some 0
 )
theorem jc{r:Int}(O:TP fu_=some r):AZ J 22 [.nilIface] E [] (λw E' B'=>w=iV r/\B'=[]):=by
 refine Bq Tryz.func22 λQ ay cs H Z U=>?_;unfold TP at O;refine C 6 V (B5 Z ME λr1 ac=>?_);refine C 5 V (An (v:=(.iface 94 (.pointer (some ⟨r1,0,none⟩)))) V (λρ h=>Kn Tryz.underlying94 (λ_ h=>by cases h) (h _ _ V)) ?_);let⟨az,ag,al⟩:=bs O;refine Co (iR ag) V V (A4 Tryz.func46 V) ac λa0 Y K=>JL.done (Cp al (λam ap=>?_) (λam aq=>?_));refine C 2 V (JL.fd Tryz.underlying92 (A0 Tryz.type31) V V V ?_);refine An (v:=iV 0) V (λρ h=>Yl.load (CK Tryz.underlying31) (h _ _ V) (B8 (j:=1) (off:=0) K V V)) (C 2 V ?_);refine JS.drop 1 K V λav=>?_;cases ap;exact AW Tryz.func22 V V (U Y V ⟨V,V⟩ av);refine C 5 V (JS.drop 1 K V λaw=>?_);cases aq;exact AW Tryz.func22 V V (U Y V ⟨V,V⟩ aw)
open Go.Extern
def SU(b:Frame)(n:Nat):Nat->Li_->Env->Li_×Env
 | 0,k,L=>(k,L)
 | m+1,k,L=>match QV b n L k with
  | some (k',L')=>SU b n m k' L'
  | none=>(k,L)
theorem zm{P:Program}{J:Judge P}{Q:Gs_}{b:Frame}{n:Nat}{ds:Ld_}{cs:Lf_}{s:St}:∀(m:Nat) {L L':Env}{k k':Li_},SU b n m k L=(k',L')->JL J Q b n L' ds k' cs s->JL J Q b n L ds k cs s
 | 0,L,L',k,k',h,K=>by cases h;exact K
 | m+1,L,L',k,k',h,K=>by
  unfold SU at h
  split at h;rename_i e;exact Xg e (zm m h K);cases h;exact K
variable{H:LH}{S:List Seg}
theorem VX{E:LH}{o:Obj}(K:Av E H S)(O:(Ak E H S).E r=none)(U:(Ak E H S).H r=none):Av E H (S++ [[(r,o)]])/\(Ak E H S).upd r o=Ak E H (S++ [[(r,o)]]):=by
 let⟨a,b⟩:=K1 O U o K;let⟨c,d⟩:=F6 a;exact⟨d,b.trans c⟩
variable{s:St}{X:Halt->St->Prop}{Q:Value->St->Prop}
theorem kI{o:Operand}(p:Addr):lp Tryz.prog (do eqGuard .eql 20 o (.const .nilIface) (.iface 94 (.pointer (some p))) .nilIface;binOp .eql 20 (.iface 94 (.pointer (some p))) .nilIface) s Q X=Q (.bool false) s:=by kernel_rfl
theorem bW{ρ:Operand->Value}{d:Option Tmp}{x:Operand}{u ty:TypeId}{p:String}{af:Ae_}{g:On_}{a:Addr}(K:ρ x=.iface 94 (.pointer (some a)))(O:ρ (.const .nilIface)=.nilIface):Yl Tryz.prog ⟨d,.binOp .eql 20 x (.const .nilIface) u,ty,p,af,g⟩ ρ s (.bool false):=by
 refine FY (sm:=do eqGuard .eql 20 x (.const .nilIface) (ρ x) (ρ (.const .nilIface));binOp .eql 20 (ρ x) (ρ (.const .nilIface))) V ?_
 rw[K,O];exact(kI a).mpr ⟨V,V⟩
theorem YE(z:Sem Value)(f:TypeId->Addr->Nat->Nat->Sem Value)(v:Value):ReflectliteValue.method z f #[v]=Sem.bind (ReflectliteValue.parts v) (λx=>match x with | none=>z | some (t,a,K)=>f t a K (K%32)):=rfl
theorem aC(a p:Addr)(K:s.cell? a=some (.pointer (some p)))(h:Q (.bool false) s):lp Tryz.prog (ReflectliteValue.method (ReflectliteValue.valueError "reflectlite.Value.IsNil" 0) ReflectliteValue.isNil #[.agg #[FT 94,.pointer (some a),.int .u64 150]]) s Q X:=by
 rw[YE];refine Ay (x:=ReflectliteValue.parts _) _ ((U3 a).mpr ?_);show lp Tryz.prog (Sem.bind (loadVar 94 a) _) s Q X;exact Ay (x:=loadVar 94 a) _ ((V0 a).mpr ⟨V,_,K,h⟩)
theorem bq(a p:Addr)(K:s.cell? a=some (.pointer (some p)))(h:Q (.agg #[FT 92,.pointer (some p),.int .u64 409]) s):lp Tryz.prog (ReflectliteValue.method (ReflectliteValue.valueError "reflectlite.Value.Elem" 0) ReflectliteValue.elem #[.agg #[FT 94,.pointer (some a),.int .u64 150]]) s Q X:=by
 rw[YE];refine Ay (x:=ReflectliteValue.parts _) _ ((U3 a).mpr ?_);show lp Tryz.prog (Sem.bind (loadVar 94 a) _) s Q X;refine Ay (x:=loadVar 94 a) _ ((V0 a).mpr ⟨V,_,K,?_⟩);refine Ay (x:=Rtype.elem? 94) _ (fX.mpr ?_);exact(jS p).mpr h
theorem mF(v x:Value):ReflectliteValue.set #[v,x]=(do
  let (some (dst,a,K),some (src,b,_)):=(← ReflectliteValue.parts v,← ReflectliteValue.parts x)
   | unsupported (.noEntry "extern/(internal/reflectlite.Value).Set.zeroValue")
  if K/ReflectliteValue.flagAddr%2==0 then unsupported (.noEntry "extern/(internal/reflectlite.Value).Set.unaddressable")
  let val ← loadVar src b
  if ← Rtype.directlyAssignable dst src then storeVar dst a val
  else if ← Rtype.implements dst src then
   if(← Rtype.kind src)==20 then
    match val with
    | .nilIface=>unsupported (.noEntry "extern/reflectlite: a nil value of one interface type handed on as a value of another")
    | _=>storeVar dst a val
   else storeVar dst a (.iface src val)
  else panicString ("reflectlite.Set: value of type " ++(← Rtype.spelt src)++ " is not assignable to type " ++(← Rtype.spelt dst))
  pure (.tuple #[])):=rfl
variable{bk:Nat}{u:Value}{c:Int}
theorem eP{E:LH}(j:Nat)(U:Av E H S)(K:S[j]?=some [(bk,.cells #[u] 92 (0,0))])(Y:At E r 0 [iV c])(h:Av E H (S.set j [(bk,.cells #[iV c] 92 (0,0))])->Q (.tuple #[]) (Ak E H (S.set j [(bk,.cells #[iV c] 92 (0,0))]))):
  lp Tryz.prog (ReflectliteValue.set #[.agg #[FT 92,.pointer (some ⟨bk,0,none⟩),.int .u64 409],.agg #[FT 92,.pointer (some ⟨r,0,none⟩),.int .u64 153]]) (Ak E H S) Q X:=by
 rw[mF];refine Ay (x:=ReflectliteValue.parts _) _ ((ZO _).mpr ?_);refine Ay (x:=ReflectliteValue.parts _) _ ((ab _).mpr ?_);refine Ay (x:=loadVar 92 _) _ ((dQ _).mpr ⟨V,_,At.Ky (j:=0) Y V,?_⟩);refine Ay (x:=Rtype.directlyAssignable 92 92) _ (fZ.mpr ?_);refine Ay (x:=storeVar 92 _ _) _ ?_;let⟨Z,ac⟩:=HB U K;rw[Z];refine RA (pl:=(S.set j []).flatten.length) (A0 Tryz.type92) (by simp[Value.cells,C5]) ac (c:=#[u]) (e:=92) (by simp) (by simp[Value.cells]) λO=>?_;have ag:((S.set j []).flatten++ [(bk,Obj.cells #[u] 92 (0,0))]).set (S.set j []).flatten.length (bk,.cells (Bc #[u] 0 (Value.agg #[iV c]).cells.toList) 92 (0,0))=(S.set j []).flatten++ [(bk,.cells #[iV c] 92 (0,0))]:=JW _ _ _ _;rw[ag] at O ⊢;let⟨al,am⟩:=J3 (seg':=[(bk,.cells #[iV c] 92 (0,0))]) K O;rw[al];exact h am
variable {J:Judge Tryz.prog}{E:LH}
theorem lg(O:At E r 0 [.pointer (some ⟨bk,0,none⟩)]):AZ J 74 [.iface 92 (.agg #[iV c]),.iface 94 (.pointer (some ⟨bk,0,none⟩)),.agg #[FT 94,.pointer (some ⟨r,0,none⟩),.int .u64 150],KI 92] E [(bk,.cells #[u] 92 (0,0))] (λv E' B'=>v=.bool true/\B'=[(bk,.cells #[iV c] 92 (0,0))]):=by
 refine MZ Tryz.func74 V V λQ a0 cs H U Y=>zm 60 V (JS.box (v:=.agg #[FT 94,.pointer (some ⟨r,0,none⟩),.int .u64 150]) V V V U V λr2 Z=>?_);refine Db 1 Z V λa1 K ac ag=>zm 60 V (Ja ?_);refine zm 60 V (Me kQ V V V V ?_);refine(ZM _).mpr ?_;refine zm 60 V (Og kj (lT _) V V V V V ?_);refine fp.mpr (zm 60 V ?_);refine B6 ac OJ NA V V (Me jU V V V V ?_);refine bq ⟨r,0,none⟩ ⟨bk,0,none⟩ (At.Ky (j:=0) (O.M K) V) (zm 60 V ?_);refine Me Xu V V V V ?_;refine(Zh c).mpr ⟨V,λr3 al am=>?_⟩;let⟨ap,aq⟩:=VX (o:=.cells #[iV c] 92 (0,0)) ag al am;rw[aq];refine Db 2 ap V λa2 av aw ay=>Me jN V V V V (eP 0 ay V aw λaz=>?_);refine zm 60 V (AW Tryz.func74 V V ?_);exact Y _ _ _ _ (K.trans av) V ⟨V,V⟩ az
theorem kz(Z:At E 0 0 [KI 62]):AZ J 46 [.iface 92 (.agg #[iV c]),.iface 94 (.pointer (some ⟨bk,0,none⟩))] E [(bk,.cells #[u] 92 (0,0))] (λv E' B'=>v=.bool true/\B'=[(bk,.cells #[iV c] 92 (0,0))]):=by
 refine MZ Tryz.func46 V V λQ a2 cs H ac ag=>zm 60 V ?_;refine An (v:=.bool false) V (λρ h=>U4 Tryz.underlying62 (show Ns 92 (.iface 92 (.agg #[iV c])) (some c) from V) (h _ _ V) (h _ _ V)) (zm 60 V ?_);refine An V (λρ h=>bW (h _ _ V) (h _ _ V)) (zm 60 V ?_);refine Me Xu V V V V ?_;refine(Zj _).mpr ⟨V,λr al am=>?_⟩;let⟨ap,aq⟩:=VX (o:=.cells #[.pointer (some ⟨bk,0,none⟩)] 94 (0,0)) ac al am;rw[aq];refine JS.alloc V V V ap (Dw Tryz.type146) λr2 av=>X8 (v:=.agg #[FT 94,.pointer (some ⟨r,0,none⟩),.int .u64 150]) (off:=0) 2 av NA V V V V λaw=>zm 60 V (Db 1 aw V λa3 U Y ay=>?_);refine Db 2 ay V λa4 K O az=>B6 O OJ NA V V (Me jJ V V V V ?_);refine(dI _).mpr ?_;refine zm 60 V (Og XF (XW _) V V V V V ?_);refine dr.mpr (zm 60 V ?_);refine B6 (O) OJ NA V V (Me jm V V V V ?_);refine aC ⟨r,0,none⟩ ⟨bk,0,none⟩ (At.Ky (j:=0) (Y.M K) V) (zm 60 V ?_);refine Og iG (je _) V V V V V (cE.mpr ?_);refine zm 60 V (Og XF (XW _) V V V V V ?_);refine dJ.mpr (zm 60 V ?_);refine CH 0 (Z.M (U.trans K)) (CK Tryz.underlying149) V V V (Og kG (gU _) V V V V V ?_);refine ck.mpr (zm 60 V ?_);refine An (v:=.bool (!true)) V (λρ h=>Yl.not (h _ _ V)) (zm 60 V ?_);refine B6 (O) OJ NA V V (zm 60 V ?_);refine Cg 0 (lg (Y.M K)) V V (A4 Tryz.func74 V) az V ?_;rintro _ a5 _ a0 ⟨rfl,rfl⟩ a1;refine zm 60 V (AW Tryz.func46 V V ?_);exact ag _ _ _ _ ((U.trans K).trans a0) V ⟨V,V⟩ a1
theorem cF(K:At E 0 0 [KI 62]):AZ J 22 [.iface 92 (.agg #[iV c])] E [] (λv E' B'=>v=iV c/\B'=[]):=by
 refine MZ Tryz.func22 V V λQ ap cs H O U=>zm 60 V (JS.alloc V V V O ME λr1 Y=>?_);refine zm 60 V (An V (λρ h=>Kn Tryz.underlying94 (λms e=>by cases e) (h _ _ V)) ?_);refine Cg 1 (kz (u:=iV 0) K) V V (A4 Tryz.func46 V) Y V ?_;rintro _ aq _ Z ⟨rfl,rfl⟩ ac;refine Db 1 ac V λav ag al am=>zm 60 V (JL.fd Tryz.underlying92 (A0 Tryz.type31) V V V ?_);refine CH 0 al (CK Tryz.underlying31) V V V (zm 60 V ?_);exact AW Tryz.func22 V V (U _ _ _ _ (Z.trans ag) V ⟨V,V⟩ am)
abbrev GE(E:LH):Prop:=At E 0 0 [KI 62]
def Tu(fuel:Nat)(p0:Option Int):Option Int:=match p0 with
 | none=>TP fuel
 | some q=>some q
theorem Wq{v:Value}{p0:Option Int}(O:GE E)(h:Ns 92 v p0){r:Int}(K:Tu c2 p0=some r):AZ J 22 [v] E [] (λw E' B'=>w=iV r/\B'=[]):=by
 match p0,h with
 | none,h=>obtain rfl:v=.nilIface:=h;exact jc K
 | some c,h=>
  obtain rfl:v=.iface 92 (.agg #[iV c]):=h;cases K;exact cF O
end Pal
namespace Pal
open Go Go.Conc Go.Proofs Go.ChangeShapes Go.WideShapes Go.ChangeAt Go.RowKit
open Go.Proofs.YtmbgkhhhldcpcaaGreatDoor
theorem Tryz.own:ownKnob Tryz.prog.godebug=none:=by kernel_rfl
theorem Tryz.laidOut:laidOutB Tryz.prog=true:=by kernel_rfl
theorem Tryz.jv:Tryz.prog.cellsOf 3=1:=by kernel_rfl
variable{v:Value}
theorem Zg{R:Value->St->Prop}{W w':World}(h:After Tryz.prog R W (G9 W) v w'):(∃s,R v s)/\Below W.heap.size W {w' with os:=W.os}/\Go.ConcM.OsLater W.os w'.os:=by
 obtain⟨s,Y,Z,ac,ag,al,am⟩:=h;have hb:∀k,k<W.heap.size->w'.heap[k]?=W.heap[k]? :=λk O=>by
  have K:(G9 W).E k=some W.heap[k]:=sf O;have U:=Z.e k _ (ac k _ K);rw[U,sf O]
 refine⟨⟨s,Y⟩,⟨V,ag,am,?_,hb⟩,al⟩;show W.heap.size<=w'.heap.size;rcases sF W.heap.size with ap | ap;omega;have K:=hb (W.heap.size - 1) (by omega);have aq:W.heap[W.heap.size - 1]?=some W.heap[W.heap.size - 1]:=sf (by omega);rw[aq] at K;have U:=(f8.1 K).1;omega
theorem UQ(a:Addr):a.add 0=a:=by unfold Addr.add;rw[d6 rfl]
variable {H:Type}{enc:TypeId×Value->H}{W:World}{fuel:Nat}{cs:Lv_}
variable{b off:Nat}
section
variable {x:DataW H×List MemPlace}
theorem cR(h:W.cell? ⟨b,off,none⟩=some v):At (G9 W).E b off [v]:=by
 unfold World.cell? at h;split at h
 .rename_i c e f hW;simp only[um,rY,sI] at h;refine⟨c,e,f,hW,λj w K=>?_⟩
  match j,K with
  | 0,K=>simp at K;subst K;simpa using h
  | j+1,K=>simp at K
 .cases h
theorem an(O:0<cs.length)(h:∀j,j<cs.length->W.cell? ⟨b,off+j,none⟩=cs[j]?):At (G9 W).E b off cs:=by
 have U:=h 0 O;rw[cT O] at U;let⟨f,e,fr,Y,_⟩:=cR U;have hW:W.heap[b]?=some (.cells f e fr):=Y;refine⟨f,e,fr,Y,λj w Z=>?_⟩;have ac:=(d7.1 Z).1;have K:=h j ac;rw[Z] at K;unfold World.cell? at K;simp only[hW] at K;simpa using K
theorem iI{α:Type}{p:Rp α}{t e:TypeId}(a1:Tryz.prog.underlying t=some (.slice e))(a2:Tryz.prog.cellsOf e=p.n)(a3:0<p.n)
  (a4:∀n cs x,DataW.trod enc Tryz.prog W 0 (λ_=>true) true n e cs=some x->∃v,p.r (G9 W).E cs v)
  (a5:DataW.trod enc Tryz.prog W 0 (λ_=>true) true fuel t cs=some x):∃(a:Option Addr) (c:Nat) (aq:List α),cs=[.slice a aq.length c]/\Ao p (G9 W).E a c aq:=by
 rcases DataW.trod_slice a1 a5 with⟨ac,a6⟩ | ⟨a,len,cap,elems,rest,n,_,ac,a6,_,a7,_,hlen,av,aw,_⟩;exact⟨none,0,[],ac,Ao.nil⟩
 .rw [a2] at av aw;rcases sF cap with ay | ay
  .have:len=0:=by omega
   subst this;subst ay;exact⟨some a,0,[],ac,rJ _,.inl ⟨V,λ_ _=>.inr V⟩⟩
  .have az:∀i,i<len->∃vs y,vs.length=p.n/\(∀j,j<p.n->W.cell? ((a.add (i*p.n)).add j)=vs[j]?)/\DataW.trod enc Tryz.prog W 0 (λ_=>true) true n e vs=some y:=λi hi=>by
    have K:=av i hi;rw[cT (by omega)] at K;let⟨vs,al,Y⟩:=tT.1 K;let⟨_,O,am⟩:=World.cells?_some al;exact⟨vs,_,O,am,Y⟩
   have ap:a.spot=none:=by
    have key:∀vs:Lv_,vs.length=p.n->(∀j,j<p.n->W.cell? ((a.add (0*p.n)).add j)=vs[j]?)->a.spot=none:=λvs ag U=>by
     have:=U 0 a3;rw[cT (by omega),UQ,tY,UQ] at this;exact World.cell?_spot this
    rcases sF len with K | K;let⟨al,Y⟩:=aw V;have O:=Y 0 (by omega);rw[cT (by omega)] at O;let⟨vs,am,_⟩:=tT.1 O;let⟨_,ag,U⟩:=World.cells?_some am;rw[K] at U;exact key vs ag U;let⟨vs,y,ag,U,_⟩:=az 0 K;exact key vs ag U
   have a0:∀i:Fin len,∃z:α,∃vs,p.r (G9 W).E vs z/\At (G9 W).E a.block (a.off+i*p.n) vs:=λi=>by
    let⟨vs,y,al,Y,O⟩:=az i i.2;let⟨z,Z⟩:=a4 _ _ _ O;refine⟨z,vs,Z,an (by omega) λj a8=>?_⟩;have:=Y j (by omega);rw[Et ap,Et rfl] at this;exact this
   refine⟨some a,cap,List.ofFn λi=>Classical.choose (a0 i),by simpa using ac,by simpa using a7,.inr ⟨a.block,a.off,?_,λi z Z=>?_⟩⟩;obtain⟨b,o,s⟩:=a;simp only at ap;subst ap;rfl
   .have hi:i<len:=by have:=(d7.1 Z).1;simpa using this
    simp[hi] at Z;have:=s6 (a0 ⟨i,hi⟩);rw[Z] at this;exact this
theorem fj(h:DataW.trod enc Tryz.prog W 0 (λ_=>true) true fuel 3 cs=some x):∃z:Int,cs=[iV z]:=by
 let⟨n1,K,_⟩:=DataW.trod_int Tryz.underlying3 h;exact⟨n1,K⟩
theorem dL(O:DataW.trod enc Tryz.prog W 0 (λ_=>true) true fuel 22 cs=some x):∃(a:Option Addr) (c:Nat) (K:List Int),cs=[.slice a K.length c]/\Ao rI (G9 W).E a c K:=
 iI (p:=rI) Tryz.underlying22 Tryz.jv Nat.one_pos (λn cs x h=>by
  obtain⟨z,rfl⟩:=fj h
  exact⟨z,rfl⟩) O
theorem cP{c2:Nat}{d:DataW H}{p:List MemPlace}(U:Value.okWide Tryz.prog W .any c2 22 v)(hd:DataW.Trod enc Tryz.prog W 0 (λ_=>true) true 22 v d p):
  ∃(a:Option Addr) (c:Nat) (K:List Int),v=.slice a K.length c/\Ao rI (G9 W).E a c K:=by
 obtain⟨Z,len,cap,rfl⟩:=okWide_slice Tryz.underlying22 U;obtain⟨fuel,Y⟩:=hd;let⟨a,c,K,e,g⟩:=dL Y;simp[Value.cells] at e;obtain⟨rfl,rfl,rfl⟩:=e;exact⟨_,_,_,V,g⟩
end
noncomputable def U5(os:Os):World:=
 let w0:=World.holding Tryz.prog os ⟨#[],#[],[]⟩
 {w0 with heap:=w0.heap.modify 0 fun
   | .cells _ t frozen=>.cells #[.iface 190 (.agg #[.pointer (some ⟨1,62,none⟩)])] t frozen
   | o=>o}
theorem Y1(os:Os)(args:Av_):laidMetH Tryz.prog [("errors.errorType",Rows.laid_errors_errorType)] ((U5 os).forCall (λ_ _=>0) ⟨#[],args,[]⟩).memory:=
 laidMetH_of_parts (laidMet_nil _ _) (by kernel_rfl)
theorem Tryz.gL:Tryz.prog.globalNamed "errors.errorType" =some 0:=by kernel_rfl
theorem Tryz.gT:(Tryz.prog.cutTypes.find? (·.1== "internal/reflectlite.rtype")).map (·.2)=some 190:=by kernel_rfl
theorem Tryz.fu:Tryz.prog.globals.size=1:=by kernel_rfl
theorem Tryz.ja:(List.range Tryz.prog.types.size).all (λt=> !Tryz.prog.rowNamed t [101,114,114,111,114] || t==62)=true:=by kernel_rfl
theorem fW{W:World}(h:laidMetH Tryz.prog [("errors.errorType",Rows.laid_errors_errorType)] W.memory):GE (G9 W).E:=by
 have U:=h.2 _ (rX ..);obtain⟨name,u,ty,Y,Z,ac,ag,K⟩:=U;have al:name=[101,114,114,111,114]:=(f6 Y).symm;have e2:u=190:=f6 (Z.symm.trans Tryz.gT);subst al;subst e2;have am:ty=62:=by
  have:=lH.1 Tryz.ja ty (rH.2 ac);rw[ag] at this;simpa using this
 subst am;unfold World.var? at K;rw[Tryz.gL] at K;simp only[Option.bind_some] at K;split at K
 .rename_i c e f hW;simp only[sQ] at K;subst K;refine⟨_,e,f,hW,λj w O=>?_⟩;have ap:typeHandle Tryz.prog 62=.pointer (some ⟨1,62,none⟩):=by unfold typeHandle;rw[Tryz.fu]
  rw[ap]
  match j,O with
  | 0,O=>simp at O;subst O;rfl
  | j+1,O=>simp at O
 .cases K
theorem Y7{H:Type}{enc:TypeId×Value->H}{C:Checked}{os:Os}{f:FuncId}{fn:Func}{s:ChangeSpec}{conds:List PathCond}{apart:Bool}{X:World->Av_->Prop}(w0:World)(args:Av_)(fuel:Nat)(O:w0.os=os)
  (U:(w0.forCall (λ_ _=>0) ⟨#[],args,[]⟩).variablesB C.prog=true)
  (Y:((w0.forCall (λ_ _=>0) ⟨#[],args,[]⟩).heap.toList.drop C.prog.globals.size).take ((begin C.prog (λ_ _=>0) default).world.heap.size - C.prog.globals.size)=
   (begin C.prog (λ_ _=>0) default).world.heap.toList.drop C.prog.globals.size)
  (K:Input.okWideB C.prog (w0.forCall (λ_ _=>0) ⟨#[],args,[]⟩) f ⟨#[],args,[]⟩=true)
  (Z:s.preB enc C.prog fn conds apart (w0.forCall (λ_ _=>0) ⟨#[],args,[]⟩).memory args fuel=true)
  (ac:s.sizedB enc C.prog fn apart (w0.forCall (λ_ _=>0) ⟨#[],args,[]⟩).memory args fuel=true)
  (ag:X (w0.forCall (λ_ _=>0) ⟨#[],args,[]⟩).memory args):
  ∃(w:World) (tape:Tape) (i:Input),w.os=os/\(w.forCall tape i).Shaped C.prog/\i.vars=[]/\Input.okWide C.prog (w.forCall tape i) .any w.heap.size f i/\
   ((s.pre enc C.prog fn conds apart (w.forCall tape i).memory i.args/\X (w.forCall tape i).memory i.args)/\sizedMet enc C.prog fn (OpenSpec.ofChange s) apart (w.forCall tape i).memory i.args)/\({calm:=true}:Assume).holds C.prog (Go.lone (Frame.enter C.prog f i.args .normal) [] (w.forCall tape i)):=
 ⟨w0,λ_ _=>0,⟨#[],args,[]⟩,O,World.shaped_of_B U Y,(Input.okWide_of_okWideB (base:=0) K).1,(Input.okWide_of_okWideB K).2,⟨⟨ChangeSpec.pre_of_preB Z,ag⟩,sizedMet_of_sizedB ac⟩,by
  simp only[Assume.holds]
  exact⟨by simp,λ_ _ _ _=>rfl,by simp,by simp,by simp⟩⟩
end Pal
namespace Pal
open Go Go.Conc Go.Proofs
open Go.Proofs.Tryz
variable {J:Judge Tryz.prog}{E:LH}
variable {J:Judge Tryz.prog}{E:LH}
variable {J:Judge Tryz.prog}{E:LH}
def XI(fu_:Nat)(p0:List Int)(p1:Int)(K:Int):Option (Bm Int ((Int)⊕(Unit))):=if K<(p0.length:Int) then((ix p0 K).bind λO=>if O=p1 then(some (.done (Sum.inl K))) else((Au (K+1)).bind λU=>some (.more U))) else(some (.done (Sum.inr ())))
def f34(fu_:Nat)(p0:List Int)(p1:Int):Option Int:=Option.bind (iter (XI fu_ p0 p1) fu_ 0) λK=>Sum.elim (λr=>some r) (λO=>some (-1)) K
theorem lB{a1:As}{c2:Nat}{p0:List Int}{p2:Int}(aw:Ao rI E a1 c2 p0){fu_:Nat}{r:Int}(Z:f34 fu_ p0 p2=some r):AZ J 61 [sV a1 p0 c2,iV p2] E [] (λw E' B'=>w=iV r/\B'=[]):=by
 refine Bq func61 λQ b2 cs H ay ac=>?_;unfold f34 at Z;let⟨ag,az,al⟩:=bs Z;refine C 9 V (Bx (λL s=>∃(am:Unit) (ap:LH),ag=Sum.inr am/\Jm E H ap [] [] L s) ?_ ?_);rintro _ _ ⟨am,ap,rfl,rfl,rfl,a0,a2⟩;have a3:=elim_inr al;refine C 4 V ?_;cases a3;exact AW func61 V V (ac a0 V ⟨V,V⟩ a2);intro a4;refine JL.block (Ej az (λU=>[]) (λU=>[(0,sV a1 p0 c2),(1,iV p2),(5,iV U)]) AS ay ?_);rintro U a5 K Y aq ⟨b3,O⟩ a6;have av:=O;unfold XI at av;refine C 5 V (JL.ln underlying22 V V V ?_);refine C 2 V (AX av (λa7 a8=>?_) (λa7 a9=>?_));let⟨b4,bb,be⟩:=bs a8;refine C 7 V (JS.ix (aw.M K) bb underlying22 AK ?_);rintro b5 b6 _ rfl bi;refine CH 0 bi Bb V V V (C 3 V ?_);refine AX be (λbn bo=>?_) (λbn bv=>?_);refine C 5 V ?_;cases bo;obtain rfl:=aq _ O;have bw:=elim_inl al;cases bw;exact AW func61 V V (ac K V ⟨V,V⟩ Y);let⟨bx,bz,b0⟩:=bs bv;refine C 4 V (Bt bz V V V ?_);refine C 2 V ?_;cases b0;exact a6 bx K Y V O;refine JL.exit V ?_;cases a9;have b1:ag=(Sum.inr ()):=(aq _ O).symm;exact Az (a4 _ _ ⟨(),a5,b1,V,V,K,Y⟩) V
variable {J:Judge Tryz.prog}{E:LH}
end Pal
namespace Pal
open Go Go.Conc
variable {P:Program}{Q:Gs_}{b:Frame}{n:Nat}{ds:Ld_}{ops:Ao_}{cs:Lf_}{fuel:Nat}{D:Nat->Bool}{listed:Array Bool}{L:Env}{s:St}{E' H:LH}{S:List Seg}
variable {d:Option Tmp}{t u ty e:TypeId}{p:String}{af:Ae_}{g:On_}{v:Value}{i:Nat}{kd:IntKind}
section
variable {J:Judge P}{k:Li_}{m:Nat}{E:LH}
variable {x y:Operand}
end
open Go.Proofs Go.Proofs.Tryz
variable {J:Judge Tryz.prog}{E:LH}
end Pal
namespace Pal
open Go Go.Conc
variable {P:Program}{d:Option Tmp}{t u ty e:TypeId}{p:String}{af:Ae_}{g:On_}{s:St}{ρ:Operand->Value}
section
variable {x:Operand}
end
open Go.Proofs Go.Proofs.Tryz
variable {J:Judge Tryz.prog}{E:LH}
variable {J:Judge Tryz.prog}{E:LH}
def Qz(fu_:Nat)(p1:Int)(K:(List Int)×Int×Nat×(List Int)×Int):Option (Bm ((List Int)×Int×Nat×(List Int)×Int) ((List Int)×Cl)):=if K.2.2.2.2<p1 then((f36 fu_ (K.1,K.2.1,K.2.2.1) K.2.2.2.2).bind λO=>(room K.2.2.2.1 K.2.2.2.2).bind λU=>(ix U O.1).bind λY=>(ix U K.2.2.2.2).bind λac=>(ix (U.set (Int.toNat K.2.2.2.2) Y) O.1).bind λag=>(Au (K.2.2.2.2+1)).bind λZ=>some (.more (O.2.1,O.2.2.1,O.2.2.2,((U.set (Int.toNat K.2.2.2.2) Y).set (Int.toNat O.1) K.2.2.2.2),Z))) else(some (.done (K.2.2.2.1,K.1,K.2.1,K.2.2.1)))
def f49(fu_:Nat)(p0:Cl)(p1:Int):Option ((List Int)×(Cl)):=Option.bind (iter (Qz fu_ p1) fu_ (p0.1,p0.2.1,p0.2.2,[],0)) λK=>some K
theorem X1{bk:Nat}{a1:As}{c2:Nat}{p0:Cl}{p2:Int}(ce:Ao rI E a1 c2 p0.1){fu_:Nat}{r:(List Int)×(Cl)}(bb:f49 fu_ p0 p2=some r):AZ J 20 [Ar bk 0,iV p2] E [(bk,.cells #[sV a1 p0.1 c2,iV p0.2.1,.int .u64 ((p0.2.2:Nat):Int)] 46 (0,0))] (λw E' B'=>∃(be:As) (bi:Nat) (bn:As) (bo:Nat),w= sV be r.1 bi/\B'=[(bk,.cells #[sV bn r.2.1 bo,iV r.2.2.1,.int .u64 ((r.2.2.2:Nat):Int)] 46 (0,0))]/\Ao rI E' be bi r.1/\Ao rI E' bn bo r.2.1):=by
 refine Bq func20 λQ ff cs H ci co=>?_;unfold f49 at bb;let⟨ag,cp,ct⟩:=bs bb;refine C 13 V (Bx (λL s=>∃(aw:LH) (ay:As) (az:Nat) (a6:Seg) (a0:As) (a2:Nat),Jn E H aw [bX bk #[sV a0 ag.2.1 a2,iV ag.2.2.1,.int .u64 ((ag.2.2.2:Nat):Int)] 46,a6] [(5,sV ay ag.1 az)] L s (OL 3 rI aw ay az a6 ag.1/\Ao rI aw a0 a2 ag.2.1)) ?_ ?_);rintro _ _ ⟨aw,ay,az,a6,a0,a2,rfl,rfl,cw,cy,c0,c1⟩;refine C 5 V (Ck 1 c0 cy V λfk bv c3 c4=>?_);cases ct;exact AW func20 V V (co (cw.Ad bv) V ⟨ay,az,a0,a2,V,V,c3,(c1.M bv)⟩ c4);intro c5;refine JL.block (Ch cp (λL s K=>∃(al:LH) (a3:As) (a4:Nat) (am:As) (ap:Nat) (a5:Seg),Jn E H al [bX bk #[sV a3 K.1 a4,iV K.2.1,.int .u64 ((K.2.2.1:Nat):Int)] 46,a5] [(0,Ar bk 0),(1,iV p2),(5,sV am K.2.2.2.1 ap),(6,iV K.2.2.2.2)] L s (Ao rI al a3 a4 K.1/\OL 3 rI al am ap a5 K.2.2.2.1)) ⟨E,a1,c2,none,0,[],V,V,AS,ci,ce,OL.nil⟩ ?_);rintro _ _ K ⟨al,a3,a4,am,ap,a5,rfl,rfl,bw,bx,bz,b0⟩ c6 ⟨fl,a7⟩ c7;have b1:=a7;unfold Qz at b1;refine C 7 V (AX b1 (λc8 c9=>?_) (λc8 dd=>?_));let⟨U,dj,ea⟩:=bs c9;refine C 7 V (Cg 0 (Lf bz dj) V V KS bx V ?_);rintro _ eb _ b2 ⟨ec,ed,rfl,rfl,ee⟩ ef;let⟨Y,eg,ej⟩:=bs ea;refine C 6 V (JS.app (pp:=rI) (v:=iV K.2.2.2.2) (a:=am) (c:=ap) 1 eg V V V V (λ_=>V) V (λ_=>V) V V V underlying22 underlying22 underlying22 AK (Dc type3) CR V (by decide) (by decide) (by decide) (by decide) (b0.M b2) V ef V λfm Z ac fo b3 b4=>?_);let⟨O,ek,el⟩:=bs ej;refine C 9 V (Ji 1 b3 ek V V V V V V underlying22 AK ?_);rintro b5 b6 f77 _ em rfl eo fs fv fw fN;refine An (v:=iV O) V (λρ h=>Yl.load Bb (h _ _ V) (B8 (j:=1) b4 em (eo 0 _ V))) ?_;let⟨gc,ep,er⟩:=bs el;refine C 1 V (Ji 1 b3 ep V V V V V V underlying22 AK ?_);rintro ca a8 f88 _ eu rfl ge ew ex gg gh;refine JS.store (v:=iV O) (off:=a8) 1 V V V b4 V V AK (by simp[Value.cells,C5]) eu (by have:=ew;simp only[Rp.n,rK,rN,rB,rP,rL] at this;show _+1<=_;omega) λey=>?_;have eA:=ex O [iV O] V;have aq:(Y.set (Int.toNat K.2.2.2.2) O).length=Y.length:=rW;refine EV (L':=[(0,Ar bk 0),(1,iV p2),(6,iV K.2.2.2.2),(8,iV K.2.2.2.2),(9,iV p2),(10,.bool (decide (K.2.2.2.2<p2))),(13,Ar bk 0),(14,iV K.2.2.2.2),(15,iV U.1),(7,iV U.1),(17,iV K.2.2.2.2),(19,.slice Z ((Y.set (Int.toNat K.2.2.2.2) O)).length ac),(5,.slice Z ((Y.set (Int.toNat K.2.2.2.2) O)).length ac),(20,.slice Z ((Y.set (Int.toNat K.2.2.2.2) O)).length ac),(21,iV K.2.2.2.2),(22,.slice Z ((Y.set (Int.toNat K.2.2.2.2) O)).length ac),(23,iV U.1),(24,.slice Z ((Y.set (Int.toNat K.2.2.2.2) O)).length ac),(25,iV U.1),(26,Ar b5 b6),(27,iV O),(28,iV K.2.2.2.2),(29,Ar ca a8)]) ⟨V,V,V,V,V,V,V,V,V,V,V,by rw[aq];rfl,by rw[aq];rfl,by rw[aq];rfl,V,by rw[aq];rfl,V,by rw[aq];rfl,V,V,V,V,V,trivial⟩ ?_;let⟨gt,eC,eN⟩:=bs er;refine Ji 1 eA eC V V V V V V underlying22 AK ?_;rintro cc a9 f102 _ e0 rfl gE e1 e3 gO g0;refine JS.store (v:=iV K.2.2.2.2) (off:=a9) 1 V V V ey V V AK (by simp[Value.cells,C5]) e0 (by have:=e1;simp only[Rp.n,rK,rN,rB,rP,rL] at this;show _+1<=_;omega) λe4=>?_;have e5:=e3 K.2.2.2.2 [iV K.2.2.2.2] V;have av:((Y.set (Int.toNat K.2.2.2.2) O).set (Int.toNat U.1) K.2.2.2.2).length=((Y.set (Int.toNat K.2.2.2.2) O)).length:=rW;refine EV (L':=[(0,Ar bk 0),(1,iV p2),(6,iV K.2.2.2.2),(8,iV K.2.2.2.2),(9,iV p2),(10,.bool (decide (K.2.2.2.2<p2))),(13,Ar bk 0),(14,iV K.2.2.2.2),(15,iV U.1),(7,iV U.1),(17,iV K.2.2.2.2),(19,.slice Z (((Y.set (Int.toNat K.2.2.2.2) O).set (Int.toNat U.1) K.2.2.2.2)).length ac),(5,.slice Z (((Y.set (Int.toNat K.2.2.2.2) O).set (Int.toNat U.1) K.2.2.2.2)).length ac),(20,.slice Z (((Y.set (Int.toNat K.2.2.2.2) O).set (Int.toNat U.1) K.2.2.2.2)).length ac),(21,iV K.2.2.2.2),(22,.slice Z (((Y.set (Int.toNat K.2.2.2.2) O).set (Int.toNat U.1) K.2.2.2.2)).length ac),(23,iV U.1),(24,.slice Z (((Y.set (Int.toNat K.2.2.2.2) O).set (Int.toNat U.1) K.2.2.2.2)).length ac),(25,iV U.1),(26,Ar b5 b6),(27,iV O),(28,iV K.2.2.2.2),(29,Ar ca a8),(30,Ar cc a9)]) ⟨V,V,V,V,V,V,V,V,V,V,V,by rw[av];rfl,by rw[av];rfl,by rw[av];rfl,V,by rw[av];rfl,V,by rw[av];rfl,V,V,V,V,V,V,trivial⟩ ?_;let⟨e6,e7,e8⟩:=bs eN;refine C 4 V (Bt e7 V V V ?_);refine C 2 V ?_;cases e8;exact Az (c7 _ _ (U.2.1,U.2.2.1,U.2.2.2,((Y.set (Int.toNat K.2.2.2.2) O).set (Int.toNat U.1) K.2.2.2.2),e6) ⟨eb,ec,ed,Z,ac,[(cc,.cells (Bc f102 a9 [iV K.2.2.2.2]) 3 (0,0))],V,V,(bw.Ad b2),e4,ee,e5⟩ a7) V;refine JL.exit V ?_;cases dd;obtain rfl:=c6 _ a7;exact Az (c5 _ _ ⟨al,am,ap,a5,a3,a4,V,V,bw,bx,b0,bz⟩) V
end Pal
namespace Pal
def Ap{α:Type}(o:Option α)(Q:α->Prop):Prop:=∃a,o=some a/\Q a
variable {α β:Type}{Q R:α->Prop}
theorem Am{a:α}(h:Q a):Ap (some a) Q:=⟨a,V,h⟩
theorem Ap.M{o:Option α}(h:Ap o R)(k:∀a,R a->Q a):Ap o Q:=let ⟨a,K,O⟩:=h;⟨a,K,k a O⟩
theorem AE{o:Option β}{f:β->Option α}{S:β->Prop}(h:Ap o S)(k:∀b,S b->Ap (f b) Q):Ap (o.bind f) Q:=by
 obtain⟨b,rfl,hb⟩:=h;let⟨a,K,O⟩:=k b hb;exact⟨a,K,O⟩
theorem AY{o:Option β}{f:β->Option α}{b:β}(h:o=some b)(k:Ap (f b) Q):Ap (o.bind f) Q:=by subst h;exact k
theorem Ap.mB{f:Int->Option α}{x:Int}(K: -9223372036854775808<=x)(O:x<=9223372036854775807)(k:Ap (f x) Q):Ap ((Au x).bind f) Q:=AY (d6 ⟨K,O⟩) k
variable{i:Int}
theorem H8{xs:List β}{m:Nat}{b:β}(h:i=(m:Int))(hb:xs[m]?=some b):ix xs i=some b:=by subst h;simpa [ix] using hb
theorem Ba{f:β->Option α}{xs:List β}{m:Nat}(h:i=(m:Int))(hm:m<xs.length)(k:Ap (f xs[m]) Q):Ap ((ix xs i).bind f) Q:=AY (H8 h (cT hm)) k
theorem HW{f:List β->Option α}{xs:List β}{x:β}(h:xs.length+1<=2^40)(k:Ap (f (xs++ [x])) Q):Ap ((room xs x).bind f) Q:=AY (d6 h) k
variable{c:Prop}
theorem Bw [Decidable c] {x y:Option α}(K:c->Ap x Q)(O:¬c->Ap y Q):Ap (if c then x else y) Q:=by
 by_cases h:c;rw[d6 h];exact K h;rw[d0 h];exact O h
theorem BR [Decidable c] {x y:Option α}(h:c)(k:Ap x Q):Ap (if c then x else y) Q:=by rw[d6 h];exact k
theorem BO [Decidable c] {x y:Option α}(h:¬c)(k:Ap y Q):Ap (if c then x else y) Q:=by rw[d0 h];exact k
def Bm.sat{S A:Type}(I:S->Prop)(Q:A->Prop):Bm S A->Prop
 | .more s=>I s
 | .done a=>Q a
variable{S:Type}
theorem FJ{body:S->Option (Bm S α)}(I:Nat->S->Prop)(round:∀m s,I m s->Ap (body s) (Bm.sat (λs'=>∃m',m'<m/\I m' s') Q)):
  ∀{m fuel:Nat}{s:S},I m s->m<fuel->Ap (iter body fuel s) Q:=by
 intro m
 induction m using Nat.strongRecOn with
 | _ m O=>
  intro fuel s U ag;obtain⟨fuel,rfl⟩:∃k,fuel=k+1:=⟨fuel - 1,by omega⟩;let⟨st,Y,K⟩:=round m s U;unfold Pal.iter;rw[Y];cases st with
  | more s'=>
   obtain⟨m',Z,ac⟩:=K;exact O m' Z ac (by omega)
  | done a=>exact⟨a,rfl,K⟩
variable{F:Nat}
theorem CZ{A:Type}{body:S->Option (Bm S A)}{Q:A->Prop}{K:S}(n:Nat)(I:Nat->S->Prop)(Y:I 0 K)(ac:n<F)
  (round:∀i s,i<n->I i s->Ap (body s) (Bm.sat (I (i+1)) Q)) (last:∀s,I n s->Ap (body s) (λst=>∃a,st=.done a/\Q a)):Ap (Pal.iter body F K) Q:=by
 refine FJ (λm s=>∃i,i<=n/\m=n - i/\I i s) ?_ (m:=n - 0) ⟨0,sC _,V,Y⟩ (by omega);rintro m s ⟨i,hi,rfl,O⟩;rcases jH i n with Z | ag
 .refine(round i s Z O).M ?_;intro st U;cases st with
  | more s'=>exact⟨n - (i+1),by omega,i+1,by omega,rfl,U⟩
  | done a=>exact U
 .obtain rfl:i=n:=by omega
  refine(last s O).M ?_;rintro st ⟨a,rfl,h⟩;exact h
theorem Dx{α:Type}{o:Option α}{a:α}(h:Ap o (λx=>x=a)):o=some a:=by obtain⟨x,K,rfl⟩:=h;exact K
theorem L4{α:Type}{Q:α->Prop}{f:Int->Option α}{x:Int}(y:Int)(h:x=y)(K: -9223372036854775808<=y)(O:y<=9223372036854775807)(k:Ap (f y) Q):Ap ((Au x).bind f) Q:=by subst h;exact Ap.mB K O k
theorem Ap.E{α:Type}{Q:α->Prop}{f:Int->Option α}{x:Int}(y:Int)(h:x=y)(k:Ap (f y) Q)(K: -9223372036854775808<=y:=by omega)(O:y<=9223372036854775807:=by omega):Ap ((Au x).bind f) Q:=L4 y h K O k
theorem Ap.OA{α β:Type}{Q:α->Prop}{f:List β->Option α}{xs ys:List β}(h:xs.length+ys.length<1000)(k:Ap (f (xs++ys)) Q):Ap ((Ex xs ys).bind f) Q:=AY (by unfold Ex;rw[d6 (by omega)]) k
abbrev Ir:=List Int×Int×Nat
def BG(k:Nat)(b:Ir):Prop:=0<=b.2.1/\b.2.1<=(k:Int)
variable{b:Ir}
theorem BG.M{k k':Nat}(h:BG k b)(K:k<=k'):BG k' b:=⟨h.1,by have:=h.2;omega⟩
theorem iu{k:Nat}(hb:BG k b)(K:k<1000000):Ap (f83 F b) (λr=>r.1<2^64/\BG (k+1) r.2):=by
 obtain⟨O,U⟩:=hb;unfold f83;refine Ap.E (b.2.1+1) V ?_;have key:∀x:Nat,(x%2^64)>>>11<2^64:=λx=>tJ (Nat.shiftRight_le _ _) (uU _ (uq 64));refine AE (S:=λ_=>True) ?_ ?_;refine Bw (λh=>?_) (λh=>?_);refine Ap.E b.2.1 (by omega) (Ba (m:=b.2.1.toNat) (by omega) (by omega) ?_);exact Am trivial;exact Am trivial;intro x _;exact Am ⟨key _,by simp only;omega,by simp only;omega⟩
theorem UK{a:Nat}(h:a<2^62):Ke a=(a:Int):=by
 unfold Ke;exact KZ (by omega)
theorem La{k:Nat}{m:Int}(hb:BG k b)(O:k<1000000)(hm:m<1000000):Ap (f36 F b m) (λr=>0<=r.1/\(r.1<=m∨r.1=0)/\BG (k+1) r.2):=by
 unfold f36;refine AE (iu hb O) ?_;rintro⟨x,b'⟩ ⟨Z,K⟩;refine Bw (λh=>?_) (λh=>?_);exact Am ⟨by simp,.inr V,K⟩
 .have U:CC m=m.toNat:=by unfold CC;omega
  have e2:(CC m+1)%2^64=m.toNat+1:=by rw[U];omega
  have Y:x%(m.toNat+1)<m.toNat+1:=uU _ (by omega);refine AY (b:=x%(m.toNat+1)) (by rw[e2];unfold QX;rw[d0 (by omega)]) ?_;refine Am ?_;simp only;generalize x%(m.toNat+1)=z at Y ⊢;rw[UK (by omega)];exact⟨by omega,.inl (by omega),K⟩
theorem S4{k:Nat}{lo hi:Int}(hb:BG k b)(O:k<1000000)(Y:0<=lo)(Z:lo<=hi)(ac:hi<1000):Ap (f37 F b lo hi) (λr=>lo<=r.1/\r.1<=hi/\BG (k+1) r.2):=by
 unfold f37;refine Ap.E (hi - lo) V (AE (La hb O (by omega)) ?_);rintro⟨x,b'⟩ ⟨U,g2,K⟩;simp only at U g2 K ⊢;exact Ap.E (lo+x) V (Am ⟨by simp only;omega,by simp only;omega,K⟩)
theorem jB{k:Nat}{m:Int}(hb:BG k b)(K:k<1000000)(U:1<=m)(Y:m<1000):Ap (f32 F b m) (λr=>BG (k+1) r.2):=by
 unfold f32;refine Ap.E (m - 1) V (AE (La hb K (by omega)) ?_);rintro⟨x,b'⟩ ⟨Z,g2,O⟩;exact Am O
variable{l:List Int}
theorem Xl{k:Nat}(hb:BG k b)(U:k<1000000)(Z:0<l.length)(ac:l.length<1000):Ap (f81 F b l) (λr=>r.1∈l/\BG (k+1) r.2):=by
 unfold f81;refine Ap.E ((l.length - 1:Nat):Int) (by omega) (AE (La hb U (by omega)) ?_);rintro⟨x,b'⟩ ⟨Y,g2,K⟩;simp only at Y g2 K ⊢;have O:x.toNat<l.length:=by omega
 exact Ba (m:=x.toNat) (by omega) O (Am ⟨jK O,K⟩)
abbrev DT:=Int×Int×Int
abbrev OW:=Bs×List DT
structure NV (n:Nat) (o:OW):Prop where
 l1:o.1.length<=n
 n1:∀x∈o.1,x.length<=n
 l2:o.2.length<=n
theorem Xh(K:100<F)(O:l.length<=40):f29 F l l=some true:=by
 refine Dx ?_;unfold f29;refine AE (S:=λq=>q=Sum.inr ()) ?_ (by rintro q rfl;exact Am (by simp));refine CZ l.length (λi s=>s=(i:Int)) V (by omega) ?_ ?_;rintro i s hi rfl;unfold Qp;refine AE (S:=λc=>c=true) (BR (by omega) (Am (sL (by omega)))) ?_;rintro c rfl;refine BR V (Ba (m:=i) V hi ?_);refine Ba (m:=i) V hi (BO (by simp) ?_);exact Ap.E ((i+1:Nat):Int) (by simp) (Am V);rintro s rfl;unfold Qp;refine AE (S:=λc=>c=false) (BO (by omega) (Am V)) ?_;rintro c rfl;exact BO (by simp) (Am ⟨_,V,V⟩)
theorem Ma(F:Nat)(a lo hi:Int):f92 F a lo hi=some (decide (lo<=a/\a<=hi)):=by
 unfold f92;by_cases h:lo<=a;rw[d6 h];simp[h];rw[d0 h];simp[h]
variable{o:OW}
theorem dN(h:ix o.1 i=some l):Qg F l=N5 F o i:=by
 funext j;unfold Qg N5;rw[h];rfl
theorem dk(F:Nat)(o:OW):Qv F o=Ob F o:=by
 funext i;unfold Qv Ob;split;rcases h:ix o.1 i with _ | l;rfl;simp only[Option.bind_some];rw[dN h];rfl
theorem jd(F:Nat)(o:OW):f47 F o=f48 F o:=by
 unfold f47 f48;rw[dk];rfl
def VD(n:Nat)(d:DT):Prop:=0<=d.1/\d.1<(n:Int)/\0<=d.2.1/\d.2.1<(n:Int)/\d.1≠d.2.1/\1<=d.2.2/\d.2.2<=9
def CS(x:List Int):Prop:=x.length<=3/\∀c∈x,1<=c/\c<=9
structure VO (o:OW):Prop where
 n2:2<=o.1.length
 n5:o.1.length<=5
 cs:∀x∈o.1,CS x
 d8:o.2.length<=8
 ds:∀d∈o.2,VD o.1.length d
theorem VO.nv(h:VO o):NV 40 o:=⟨by have:=h.n5;omega,λx K=>by have:=(h.cs x K).1;omega,by have:=h.d8;omega⟩
theorem Jg{α:Type}{P:α->Prop}{l:List α}{i:Nat}(hi:i<l.length)(h:∀x∈l.take i,P x)(k:P l[i]):∀x∈l.take (i+1),P x:=by
 intro x K;rw[sE,cT hi] at K;simp only[tj,kO,bN] at K;rcases K with K | rfl;exact h x K;exact k
variable{d:DT}{n:Nat}
theorem gZ(Y:n<1000):Ap (f88 F (n:Int) d 9) (λr=>r=0↔VD n d):=by
 unfold f88;refine Ap.E ((n:Int) - 1) V (AY (Ma _ _ _ _) ?_);refine AE (S:=λc=>c=true↔¬((0<=d.1/\d.1<(n:Int))/\0<=d.2.1/\d.2.1<(n:Int))) ?_ ?_;refine Bw (λh=>Am ?_) (λh=>?_);simp at h;simp;omega;refine Ap.E ((n:Int) - 1) V (AY (Ma _ _ _ _) ?_);refine Am ?_;simp at h;simp;omega
 .intro c O;refine Bw (λh=>Am ?_) (λh=>?_);have:=O.1 h;unfold VD;constructor;intro h;cases h;intro h;omega
  have Z:¬¬_:=λk=>h (O.2 k);refine Bw (λU=>Am ?_) (λU=>?_);unfold VD;constructor;intro h;cases h;intro h;omega
  refine AY (Ma _ _ _ _) (Bw (λK=>Am ?_) (λK=>Am ?_));simp at K;unfold VD;constructor;intro h;cases h;intro h;omega;simp at K;unfold VD;constructor;intro h;omega;intro h;rfl
theorem kP(Z:100<F)(h:NV 40 o):Ap (f48 F o) (λr=>r=0↔VO o):=by
 unfold f48;have ac:=h.l1;have ag:=h.l2;refine Bw (λg=>Am (uf (by decide) λv=>by have:=v.n2;omega)) (λal=>?_);refine Bw (λg=>Am (uf (by decide) λv=>by have:=v.n5;omega)) (λg2=>?_);refine AE (S:=λq=>(∃e,q=Sum.inl e/\e≠0/\¬∀x∈o.1,CS x)∨(q=Sum.inr ()/\∀x∈o.1,CS x)) ?_ ?_
 .refine CZ o.1.length (λi s=>s=(i:Int)/\∀x∈o.1.take i,CS x) ⟨V,by simp⟩ (by omega) ?_ ?_
  .rintro i s hi ⟨rfl,K⟩;unfold Ob;refine BR (by omega) (Ba (m:=i) V hi ?_);have am:=h.n1 _ (jK hi);refine Bw (λg=>Am (.inl ⟨_,V,by decide,λk=>by have:=(k _ (jK hi)).1;omega⟩)) (λap=>?_);refine AE (S:=λq=>(q=Sum.inl 1/\¬CS o.1[i])∨(q=Sum.inr ()/\CS o.1[i])) ?_ ?_
   .refine CZ o.1[i].length (λj s=>s=(j:Int)/\∀c∈o.1[i].take j,1<=c/\c<=9) ⟨V,by simp⟩ (by omega) ?_ ?_
    .rintro j s U ⟨rfl,O⟩;unfold N5;refine Ba (m:=i) V hi (BR (by omega) ?_);refine Ba (m:=i) V hi (Ba (m:=j) V U ?_);refine AY (Ma _ _ _ _) (Bw (λg=>Am (.inl ⟨V,λk=>?_⟩)) (λg=>?_));have:=k.2 _ (jK U);simp at g;omega
     refine Ap.E ((j+1:Nat):Int) (by simp) (Am ⟨V,Jg U O ?_⟩);simpa using g
    .rintro s ⟨rfl,O⟩;unfold N5;refine Ba (m:=i) V hi ?_;rw[se] at O;exact BO (by omega) (Am ⟨_,V,.inr ⟨V,by omega,O⟩⟩)
   .rintro q (⟨rfl,g⟩ | ⟨rfl,g⟩);rw[Sum.elim_inl];exact Am (.inl ⟨_,V,by decide,λk=>g (k _ (jK hi))⟩);rw[Sum.elim_inr];exact Ap.E ((i+1:Nat):Int) (by simp) (Am ⟨V,Jg hi K g⟩)
  .rintro s ⟨rfl,K⟩;unfold Ob;rw[se] at K;exact BO (by omega) (Am ⟨_,V,.inr ⟨V,K⟩⟩)
 .rintro q (⟨e,rfl,he,g⟩ | ⟨rfl,O⟩);rw[Sum.elim_inl];exact Am (uf he λv=>g v.cs);rw[Sum.elim_inr];refine Bw (λg=>Am (uf (by decide) λv=>by have:=v.d8;omega)) (λg2=>?_);refine AE (S:=λq=>(∃e,q=Sum.inl e/\e≠0/\¬∀d∈o.2,VD o.1.length d)∨(q=Sum.inr ()/\∀d∈o.2,VD o.1.length d)) ?_ ?_;refine CZ o.2.length (λi s=>s=(i:Int)/\∀d∈o.2.take i,VD o.1.length d) ⟨V,by simp⟩ (by omega) ?_ ?_;rintro i s hi ⟨rfl,K⟩;unfold S8;refine BR (by omega) (Ba (m:=i) V hi ?_);refine AE (gZ (by omega)) ?_;intro x Y;refine Bw (λg=>Am (.inl ⟨_,V,g,λk=>g (Y.2 (k _ (jK hi)))⟩)) (λg=>?_);exact Ap.E ((i+1:Nat):Int) (by simp) (Am ⟨V,Jg hi K (Y.1 (tB.1 g))⟩);rintro s ⟨rfl,K⟩;unfold S8;rw[se] at K;exact BO (by omega) (Am ⟨_,V,.inr ⟨V,K⟩⟩);rintro q (⟨e,rfl,he,g⟩ | ⟨rfl,g⟩);rw[Sum.elim_inl];exact Am (uf he λv=>g v.ds);rw[Sum.elim_inr];exact Am (uY V ⟨by omega,by omega,O,by omega,g⟩)
theorem kD(K:100<F)(h:NV 40 o):Ap (f47 F o) (λr=>r=0↔VO o):=jd F o▸kP K h
theorem lD(K:100<F)(h:VO o):f47 F o=some 0:=by
 let⟨r,O,U⟩:=kD K h.nv;rw[O,U.2 h]
theorem QN(K:100<F)(h:VO o):f70 F o []=some (o,0):=by
 obtain⟨F,rfl⟩:∃k,F=k+1:=⟨F - 1,by omega⟩;unfold f70;rw[lD K h]
 rfl
theorem dH(a n:Int):a%n=(a - n)%n:=by
 have h:a=(a - n)+n*1:=by omega
 conv=>lhs;rw[h]
 exact Int.add_mul_emod_self_left _ _ _
theorem jE{k:Nat}(hb:BG k b)(av:k<900000)(aw:2<=n)(ay:n<900):Ap (f40 F b (n:Int)) (λr=>VD n r.1/\BG (k+4) r.2):=by
 unfold f40;refine Ap.E ((n:Int) - 1) V (AE (La hb (by omega) (by omega)) ?_);rintro⟨x,az⟩ ⟨O,g2,U⟩;simp only at O g2 U ⊢;refine AE (S4 U (by omega) (by omega) (by omega) (by omega)) ?_;rintro⟨x2,a0⟩ ⟨a1,am,Y⟩;simp only at a1 am Y ⊢;refine AE (Xl Y (by omega) (by simp) (by simp)) ?_;rintro⟨Z,a2⟩ ⟨ac,ag⟩;simp only at ac ag ⊢;refine Ap.E ((n:Int) - 1) V (AE (S4 ag (by omega) (by omega) (by omega) (by omega)) ?_);rintro⟨K,a3⟩ ⟨ap,aq,al⟩;simp only at ap aq al ⊢;refine Ap.E (x+K) V (AY (b:=(x+K).tmod n) (by unfold Q5;rw[d0 (by omega)]) ?_);refine Am ⟨?_,al⟩;have e:(x+K).tmod n=(x+K)%n:=Int.tmod_eq_emod_of_nonneg (by omega);have p3:1<=Z/\Z<=9:=by
  simp only[iC,rO,sX] at ac;omega
 have a4:(x+K)%(n:Int)<n:=Int.emod_lt_of_pos _ (by omega);have a5:0<=(x+K)%(n:Int):=Int.emod_nonneg _ (by omega);have a6:x≠(x+K)%(n:Int):=by
  rcases Int.lt_or_le (x+K) n with h | h;rw[Int.emod_eq_of_lt (by omega) h];omega;rw[dH,Int.emod_eq_of_lt (by omega) (by omega)];omega
 refine⟨O,?_,?_,?_,?_,p3.1,p3.2⟩<;>simp only[e]<;>omega
theorem jo{k pm dm:Nat}(a5:100<F)(hb:BG k b)(a6:k<1000)(a7:2<=pm)(a8:pm<=5)(hd:dm<=8):Ap (f31 F b pm dm) (λr=>VO r.1/\r.1.1.length<=pm/\r.1.2.length<=dm/\BG (k+100) r.2):=by
 unfold f31;refine AE (S4 hb (by omega) (by omega) (by omega) (by omega)) ?_;rintro⟨n,a9⟩ ⟨n1,n2,ay⟩;simp only at n1 n2 ay ⊢;obtain⟨n,rfl⟩:∃m:Nat,n=(m:Int):=⟨n.toNat,by omega⟩;refine AE (jB ay (by omega) (by omega) (by omega)) ?_;rintro⟨bb,be⟩ g2;simp only at g2 ⊢;refine AE (S:=λr=>r.2.2.2.length=n/\(∀x∈r.2.2.2,CS x)/\BG (k+30) (r.1,r.2.1,r.2.2.1)) ?_ ?_;refine CZ n (λi s=>s.2.2.2.2=(i:Int)/\s.1.length=i/\(∀x∈s.1,CS x)/\BG (k+2+5*i) (s.2.1,s.2.2.1,s.2.2.2.1)) ⟨V,V,by simp,g2⟩ (by omega) ?_ ?_;rintro i ⟨ps,l,t,ag,c⟩ hi ⟨al,am,ap,K⟩;simp only at al am ap K;subst al;unfold Qm;refine BR (by simp only;omega) (AE (La K (by omega) (by omega)) ?_);rintro⟨c,bi⟩ ⟨c1,c2,aq⟩;simp only at c1 c2 aq ⊢;obtain⟨c,rfl⟩:∃m:Nat,c=(m:Int):=⟨c.toNat,by omega⟩;refine AE (S:=λr=>CS r.1/\BG (k+2+5*i+1+c) r.2) ?_ ?_;refine CZ c (λj s=>s.2.2.2.2=((c - j:Nat):Int)/\s.2.2.2.1.length=j/\(∀v∈s.2.2.2.1,1<=v/\v<=9)/\BG (k+2+5*i+1+j) (s.1,s.2.1,s.2.2.1)) ⟨V,V,by simp,aq⟩ (by omega) ?_ ?_;rintro j ⟨l,t,ag,w,z⟩ a3 ⟨U,hw,O,K⟩;simp only at U hw O K;subst U;unfold Qw;refine BR (by simp only;omega) (AE (S:=λr=>r.1.length=j+1/\(∀v∈r.1,1<=v/\v<=9)/\BG (k+2+5*i+1+(j+1)) r.2) ?_ ?_);refine Bw (λ_=>?_) (λ_=>?_);refine HW (by simp only;omega) (Am ⟨by simp[hw],?_,K.M (by omega)⟩);intro v h;rcases kO.1 h with h | h;exact O v h;have:=bN.1 h;omega;refine AE (Xl K (by omega) (by simp) (by simp)) ?_;rintro⟨v,a4⟩ ⟨az,av⟩;simp only at az av ⊢;refine HW (by omega) (Am ⟨by simp[hw],?_,av⟩);intro u h;rcases kO.1 h with h | h;exact O u h;have:=bN.1 h;subst this;simp only[iC,rO,sX] at az;omega;rintro⟨w',l',bn,bo⟩ ⟨Z,aw,ac⟩;simp only at Z ac aw ⊢;exact Ap.E ((c - (j+1):Nat):Int) (by omega) (Am ⟨V,Z,aw,ac⟩);rintro⟨l,t,ag,w,z⟩ ⟨U,hw,O,K⟩;simp only at U hw O K;subst U;unfold Qw;exact BO (by simp) (Am ⟨_,V,⟨by simp only;omega,O⟩,K⟩);rintro⟨w,a4⟩ ⟨Z,ac⟩;simp only at Z ac ⊢;refine HW (by omega) (Ap.E ((i+1:Nat):Int) (by simp) ?_);refine Am ⟨V,by simp[am],λx Y=>?_,ac.M (by omega)⟩;simp only[kO,bN] at Y;rcases Y with Y | rfl;exact ap x Y;exact Z;rintro⟨ps,l,t,ag,c⟩ ⟨al,am,ap,K⟩;simp only at al am ap K;subst al;unfold Qm;exact BO (by simp) (Am ⟨_,V,am,ap,K.M (by omega)⟩);rintro⟨l,t,ag,ps⟩ ⟨p1,p2,aq⟩;simp only at p1 p2 aq ⊢;refine AE (La aq (by omega) (by omega)) ?_;rintro⟨c,bv⟩ ⟨c1,c2,av⟩;simp only at c1 c2 av ⊢;obtain⟨c,rfl⟩:∃m:Nat,c=(m:Int):=⟨c.toNat,by omega⟩;refine AE (S:=λr=>r.2.2.2.length<=dm/\(∀d∈r.2.2.2,VD n d)/\BG (k+100) (r.1,r.2.1,r.2.2.1)) ?_ ?_;refine CZ c (λj s=>s.2.2.2.2=((c - j:Nat):Int)/\s.1.length=j/\(∀d∈s.1,VD n d)/\BG (k+31+4*j) (s.2.1,s.2.2.1,s.2.2.2.1)) ⟨V,V,by simp,av.M (by omega)⟩ (by omega) ?_ ?_;rintro j ⟨a0,l,t,ag,z⟩ a3 ⟨U,hw,O,K⟩;simp only at U hw O K;subst U;unfold Qn;refine BR (by simp only;omega) (AE (jE K (by omega) (by omega) (by omega)) ?_);rintro⟨d,bw⟩ ⟨a1,a2⟩;simp only at a1 a2 ⊢;refine Ap.OA (by simp;omega) (Ap.E ((c - (j+1):Nat):Int) (by omega) ?_);refine Am ⟨V,by simp[hw],?_,a2.M (by omega)⟩;intro x Y;rcases kO.1 Y with Y | Y;exact O x Y;cases bN.1 Y;exact a1;rintro⟨a0,l,t,ag,z⟩ ⟨U,hw,O,K⟩;simp only at U hw O K;subst U;unfold Qn;exact BO (by simp) (Am ⟨_,V,by simp only;omega,O,K.M (by omega)⟩);rintro⟨l,t,ag,a0⟩ ⟨Z,aw,ac⟩;simp only at Z ac aw ⊢;exact Am ⟨⟨by simp only;omega,by simp only;omega,p2,by simp only;omega,by simp only;rw[p1];exact aw⟩,by simp only;omega,Z,ac⟩
abbrev PR:=Int×Int
def gN(l:List Int)(i:Nat):Int:=l.getD i 0
def Fv(l:List Int)(i v:Int):List Int:=l.set i.toNat (gN l i.toNat+v)
def BN(B:Int)(l:List Int):Prop:=l.length=5/\∀x∈l,-B<=x/\x<=B
theorem K8{i:Nat}(h:i<l.length):gN l i=l[i]:=by unfold gN;rw[f7,cT h];rfl
variable{B:Int}
theorem BN.bd(h:BN B l){i:Nat}(hi:i<5): -B<=gN l i/\gN l i<=B:=by
 rw[K8 (by have:=h.1;omega)];exact h.2 _ (jK _)
theorem BN.ix(h:BN B l)(K:0<=i)(hi:i<5):ix l i=some (gN l i.toNat):=by
 have:=h.1;rw[K8 (show i.toNat<l.length by omega)];exact H8 (m:=i.toNat) (by omega) (cT _)
theorem BN.M{C:Int}(h:BN B l)(O:B<=C):BN C l:=⟨h.1,λx K=>by have:=h.2 x K;omega⟩
variable{v:Int}
theorem BN.add{V:Int}(h:BN B l)(O:0<=i)(hi:i<5)(U: -V<=v)(Y:v<=V):BN (B+V) (Fv l i v):=by
 have hb:=h.bd (i:=i.toNat) (by omega);refine⟨by unfold Fv;rw[rW];exact h.1,λx K=>?_⟩;rcases tK K with K | rfl;have:=h.2 x K;omega;omega
theorem GV(h:l.length=5)(K:0<=i)(hi:i<5)(j:Nat):gN (Fv l i v) j=gN l j+if(j:Int)=i then v else 0:=by
 unfold Fv gN;rw[f7,tp,f7,f7];by_cases e:i.toNat=j;rw[d6 e,d6 (by omega),d6 (by omega),e];rfl;rw[d0 e,d0 (by omega),Int.add_zero]
theorem R8{l':List Int}(h:l.length=5)(U:l'.length=5)(k:∀j,j<5->gN l j=gN l' j):l=l':=by
 refine List.ext_getElem (by omega) λj K O=>?_;rw[← K8 K,← K8 O];exact k j (by omega)
def Dg(l:List Int)(d:DT):List Int:=Fv (Fv l d.1 d.2.2) d.2.1 (-d.2.2)
def G0(l:List Int)(d:DT):List Int:=Fv (Fv l d.2.1 d.2.2) d.1 (-d.2.2)
def BT(o:OW):List Int:=o.2.foldl G0 (List.replicate 5 0)
theorem Sn(h:BN B l)(a1:0<=d.1)(O:d.1<5)(U:0<=d.2.1)(Y:d.2.1<5)(p1: -B<=d.2.2)(p2:d.2.2<=B)(Z:B<=1000000000000):Nl F l d=some (Dg l d)/\BN (3*B) (Dg l d):=by
 have K:=h.add a1 O p1 p2;have g2:=K.add U Y (show -B<= -d.2.2 by omega) (by omega);have k1:=h.bd (i:=d.1.toNat) (by omega);have ac:=K.bd (i:=d.2.1.toNat) (by omega);refine⟨?_,g2.M (by omega)⟩;refine Dx ?_;unfold Nl;refine AY (h.ix a1 O) ?_;refine Ap.E _ V ?_;refine AY (h.ix a1 O) ?_;refine AY (K.ix U Y) ?_;refine Ap.E _ V ?_;refine AY (K.ix U Y) ?_;exact Am V
theorem L9(ac:100<F)(h:VO o):f84 F o=some (BT o)/\BN 200 (BT o):=by
 have ag:=h.n5;have al:=h.d8;have:Ap (f84 F o) (λr=>r=BT o/\BN 200 r):=by
  unfold f84;refine AE (S:=λr=>r=BT o/\BN 200 r) ?_ (λr U=>Am U);refine CZ o.2.length (λi s=>s.2=(i:Int)/\s.1=(o.2.take i).foldl G0 (List.replicate 5 0)/\BN (20*i) s.1) ⟨rfl,rfl,rfl,by simp⟩ (by omega) ?_ ?_
  .rintro i ⟨w,c⟩ hi ⟨K,hw,hb⟩;simp only at K hw hb;subst K;let⟨v1,v2,am,v4,ap,v6,aq⟩:=h.ds _ (jK hi);have O:=hb.add (i:=o.2[i].2.1) (v:=o.2[i].2.2) (V:=10) (by omega) (by omega) (by omega) (by omega);have g2:=O.add (i:=o.2[i].1) (v:= -o.2[i].2.2) (V:=10) (by omega) (by omega) (by omega) (by omega);have k1:=hb.bd (i:=o.2[i].2.1.toNat) (by omega);have av:=O.bd (i:=o.2[i].1.toNat) (by omega);unfold Qq;refine BR (by simp only;omega) (Ba (m:=i) rfl hi ?_);refine AY (hb.ix (by omega) (by omega)) (Ap.E _ rfl ?_);refine AY (hb.ix (by omega) (by omega)) (AY (O.ix (by omega) (by omega)) ?_);refine Ap.E _ rfl (AY (O.ix (by omega) (by omega)) ?_);refine Ap.E ((i+1:Nat):Int) (by simp) (Am ⟨rfl,?_,g2.M (by omega)⟩);simp only;rw[sE,cT hi,th,← hw]
   rfl
  .rintro⟨w,c⟩ ⟨K,hw,hb⟩;simp only at K hw hb;subst K;unfold Qq;rw[se] at hw;exact BO (by simp) (Am ⟨_,rfl,hw,hb.M (by omega)⟩)
 obtain⟨r,Y,rfl,Z⟩:=this;exact⟨Y,Z⟩
theorem bZ{i:Nat}(hi:i<l.length):(l.take (i+1)).sum=(l.take i).sum+l[i]:=by
 rw[sE,cT hi,List.sum_append];simp only[tj,tz,wc];omega
theorem gY(ag:100<F)(al:l.length<=20)(hb:∀x∈l,-1000<=x/\x<=1000):f85 F l=some l.sum/\ -20000<=l.sum/\l.sum<=20000:=by
 have:Ap (f85 F l) (λr=>r=l.sum/\ -20000<=r/\r<=20000):=by
  unfold f85;refine AE (S:=λr=>r=l.sum/\ -20000<=r/\r<=20000) ?_ (λr Y=>Am Y);refine CZ l.length (λi s=>s.2=(i:Int)/\s.1=(l.take i).sum/\ -(1000*(i:Int))<=s.1/\s.1<=1000*(i:Int)) ⟨V,V,by simp,by simp⟩ (by omega) ?_ ?_;rintro i ⟨w,c⟩ hi ⟨K,hw,O,U⟩;simp only at K hw O U;subst K;have am:=hb _ (jK hi);unfold Qo;refine BR (by simp only;omega) (Ba (m:=i) V hi ?_);refine Ap.E _ V (Ap.E ((i+1:Nat):Int) (by simp) ?_);refine Am ⟨V,?_,?_,?_⟩;simp only;rw[bZ hi,hw];simp only;omega;simp only;omega;rintro⟨w,c⟩ ⟨K,hw,O,U⟩;simp only at K hw O U;subst K;unfold Qo;rw[se] at hw;exact BO (by simp) (Am ⟨_,V,hw,by simp only;omega,by simp only;omega⟩)
 obtain⟨r,Z,rfl,ac⟩:=this;exact⟨Z,ac⟩
def VP(n:Nat)(x:PR):Prop:=0<=x.1/\x.1<x.2/\x.2<(n:Int)
def Jw(b:Nat)(k:Nat):List PR:=(List.range k).map λa:Nat=>((a:Int),(b:Int))
def Eu(n:Nat):List PR:=(List.range n).flatMap λb=>Jw b b
theorem bp(b k:Nat):Jw b (k+1)=Jw b k++ [((k:Int),(b:Int))]:=by unfold Jw;rw[vV,sB];rfl
theorem Zk(n:Nat):Eu (n+1)=Eu n++Jw n n:=by unfold Eu;rw[vV,List.flatMap_append];simp
theorem Pm{x:PR}(h:x∈Eu n):VP n x:=by
 unfold Eu Jw at h;let⟨b,hb,h⟩:=vL.1 h;obtain⟨a,K,rfl⟩:=sj.1 h;have:=rH.1 hb;have:=rH.1 K;exact⟨by simp only;omega,by simp only;omega,by simp only;omega⟩
theorem VJ(b k:Nat):(Jw b k).length=k:=by unfold Jw;simp
theorem Uz(h:n<=5):(Eu n).length<=10:=by
 have e:∀n,n<=5->(Eu n).length<=n*2:=by
  intro n K
  match n,K with
  | 0,_ | 1,_ | 2,_ | 3,_ | 4,_ | 5,_=>decide
 have:=e n h;omega
theorem eV(Z:100<F)(ac:o.1.length<=5):f133 F o=some (Eu o.1.length):=by
 refine Dx ?_;unfold f133;refine AE (S:=λr=>r=Eu o.1.length) ?_ (λr Y=>Am Y);refine CZ o.1.length (λi s=>s.2=(i:Int)/\s.1=Eu i/\s.1.length<=10*i) ⟨V,V,by simp⟩ (by omega) ?_ ?_
 .rintro i ⟨w,c⟩ hi ⟨K,hw,U⟩;simp only at K hw U;subst K;unfold PW;refine BR (by simp only;omega) (AE (S:=λr=>r=Eu i++Jw i i) ?_ ?_)
  .refine CZ i (λa s=>s.2=(a:Int)/\s.1=Eu i++Jw i a) ⟨V,by simp[Jw,hw]⟩ (by omega) ?_ ?_
   .rintro a ⟨v,c⟩ ag ⟨K,O⟩;simp only at K O;subst K;unfold PH;refine BR (by simp only;omega) (HW ?_ ?_);rw[O,← hw,rS,VJ];omega
    refine Ap.E ((a+1:Nat):Int) (by simp) (Am ⟨V,?_⟩);simp only;rw[bp,O,sb]
   .rintro⟨v,c⟩ ⟨K,O⟩;simp only at K O;subst K;unfold PH;exact BO (by simp) (Am ⟨_,V,O⟩)
  .rintro r rfl;refine Ap.E ((i+1:Nat):Int) (by simp) (Am ⟨V,(Zk i).symm,?_⟩);simp only;rw[rS,VJ,← hw];omega
 .rintro⟨w,c⟩ ⟨K,hw,U⟩;simp only at K hw U;subst K;unfold PW;exact BO (by simp) (Am ⟨_,V,hw⟩)
def BH(p:Int)(x:PR):Bool:=decide (x.1=p) || decide (x.2=p)
theorem Ug{α:Type}{p:α->Bool}:∀{l:List α}{a:Nat},l.countP p=1->∀O:a<l.length,p l[a]=true->l.findIdx p=a
 | x::xs,0,_,_,K=>by
  have K:p x=true:=K
  rw[List.findIdx_cons,K];rfl
 | x::xs,a+1,h,O,K=>by
  have K:p (xs[a]'(by simpa using O))=true:=K
  have Y:0<xs.countP p:=ui.2 ⟨_,jK _,K⟩
  by_cases U:p x=true;rw[List.countP_cons_of_pos U] at h;omega;rw[List.countP_cons_of_neg U] at h;rw[List.findIdx_cons,ut.2 U];simp only[cond_false];rw[Ug h (by simpa using O) K]
def IM(n:Nat)(l:List PR):Option Nat:=(List.range n).find? λp=>l.countP (BH p)==1
def dP(p:Int)(x:PR)(m:Int):DT:=if 0<m then(x.1+x.2 - p,p,m) else(p,x.1+x.2 - p,-m)
def EY(n:Nat):Nat->List PR->List Int->List DT->Option (List DT)
 | 0,_,w,out=>if w=List.replicate 5 0 then some out else none
 | k+1,l,w,out=>(IM n l).bind λp=>
   if gN w p=0 then none else
    EY n k (l.eraseIdx (l.findIdx (BH p))) (Dg w (dP p (l.getD (l.findIdx (BH p)) (0,0)) (gN w p))) (out++ [dP p (l.getD (l.findIdx (BH p)) (0,0)) (gN w p)])
def Oo:Option (List DT)->Bool×List Int×List DT
 | none=>(true,default)
 | some out=>(false,List.replicate 5 0,out)
theorem bQ{l:List PR}{p:Int}(am:100<F)(ap:l.length<=20):Ap (Pal.iter (NX F l p) F (0,0,0)) (λr=>r.2=((l.countP (BH p):Nat):Int)/\(r.2=1->r.1=(l.findIdx (BH p):Nat)/\l.findIdx (BH p)<l.length)):=by
 refine CZ l.length (λi s=>s.2.2=(i:Int)/\s.2.1=(((l.take i).countP (BH p):Nat):Int)/\(s.2.1≠0->∃a,s.1=((a:Nat):Int)/\∃h:a<l.length,BH p l[a]=true)) ⟨V,by simp,by simp⟩ (by omega) ?_ ?_
 .rintro i ⟨a,m,c⟩ hi ⟨K,hm,O⟩;simp only at K hm O;subst K;have hle:(l.take i).countP (BH p)<=i:=by
   refine sG List.countP_le_length ?_;rw[tn];omega
  unfold NX;refine BR (by simp only;omega) (Ba (m:=i) V hi ?_);refine AE (S:=λc=>c=BH p l[i]) ?_ ?_;unfold BH;refine Bw (λh=>Am (by simp[h])) (λh=>Am (by simp[h]))
  rintro c rfl;have key:(l.take (i+1)).countP (BH p)=(l.take i).countP (BH p)+if BH p l[i]=true then 1 else 0:=by
   rw[sE,cT hi,List.countP_append];simp only[tj,List.countP_cons,List.countP_nil,tx]
  refine AE (S:=λr=>r.2=(((l.take (i+1)).countP (BH p):Nat):Int)/\(r.2≠0->∃a,r.1=((a:Nat):Int)/\∃h:a<l.length,BH p l[a]=true)) ?_ ?_;refine Bw (λh=>?_) (λh=>?_);refine L4 (((l.take (i+1)).countP (BH p):Nat):Int) ?_ (by omega) ?_ (Am ⟨V,λ_=>⟨i,V,hi,h⟩⟩);rw[key,d6 h,hm];rfl;rw[key,d6 h];omega;exact Am ⟨by rw[key,d0 h];exact hm,O⟩;rintro⟨aq,m'⟩ ⟨U,Y⟩;simp only at U Y ⊢;exact Ap.E ((i+1:Nat):Int) (by simp) (Am ⟨V,U,Y⟩)
 .rintro⟨a,m,c⟩ ⟨K,hm,O⟩;simp only at K hm O;subst K;rw[se] at hm;unfold NX;refine BO (by simp) (Am ⟨_,V,hm,λac=>?_⟩);simp only at ac;obtain⟨k,ag,Z,al⟩:=O (by omega);have:=Ug (p:=BH p) (l:=l) (a:=k) (by omega) Z al;simp only;rw[this];exact⟨ag,Z⟩
theorem Z0{l:List PR}{i:Nat}(hi:i<n)(K:l.countP (BH i)=1)(h:∀p,p<i->l.countP (BH p)≠1):IM n l=some i:=by
 unfold IM;rw[sZ];exact⟨by simp[K],rH.2 hi,λj O=>by simpa using h j O⟩
theorem Z6{l:List PR}(h:∀p,p<n->l.countP (BH p)≠1):IM n l=none:=by
 unfold IM;rw[t7];intro p K;simpa using h p (rH.1 K)
theorem Yr{p:Nat}{x:PR}{m:Int}(U:n<=5)(O:VP n x)(K:BH p x=true)(Y: -B<=m)(Z:m<=B):0<=(dP p x m).1/\(dP p x m).1<5/\0<=(dP p x m).2.1/\(dP p x m).2.1<5/\0<=(dP p x m).2.2/\(dP p x m).2.2<=B:=by
 obtain⟨v1,v2,ac⟩:=O;unfold BH at K;simp at K;unfold dP;split<;>simp only<;>omega
theorem Jd{α:Type}{l:List α}{i:Nat}{d:α}(h:i<l.length):l.getD i d=l[i]:=by rw[f7,cT h];rfl
theorem Wd{F n:Nat}{q:OW}(Z:100<F)(az:q.1.length=n)(am:n<=5):∀(k N:Nat) (l:List PR) (w:List Int) (out:List DT) (B:Int),l.length=k->k<N->k<=10->(∀x∈l,VP n x)->BN B w->0<=B->B*3^k<=1000000000000->out.length+k<=100->M5 N F l w q out=some (Oo (EY n k l w out))
 | 0,N,l,w,out,B,a0,a1,_,ac,hw,ap,aq,a2=>by
  obtain⟨N,rfl⟩:∃k,N=k+1:=⟨N - 1,by omega⟩
  refine Dx ?_
  simp only[M5]
  unfold N6 EY
  refine BR (by omega) ?_
  refine Bw (λh=>Am ?_) (λh=>Am ?_);rw[d0 h];rfl;have h:=tB.1 h;rw[d6 h,h];rfl
 | k+1,N,l,w,out,B,a0,a1,bo,ac,hw,ap,aq,a2=>by
  obtain⟨N,rfl⟩:∃k,N=k+1:=⟨N - 1,by omega⟩;refine Dx ?_;simp only[M5];unfold N6;refine BO (by omega) ?_;have a3:B*3^(k+1)=(3*B)*3^k:=by rw[Int.pow_succ];rw[vM (3^k) 3,← Int.mul_assoc,vM B 3]
  have a4:B<=1000000000000:=by
   have ag:(1:Int)<=3^(k+1):=by
    have:(0:Int)<3^(k+1):=Int.pow_pos (by decide);omega
   have:=vi ag ap;omega
  refine AE (S:=λr=>r=Sum.inl (Oo (EY n (k+1) l w out))∨(r=Sum.inr ()/\IM n l=none)) ?_ ?_
  .refine CZ n (λi s=>s=(i:Int)/\∀p,p<i->l.countP (BH (p:Nat))≠1) ⟨V,by simp⟩ (by omega) ?_ ?_
   .rintro i s hi ⟨rfl,O⟩;unfold Pq;refine BR (by omega) (AE (S:=λr=>(r=Sum.inr ()/\l.countP (BH i)≠1)∨r=Sum.inl (Oo (EY n (k+1) l w out))) ?_ ?_)
    .refine AE (bQ Z (by omega)) ?_;rintro⟨a,m⟩ ⟨av,U⟩;simp only at av U ⊢;refine Bw (λh=>Am (.inl ⟨V,λag=>h (by rw[av,ag];rfl)⟩)) (λh=>?_);have h:=tB.1 h;let⟨U,K⟩:=U h;have a5:l.countP (BH i)=1:=by omega
     subst U;have a6:=Z0 hi a5 O;refine Ba (m:=l.findIdx (BH i)) V K (Ba (m:=l.findIdx (BH i)) V K ?_);have a7:BH i l[l.findIdx (BH i)]=true:=ue;have Y:=ac _ (jK K);have a8:=Y;obtain⟨x1,x2,bv⟩:=a8;have hb:=hw.bd (i:=i) (by omega);refine Ap.E (-(i:Int)) V (AY (hw.ix (by omega) (by omega)) ?_);rw[show Int.toNat (i:Int)=i by omega];refine AY (gY (l:=[_,_,_]) Z (by simp) (by simp;omega)).1 (Ap.E (-(gN w i)) V ?_);have aw:EY n (k+1) l w out=if gN w i=0 then none else EY n k (l.eraseIdx (l.findIdx (BH i))) (Dg w (dP i l[l.findIdx (BH i)] (gN w i))) (out++ [dP i l[l.findIdx (BH i)] (gN w i)]):=by
      simp only[EY,a6,Option.bind_some,Jd K]
     refine Bw (λh=>Am (.inr ?_)) (λh=>?_);rw[aw,d6 (by omega)];rfl
     have ay:=aw;rw[d0 (show ¬gN w i=0 by omega)] at ay;rw[ay];refine AE (S:=λr=>r=dP i l[l.findIdx (BH i)] (gN w i)) ?_ ?_;unfold dP;refine Bw (λh=>?_) (λh=>?_);refine Ap.E (gN w i) (by omega) (Am ?_);rw[d6 (by omega)];simp only[tz,wc];refine vJ ?_ V;simp only;omega;refine Am ?_;rw[d0 (by omega)];simp only[tz,wc];refine vJ V (vJ ?_ V);simp only;omega
     rintro d rfl;let⟨a9,e2,bb,be,bw,bi⟩:=Yr am Y a7 hb.1 hb.2;obtain⟨bn,g2⟩:=Sn (F:=F) hw a9 e2 bb be (by omega) bi a4;refine AY bn (Ap.OA (by simp;omega) ?_);refine AY (b:=l.take (l.findIdx (BH i))) (by unfold Ho;rw[d6 (by omega)];simp) (Ap.E ((l.findIdx (BH i)+1:Nat):Int) (by simp) ?_);refine AY (b:=l.drop (l.findIdx (BH i)+1)) ?_ ?_;unfold Ho;rw[d6 (by omega),show Int.toNat (l.length:Int)=l.length by omega,se,show Int.toNat ((l.findIdx (BH i)+1:Nat):Int)=l.findIdx (BH i)+1 by omega]
     refine Ap.OA (by simp;omega) ?_;have he:l.take (l.findIdx (BH i))++l.drop (l.findIdx (BH i)+1)=l.eraseIdx (l.findIdx (BH i)):=(u5 _ _).symm;rw[he];have hle:(l.eraseIdx (l.findIdx (BH i))).length=k:=by rw[tF K];omega
     refine AY (Wd Z az am k N _ _ _ (3*B) hle (by omega) (by omega) (λx Y=>ac x (ti Y)) g2 (by omega) (by rw[← a3];exact aq) (by simp;omega)) ?_;rcases EY n k _ _ _ with _ | r;exact BR V (Am (.inr V));exact BO (by simp[Oo]) (Am (.inr V))
    .rintro r (⟨rfl,h⟩ | rfl);rw[Sum.elim_inr];refine Ap.E ((i+1:Nat):Int) (by simp) (Am ⟨V,λp al=>?_⟩);rcases vN.1 al with al | rfl;exact O p al;exact h;rw[Sum.elim_inl];exact Am (.inl V)
   .rintro s ⟨rfl,O⟩;unfold Pq;exact BO (by omega) (Am ⟨_,V,.inr ⟨V,Z6 O⟩⟩)
  .rintro r (rfl | ⟨rfl,h⟩);rw[Sum.elim_inl];exact Am V
   .rw [Sum.elim_inr];refine Am ?_;simp only[EY,h,Option.bind_none]
    rfl
def BD(d:DT):Prop:= -1000000000000000<=d.1/\d.1<=1000000000000000/\ -1000000000000000<=d.2.1/\d.2.1<=1000000000000000/\ -1000000000000000<=d.2.2/\d.2.2<=1000000000000000
theorem Sf{n:Nat}(ac:n<=5):∀(k:Nat) (l:List PR) (w:List Int) (out r:List DT) (B:Int),l.length=k->(∀x∈l,VP n x)->BN B w->0<=B->B*3^k<=1000000000000->(∀d∈out,BD d)->EY n k l w out=some r->(∀d∈r,BD d)/\r.length=out.length+k
 | 0,l,w,out,r,B,ap,O,hw,ag,al,U,h=>by
  unfold EY at h
  split at h;cases h;exact⟨U,V⟩;cases h
 | k+1,l,w,out,r,B,ap,O,hw,ag,al,U,h=>by
  have aq:B*3^(k+1)=(3*B)*3^k:=by rw[Int.pow_succ];rw[vM (3^k) 3,← Int.mul_assoc,vM B 3]
  have av:B<=1000000000000:=by
   have aw:(1:Int)<=3^(k+1):=by
    have:(0:Int)<3^(k+1):=Int.pow_pos (by decide);omega
   have:=vi aw ag;omega
  unfold EY at h;let⟨p,am,h⟩:=bind_some h;split at h;cases h
  unfold IM at am;let⟨c1,c2,c3⟩:=sZ.1 am;have a3:l.countP (BH p)=1:=by simpa using c1
  have c2:=rH.1 c2;have Y:l.findIdx (BH p)<l.length:=by
   obtain⟨x,K,Z⟩:=ui.1 (show 0<l.countP (BH p) by omega);exact tG ⟨x,K,Z⟩
  rw[Jd Y] at h;have Z:BH p l[l.findIdx (BH p)]=true:=ue;have K:=O _ (jK Y);have hb:=hw.bd (i:=p) (by omega);let⟨ay,e2,az,a0,a4,a1⟩:=Yr ac K Z hb.1 hb.2;obtain⟨a5,g2⟩:=Sn (F:=0) hw ay e2 az a0 (by omega) a1 av;obtain⟨k1,a2⟩:=Sf ac k _ _ _ r (3*B) (by rw[tF Y];omega) (λx K=>O x (ti K)) g2 (by omega) (by rw[← aq];exact al) (by
   intro d hd
   rcases kO.1 hd with hd | hd;exact U d hd
   .cases bN.1 hd
    refine⟨?_,?_,?_,?_,?_,?_⟩<;>omega) h
  refine⟨k1,?_⟩;rw[a2];simp;omega
theorem Ui{α:Type}(l:List α):l=[]∨∃A y,l=A++ [y]:=by
 rcases List.eq_nil_or_concat l with h | ⟨A,y,h⟩;exact .inl h;exact .inr ⟨A,y,by rw[h,List.concat_eq_append]⟩
def Q1{α:Type}(less:α->α->Option Bool)(s:Int×List α):Option (Bm (Int×List α) (List α)):=
 Option.bind (
  if 0<s.1 then(
   (ix s.2 (s.1)).bind λx=>
   (Au (s.1 - 1)).bind λj=>
   (ix s.2 (j)).bind λy=>
   (less x y).bind λc=>
   some c
  ) else(
   some false
  )
 ) λc=>
 if c=true then(
  (Au (s.1 - 1)).bind λj=>
  (Au (s.1 - 1)).bind λk=>
  (ix s.2 (k)).bind λy=>
  (ix s.2 (s.1)).bind λx=>
  (ix (s.2.set (Int.toNat s.1) y) (j)).bind λ_=>
  (Au (s.1 - 1)).bind λm=>
  some (.more (m,((s.2.set (Int.toNat s.1) y).set (Int.toNat j) x)))
 ) else(
  some (.done s.2)
 )
theorem eH{α:Type}{less:α->α->Option Bool}{lt:α->α->Bool}{P:List α}{x:α}(R:List α)(aw:P.length<F)(ay:P.length<=1024)(ap:∀y∈P,less x y=some (lt x y)):
  Ap (Pal.iter (Q1 less) F ((P.length:Int),P++x::R)) (λr=>∃A B,P=A++B/\r=A++x::(B++R)/\(∀b∈B,lt x b=true)/\(A=[]∨∃K y,A=K++ [y]/\lt x y=false)):=by
 refine FJ (λm s=>∃A B,A.length=m/\s.1=((m:Nat):Int)/\s.2=A++x::(B++R)/\P=A++B/\∀b∈B,lt x b=true) ?_ (m:=P.length) ⟨P,[],V,V,V,by simp,by simp⟩ (by omega);rintro m ⟨c,v⟩ ⟨A,B,U,ag,O,Y,al⟩;simp only at ag O;subst ag;have az:A.length+B.length=P.length:=by rw[Y,rS]
 have am:v[m]?=some x:=by rw[O,no (by omega),U,uM];rfl
 unfold Q1;refine AE (S:=λc=>(c=true/\∃K y,A=K++ [y]/\lt x y=true)∨(c=false/\(A=[]∨∃K y,A=K++ [y]/\lt x y=false))) ?_ ?_
 .refine Bw (λh=>?_) (λh=>?_)
  .simp only at h;rcases Ui A with rfl | ⟨K,y,rfl⟩;simp at U;omega
   have aq:K.length+1=m:=by simpa using U
   have ac:v[m - 1]?=some y:=by rw[O,sb,no (by omega),show m - 1 - K.length=0 by omega];rfl
   refine AY (H8 V am) (Ap.E ((m - 1:Nat):Int) (by simp only;omega) ?_);refine AY (H8 V ac) (AY (ap y (by rw[Y];simp)) ?_);refine Am ?_;cases Z:lt x y with
   | true=>exact .inl ⟨rfl,K,y,rfl,Z⟩
   | false=>exact .inr ⟨rfl,.inr ⟨K,y,rfl,Z⟩⟩
  .refine Am (.inr ⟨V,.inl ?_⟩);cases A with
   | nil=>rfl
   | cons a A=>simp at U h;omega
 .rintro c (⟨rfl,K,y,rfl,Z⟩ | ⟨rfl,av⟩)
  .have aq:K.length+1=m:=by simpa using U
   have ac:v[m - 1]?=some y:=by rw[O,sb,no (by omega),show m - 1 - K.length=0 by omega];rfl
   have a0:m<v.length:=by rw[O];simp;omega
   refine BR V (Ap.E ((m - 1:Nat):Int) (by simp only;omega) ?_);refine Ap.E ((m - 1:Nat):Int) (by simp only;omega) (AY (H8 V ac) ?_);refine AY (H8 V am) (Ba (m:=m - 1) V (by simp only[rW];omega) ?_);refine Ap.E ((m - 1:Nat):Int) (by simp only;omega) (Am ⟨m - 1,by omega,K,y::B,by omega,V,?_,by rw[Y];simp,λb hb=>?_⟩);simp only;rw[show Int.toNat ((m:Nat):Int)=K.length+1 by omega,show Int.toNat ((m - 1:Nat):Int)=K.length by omega,O];simp;rcases iC.1 hb with rfl | hb;exact Z;exact al b hb
  .exact BO (by simp) (Am ⟨A,B,Y,O,al,av⟩)
def Iq(a b:DT):Bool:=decide (a.1<b.1∨(a.1=b.1/\(a.2.1<b.2.1∨(a.2.1=b.2.1/\a.2.2<b.2.2))))
theorem WY{a b:DT}:Iq a b=true↔a.1<b.1∨(a.1=b.1/\(a.2.1<b.2.1∨(a.2.1=b.2.1/\a.2.2<b.2.2))):=by unfold Iq;exact decide_eq_true_iff
theorem M0{a b:DT}:Iq a b=false↔¬(a.1<b.1∨(a.1=b.1/\(a.2.1<b.2.1∨(a.2.1=b.2.1/\a.2.2<b.2.2)))):=by unfold Iq;exact vP
theorem Wc{a b:DT}(K:BD a)(hb:BD b):Ap (f113 F a b) (λc=>(c<0↔Iq a b=true)/\(c=0↔a=b)):=by
 obtain⟨a1,O,U,Y,Z,ac⟩:=K;obtain⟨ag,al,am,ap,aq,av⟩:=hb;obtain⟨ax,ay,az⟩:=a;obtain⟨a0,a2,a3⟩:=b;simp only at a1 O U Y Z ac ag al am ap aq av;unfold f113;simp only[WY,d9];refine Bw (λh=>?_) (λh=>?_);exact Ap.E _ V (Am ⟨by omega,by omega⟩)
 refine Bw (λaw=>?_) (λaw=>?_);exact Ap.E _ V (Am ⟨by omega,by omega⟩);exact Ap.E _ V (Am ⟨by omega,by omega⟩)
def Gb(x:DT):List DT->List DT
 | []=>[x]
 | y::ys=>if Iq x y=true then x::y::ys else y::Gb x ys
def ED(l:List DT):List DT:=l.foldl (λa x=>Gb x a) []
def Nr(l:List DT):Prop:=l.Pairwise λa b=>Iq b a=false
theorem R5{x d:DT}:∀{l:List DT},d∈Gb x l↔d=x∨d∈l
 | []=>by simp[Gb]
 | y::ys=>by
  unfold Gb
  split;simp;rw[iC,R5,iC];constructor;rintro(h | h | h);exact .inr (.inl h);exact .inl h;exact .inr (.inr h);rintro(h | h | h);exact .inr (.inl h);exact .inl h;exact .inr (.inr h)
theorem Vw{x:DT}:∀{l:List DT},(Gb x l).length=l.length+1
 | []=>rfl
 | y::ys=>by
  unfold Gb
  split;rfl;rw[r4,Vw];rfl
theorem Wj{x:DT}:∀{l:List DT},Nr l->Nr (Gb x l)
 | [],_=>List.pairwise_singleton _ _
 | y::ys,h=>by
  let⟨U,Y⟩:=t6.1 h
  unfold Gb
  split
  .rename_i O
   refine t6.2 ⟨λz K=>?_,h⟩;have O:=WY.1 O;rcases iC.1 K with rfl | K;rw[M0];omega;have:=M0.1 (U z K);rw[M0];omega
  .rename_i O;refine t6.2 ⟨λz K=>?_,Wj Y⟩;rcases R5.1 K with rfl | K;exact ut.2 O;exact U z K
theorem Wb{x:DT}{B:List DT}(K:∀b∈B,Iq x b=true):∀{A:List DT},(∀a∈A,Iq x a=false)->Gb x (A++B)=A++x::B
 | [],_=>by
  cases B with
  | nil=>rfl
  | cons b bs=>simp only[sP,Gb,K b rX,sO]
 | a::A,O=>by
  have U:=O a rX
  simp only[tl,Gb,U]
  rw[d0 (by decide),Wb K λz Y=>O z (f4 _ Y)]
theorem MG(l:List DT)(x:DT):ED (l++ [x])=Gb x (ED l):=by unfold ED;rw[th];rfl
theorem W4:∀{k:Nat},k<=10->(3:Int)^k<=59049
 | 0,_ | 1,_ | 2,_ | 3,_ | 4,_ | 5,_ | 6,_ | 7,_ | 8,_ | 9,_ | 10,_=>by decide
 | _+11,h=>absurd h (by omega)
theorem MW{α:Type}{P:List α->Prop}(O:P [])(U:∀l x,P l->P (l++ [x])):∀l,P l:=by
 have:∀n (l:List α),l.length=n->P l:=by
  intro n
  induction n with
  | zero=>intro l K;cases tk.1 K;exact O
  | succ n Y=>
   intro l K;rcases Ui l with rfl | ⟨l',x,rfl⟩;cases K;exact U _ _ (Y _ (by simpa using K))
 exact λl=>this _ l V
theorem Vo(l:List DT):Nr (ED l):=MW (P:=λl=>Nr (ED l)) List.Pairwise.nil (λl x h=>by rw[MG];exact Wj h) l
theorem Vf(l:List DT):d∈ED l↔d∈l:=MW (P:=λl=>d∈ED l↔d∈l) (Iff.rfl) (λl x h=>by rw[MG,R5,h];simp[or_comm]) l
theorem UI(l:List DT):(ED l).length=l.length:=MW (P:=λl=>(ED l).length=l.length) V (λl x h=>by rw[MG,Vw,h];simp) l
theorem bS(F:Nat):Pw F 0=Q1 λx y=>(f113 F x y).bind λc=>some (decide (c<0)):=by
 funext s;unfold Pw Q1;simp only[Option.bind_assoc,Option.bind_some]
theorem ZZ{A B:List DT}{x y:DT}(O:Nr ((A++ [y])++B))(U:Iq x y=false):∀a∈A++ [y],Iq x a=false:=by
 rw[sb] at O;intro a K;rcases kO.1 K with K | K;have Y:=(v7.1 O).2.2 a K y (by simp);have Z:=M0.1 Y;have ac:=M0.1 U;rw[M0];omega;cases bN.1 K;exact U
theorem gx{l:List DT}(az:100<F)(a0:l.length<=20)(hb:∀d∈l,BD d):f193 F l 0 (l.length:Int)=some (ED l):=by
 refine Dx ?_;unfold f193;refine Ap.E 1 V (AE (S:=λr=>r=ED l) ?_ (λr Y=>Am Y));refine CZ (l.length - 1) (λi s=>s.1=((i+1:Nat):Int)/\s.2=ED (l.take (i+1))++l.drop (i+1)) ⟨V,?_⟩ (by omega) ?_ ?_
 .cases l with
  | nil=>rfl
  | cons x xs=>rfl
 .rintro i ⟨c,w⟩ hi ⟨K,hw⟩;simp only at K hw;subst K;have O:i+1<l.length:=by omega
  unfold PG;refine BR (by simp only;omega) ?_;have Z:l.drop (i+1)=l[i+1]::l.drop (i+2):=tt O;have a1:(ED (l.take (i+1))).length=i+1:=by rw[UI,tn];omega
  have ac:∀d∈ED (l.take (i+1)),BD d:=λd hd=>hb d (vb ((Vf _).1 hd));have ag:BD l[i+1]:=hb _ (jK O);have al:ED (l.take (i+2))=Gb l[i+1] (ED (l.take (i+1))):=by
   rw[sE (i:=i+1),cT O];exact MG _ _
  have am:=Vo (l.take (i+1));generalize l[i+1]=x at*;generalize ED (l.take (i+1))=P at*;generalize l.drop (i+2)=R at*;refine AE (S:=λr=>r=Gb x P++R) ?_ ?_
  .rw [bS,hw,Z];have ap:((i+1:Nat):Int)=(P.length:Int):=by omega
   rw[ap];refine(eH (lt:=Iq) R (by omega) (by omega) λy U=>?_).M ?_;let⟨c,aq,av,_⟩:=Wc (F:=F) ag (ac y U);rw[aq,Option.bind_some];congr 1;rw[Bool.eq_iff_iff,tg];exact av;rintro r ⟨A,B,rfl,rfl,aw,ay⟩;rw[Wb aw ?_];simp;rcases ay with rfl | ⟨a2,y,rfl,U⟩;simp;exact ZZ am U
  .rintro r rfl;refine Ap.E ((i+1+1:Nat):Int) (by simp) (Am ⟨V,?_⟩);simp only;rw[al]
 .rintro⟨c,w⟩ ⟨K,hw⟩;simp only at K hw;subst K;unfold PG;refine BO (by simp only;omega) (Am ⟨_,V,?_⟩);simp only;rw[hw,s4 (by omega),ur (by omega),r9]
theorem eM:∀n,n<=12->∃r,f115 F (CC ((n:Nat):Int))=some r
 | 0,_ | 1,_ | 2,_ | 3,_ | 4,_ | 5,_ | 6,_ | 7,_ | 8,_ | 9,_ | 10,_ | 11,_ | 12,_=>⟨_,rfl⟩
 | _+13,h=>absurd h (by omega)
theorem gQ{l:List DT}(K:100<F)(O:l.length<=12)(hb:∀d∈l,BD d):f90 F l=some (ED l):=by
 obtain⟨F,rfl⟩:∃k,F=k+1:=⟨F - 1,by omega⟩;let⟨x,U⟩:=eM (F:=F+1) l.length O;refine Dx ?_;unfold f90;refine AY (b:=l) (by unfold f129 Ok Ex;rw[d6 (by simp;omega)];rfl) (AY (b:=ED l) ?_ (Am V));refine Dx ?_;unfold f130;refine AY U (AY (b:=ED l) ?_ (Am V));refine Dx ?_;unfold f169;refine AE (S:=λr=>r=Sum.inl (ED l)) ?_ (by rintro r rfl;rw[Sum.elim_inl];exact Am rfl);refine CZ 0 (λ_ _=>True) trivial (by omega) (by intro i s h;omega) ?_;rintro s -;unfold Sy;refine Ap.E (l.length:Int) (by omega) (BR (by omega) ?_);exact AY (gx K (by omega) hb) (Am ⟨_,V,V⟩)
def HH(n:Nat)(w:List Int)(S:List PR):Option (List DT):=(EY n S.length S w []).map ED
theorem gp{S:List PR}(K:100<F)(h:VO o)(O:S.length<=10)(U:∀x∈S,VP o.1.length x):f135 F o S=some (match HH o.1.length (BT o) S with | none=>([],false) | some r=>(r,true)):=by
 have Y:=h.n5;let⟨ac,g2⟩:=L9 K h;have Z:(200:Int)*3^S.length<=1000000000000:=by
  have:=W4 O;omega
 have e:=Wd (q:=o) K rfl Y S.length F S (BT o) [] 200 rfl (by omega) O U g2 (by omega) Z (by simp;omega);have e2:f175 F o S=some (match HH o.1.length (BT o) S with | none=>(true,default) | some r=>(false,r)):=by
  refine Dx ?_;unfold f175;refine AY ac ?_;refine AY (show TJ F S (BT o) o []=_ from e) ?_;unfold HH;rcases ag:EY o.1.length S.length S (BT o) [] with _ | r;exact BR V (Am V);refine BO (by simp[Oo]) ?_;obtain⟨k1,al⟩:=Sf Y S.length S (BT o) [] r 200 rfl U g2 (by omega) Z (by simp) ag;exact AY (gQ K (by show r.length<=12;rw[al];simp;omega) k1) (Am V)
 unfold f135;rw[e2,Option.bind_some];rcases HH o.1.length (BT o) S with _ | r
 .rfl
 .rfl
def GW:Nat->List PR->List (List PR)
 | 0,_=>[[]]
 | _+1,[]=>[]
 | m+1,x::xs=>(GW m xs).map (x::·)++GW (m+1) xs
theorem RF:∀(m:Nat) (l:List PR),(GW m l).length<=2^l.length
 | 0,l=>by simp only[GW,s7];exact uS
 | m+1,[]=>by simp[GW]
 | m+1,x::xs=>by
  have K:=RF m xs;have O:=RF (m+1) xs
  simp only[GW,rS,ts,r4]
  rw[vc];omega
theorem MH{x:PR}:∀{m:Nat}{l c:List PR},c∈GW m l->c.length=m/\(x∈c->x∈l)
 | 0,l,c,h=>by rw[show GW 0 l=[[]] by cases l<;>rfl] at h;cases bN.1 h;exact⟨rfl,λh=>by cases h⟩
 | m+1,[],c,h=>by cases h
 | m+1,y::ys,c,h=>by
  rcases kO.1 h with h | h
  .obtain⟨U,O,rfl⟩:=sj.1 h
   have:=MH (x:=x) O;exact⟨by rw[r4,this.1],λK=>by
    rcases iC.1 K with rfl | K;exact rX
    .exact f4 _ (this.2 K)⟩
  .have:=MH (x:=x) h;exact⟨this.1,λK=>f4 _ (this.2 K)⟩
def Du(n:Nat)(w:List Int)(P:PR->Bool)(m:Nat)(l ys:List PR):List (List DT):=(GW m (ys.filter P)).filterMap λc=>HH n w (l++c)
variable{w:List Int}{P:PR->Bool}
theorem Vm{m:Nat}{l ys:List PR}:(Du n w P m l ys).length<=2^ys.length:=by
 unfold Du;refine sG (vO _ _) (sG (RF _ _) ?_);exact sn (by decide) (List.length_filter_le _ _)
theorem aS{m:Nat}{l xs:List PR}{x:PR}(h:P x=false):Du n w P m l (x::xs)=Du n w P m l xs:=by unfold Du;rw[vQ (by simp[h])]
theorem aW{m:Nat}{l xs:List PR}{x:PR}(h:P x=true):Du n w P (m+1) l (x::xs)=Du n w P m (l++ [x]) xs++Du n w P (m+1) l xs:=by
 unfold Du;rw[vR h,GW,List.filterMap_append,List.filterMap_map];congr 2;funext c;simp
theorem WW{F:Nat}{o:OW}{ag m:Nat}{K:List PR}{P:PR->Bool}(al:100<F)(h:VO o)(hm:m<=5)(aw:K.length<=10)(am:∀x∈K,VP o.1.length x)(ap:∀x,VP o.1.length x->f136 F ag x.1 x.2=some (!P x)):
  ∀(k N:Nat) (l:List PR) (i:Nat) (b:List (List DT)),l.length+k=m->k<N->i<=K.length->(∀x∈l,VP o.1.length x)->b.length+2^(K.length - i)<=1000000->
   M1 N F l (i:Int) (m:Int) o K ag b=some (true,b++Du o.1.length (BT o) P k l (K.drop i))
 | 0,N,l,i,b,ay,az,hi,ac,hb=>by
  obtain⟨N,rfl⟩:∃k,N=k+1:=⟨N - 1,by omega⟩
  have a5:1<=2^(K.length - i):=uS
  refine Dx ?_
  simp only[M1]
  unfold Oc
  refine BR (by omega) ?_
  refine AY (gp al h (by omega) ac) ?_
  refine AE (S:=λr=>r=(true,b++Du o.1.length (BT o) P 0 l (K.drop i))) ?_ (λr a0=>Am a0)
  have e:Du o.1.length (BT o) P 0 l (K.drop i)=(HH o.1.length (BT o) l).toList:=by
   unfold Du;simp only[GW,vp,r9,List.filterMap_nil];cases HH o.1.length (BT o) l<;>rfl
  rw[e];rcases HH o.1.length (BT o) l with _ | r;exact BR V (Am (by simp));exact BO (by simp) (HW (by omega) (Am V))
 | k+1,N,l,i,b,ay,az,hi,ac,hb=>by
  obtain⟨N,rfl⟩:∃k,N=k+1:=⟨N - 1,by omega⟩;refine Dx ?_;simp only[M1];unfold Oc;refine BO (by omega) (AE (S:=λr=>r=Sum.inr (b++Du o.1.length (BT o) P (k+1) l (K.drop i))) ?_ (by rintro r rfl;rw[Sum.elim_inr];exact Am rfl));refine FJ (λz s=>∃j,z=K.length - j/\j<=K.length/\s.2=((j:Nat):Int)/\s.1++Du o.1.length (BT o) P (k+1) l (K.drop j)=b++Du o.1.length (BT o) P (k+1) l (K.drop i)/\s.1.length+2^(K.length - j)<=1000000) ?_ (m:=K.length - i) ⟨i,V,hi,V,V,hb⟩ (by omega);rintro z ⟨acc,c⟩ ⟨j,rfl,a6,aq,he,hlen⟩;simp only at aq he hlen;subst aq;unfold Sl;refine Bw (λa1=>?_) (λa2=>?_)
  .simp only at a1;have O:j<K.length:=by omega
   have hd:K.drop j=K[j]::K.drop (j+1):=tt O;have av:=am _ (jK O);have a7:2^(K.length - j)=2^(K.length - (j+1))+2^(K.length - (j+1)):=by
    rw[show K.length - j=K.length - (j+1)+1 by omega,vc];omega
   have a8:0<2^(K.length - (j+1)):=uq _;refine AE (S:=λr=>∃Y,r=Sum.inr Y/\Y++Du o.1.length (BT o) P (k+1) l (K.drop (j+1))=acc++Du o.1.length (BT o) P (k+1) l (K.drop j)/\Y.length+2^(K.length - (j+1))<=1000000) ?_ ?_
   .refine Ba (m:=j) V O (Ba (m:=j) V O ?_);refine AY (ap _ av) ?_;by_cases Z:P K[j]=true
    .refine BO (by simp[Z]) ?_;refine Ba (m:=j) V O ?_;refine Ap.E ((j+1:Nat):Int) (by simp) ?_;refine Ap.OA (by simp;omega) ?_;refine AY (WW al h hm aw am ap k N (l++ [K[j]]) (j+1) acc (by simp;omega) (by omega) (by omega) (λx U=>by
      rcases kO.1 U with U | U;exact ac x U
      .cases bN.1 U;exact av) (by omega)) ?_
     refine BO (by simp) (Am ⟨_,V,?_,?_⟩);rw[hd,aW Z,sb];have:=Vm (n:=o.1.length) (w:=BT o) (P:=P) (m:=k) (l:=l++ [K[j]]) (ys:=K.drop (j+1));rw[List.length_drop] at this;rw[rS];omega
    .refine BR (by simp[Z]) (Am ⟨_,V,?_,by simp only;omega⟩);rw[hd,aS (ut.2 Z)]
   .rintro r ⟨Y,rfl,a3,a4⟩;rw[Sum.elim_inr];exact Ap.E ((j+1:Nat):Int) (by simp) (Am ⟨K.length - (j+1),by omega,j+1,V,by omega,V,a3.trans he,a4⟩)
  .simp only at a2;refine Am ?_;have:K.drop j=[]:=ur (by omega);rw[this] at he;show Sum.inr _=_;rw[← he];unfold Du;simp[GW]
def FW(n:Nat)(w:List Int)(P:PR->Bool):List (List DT):=(((List.range n).map λm=>Du n w P m [] (Eu n)).find? λl=> !l.isEmpty).getD []
theorem jb{c2:Nat}(Y:100<F)(h:VO o)(ag:∀x,VP o.1.length x->f136 F c2 x.1 x.2=some (!P x)):f71 F o c2=some (FW o.1.length (BT o) P):=by
 have Z:=h.n5;have al:=Uz Z;refine Dx ?_;unfold f71;have am:∀m,m<=5->f132 F o ((m:Nat):Int) c2 []=some (Du o.1.length (BT o) P m [] (Eu o.1.length)):=by
  intro m hm;refine Dx ?_;unfold f132;refine AY (eV Y Z) ?_;have ap:2^((Eu o.1.length).length - 0)<=2^10:=sn (by decide) (by omega);exact AY (show f134 F [] 0 (m:Int) o (Eu o.1.length) c2 []=_ from WW Y h hm al (λx aq=>Pm aq) ag m F [] 0 [] (by simp) (by omega) (by omega) (by simp) (by simp at ap ⊢;omega)) (Am (by simp))
 refine CZ o.1.length (λi s=>s=(i:Int)/\∀j,j<i->Du o.1.length (BT o) P j [] (Eu o.1.length)=[]) ⟨V,by simp⟩ (by omega) ?_ ?_
 .rintro i s hi ⟨rfl,U⟩;unfold QF;refine BR (by omega) (AY (am i (by omega)) ?_);refine Bw (λac=>Am ?_) (λaw=>?_)
  .show _=_;unfold FW;rw[uW,show(List.range o.1.length).find? _=some i from sZ.2 ⟨?_,rH.2 hi,λj K=>?_⟩];rfl
   .simp only [Function.comp];cases av:Du o.1.length (BT o) P i [] (Eu o.1.length) with
    | nil=>rw[av] at ac;simp at ac
    | cons=>rfl
   .simp only [Function.comp];rw[U j K];rfl
  .refine Ap.E ((i+1:Nat):Int) (by simp) (Am ⟨V,λj K=>?_⟩);rcases vN.1 K with K | rfl;exact U j K;exact tk.1 (by omega)
 .rintro s ⟨rfl,U⟩;unfold QF;refine BO (by omega) (Am ⟨_,V,?_⟩);unfold FW;rw[uW,show(List.range o.1.length).find? _=none from t7.2 ?_];rfl;intro j K;simp only[Function.comp];rw[U j (rH.1 K)];simp
theorem j7(U:n<=5)(x:PR)(K:VP n x):f136 F 0 x.1 x.2=some (!(λ_=>true) x):=by
 obtain⟨Y,Z,ac⟩:=K;obtain⟨a,O⟩:∃a:Nat,x.1=(a:Int):=⟨x.1.toNat,by omega⟩;obtain⟨b,hb⟩:∃b:Nat,x.2=(b:Int):=⟨x.2.toNat,by omega⟩;rw[O,hb];have:b<=4:=by omega
 have:a<b:=by omega
 match a,b with
 | 0,1 | 0,2 | 0,3 | 0,4 | 1,2 | 1,3 | 1,4 | 2,3 | 2,4 | 3,4=>rfl
 | 0,0=>omega
 | a+1,0=>omega
 | a+1,1=>omega
 | a+2,2=>omega
 | a+3,3=>omega
 | a+4,4=>omega
 | a,b+5=>omega
abbrev HN(o:OW):List (List DT):=FW o.1.length (BT o) λ_=>true
theorem Yk(K:100<F)(h:VO o):f71 F o 0=some (HN o):=jb K h λx O=>j7 h.n5 x O
theorem cv{m:Nat}{s:List DT}(U:n<=5)(hm:m<=5)(hw:BN 200 w)(K:s∈Du n w P m [] (Eu n)):s.length=m/\∀d∈s,BD d:=by
 unfold Du at K;let⟨c,O,K⟩:=vv.1 K;rw[sP] at K;unfold HH at K;obtain⟨r,Y,rfl⟩:=sr.1 K;have Z:=(MH (x:=(0,0)) O).1;have ac:∀x∈c,VP n x:=λx ag=>Pm (tQ.1 ((MH O).2 ag)).1;have al:(200:Int)*3^c.length<=1000000000000:=by
  have:=W4 (k:=c.length) (by omega);omega
 obtain⟨k1,am⟩:=Sf U c.length c w [] r 200 rfl ac hw (by omega) al (by simp) Y;refine⟨by rw[UI,am,Z];simp,λd hd=>k1 d ((Vf _).1 hd)⟩
theorem Wv:FW n w P=[]∨∃m,m<n/\FW n w P=Du n w P m [] (Eu n)/\(∀j,j<m->Du n w P j [] (Eu n)=[]):=by
 unfold FW;rw[uW];rcases h:(List.range n).find? ((λl:List (List DT)=> !l.isEmpty)∘λm=>Du n w P m [] (Eu n)) with _ | m;exact .inl V;let⟨Y,K,O⟩:=sZ.1 h;refine .inr ⟨m,rH.1 K,V,λj U=>?_⟩;have:=O j U;simpa using this
theorem iY(K:n<=5)(hw:BN 200 w):(FW n w P).length<=1024/\∃m,m<=5/\∀s∈FW n w P,s.length=m/\∀d∈s,BD d:=by
 rcases Wv (n:=n) (w:=w) (P:=P) with h | ⟨m,hm,h,_⟩;rw[h];exact⟨by simp,0,by omega,by simp⟩;rw[h];refine⟨?_,m,by omega,λs O=>cv K (by omega) hw O⟩;exact sG Vm (sG (sn (by decide) (Uz K)) (by decide))
def GM:List DT->List DT->Bool
 | [],[]=>false
 | [],_::_=>true
 | _::_,[]=>false
 | x::xs,y::ys=>if x=y then GM xs ys else Iq x y
theorem Si{a b:List DT}:∀{i:Nat},i<=a.length->i<=b.length->a.take i=b.take i->GM a b=GM (a.drop i) (b.drop i):=by
 induction a generalizing b with
 | nil=>intro i K _ _;simp at K;subst K;simp
 | cons x xs U=>
  intro i K O h;cases i with
  | zero=>simp
  | succ i=>
   cases b with
   | nil=>simp at O
   | cons y ys=>
    simp only[List.take_succ_cons,u7] at h;simp only[List.drop_succ_cons];rw[GM,d6 h.1];exact U (by simpa using K) (by simpa using O) h.2
theorem Wy{a b:List DT}(al:100<F)(am:a.length<=40)(U:∀d∈a,BD d)(Y:∀d∈b,BD d):Ap (f112 F a b) (λc=>c<0↔GM a b=true):=by
 unfold f112;refine AE (S:=λr=>(∃c,r=Sum.inl c/\(c<0↔GM a b=true))∨(r=Sum.inr ()/\a.length<=b.length/\a=b.take a.length)) ?_ ?_
 .refine CZ a.length (λi s=>s=(i:Int)/\i<=b.length/\a.take i=b.take i) ⟨V,by simp,by simp⟩ (by omega) ?_ ?_
  .rintro i s hi ⟨rfl,K,he⟩;unfold Qf;have O:a.drop i=a[i]::a.drop (i+1):=tt hi;refine BR (by omega) (Ba (m:=i) V hi ?_);refine Bw (λh=>Am (.inl ⟨1,V,?_⟩)) (λh=>?_);rw[Si (i:=i) (by omega) K he,O,ur (by omega:b.length<=i)];simp[GM]
   have hb:i<b.length:=by omega
   have Z:b.drop i=b[i]::b.drop (i+1):=tt hb;refine Ba (m:=i) V hb ?_;refine AE (Wc (U _ (jK hi)) (Y _ (jK hb))) ?_;rintro c ⟨c1,c2⟩;refine Bw (λh=>Am (.inl ⟨c,V,?_⟩)) (λh=>?_);rw[Si (i:=i) (by omega) K he,O,Z,GM,d0 (λk=>h (c2.2 k))];exact c1;have heq:=c2.1 (tB.1 h);refine Ap.E ((i+1:Nat):Int) (by simp) ?_;refine Am ⟨V,by omega,?_⟩;rw[sE,sE,he,cT hi,cT hb,heq]
  .rintro s ⟨rfl,K,he⟩;unfold Qf;rw[se] at he;exact BO (by omega) (Am ⟨_,V,.inr ⟨V,K,he⟩⟩)
 .rintro r (⟨c,rfl,ac⟩ | ⟨rfl,ag,he⟩);rw[Sum.elim_inl];exact Am ac
  .rw [Sum.elim_inr];have e:GM a b=GM [] (b.drop a.length):=by
    rw[Si (i:=a.length) (rJ _) ag (by rw[se];exact he),List.drop_length]
   refine Bw (λh=>Am ?_) (λh=>Am ?_)
   .rw [e];cases hd:b.drop a.length with
    | nil=>have:=r5 List.length hd;simp at this;omega
    | cons=>simp[GM]
   .rw [e,ur (by omega)];simp[GM]
def HD(b:List DT×Bool)(x:List DT):List DT×Bool:=if(!b.2 || GM x b.1)=true then(x,true) else b
def Oj(l:List (List DT)):List DT:=(l.foldl HD ([],false)).1
theorem iZ(aw:2000<F)(h:VO o):f22 F o=some (Oj (HN o),0):=by
 obtain⟨ay,al⟩:=L9 (F:=F) (by omega) h;let⟨am,m,hm,ap⟩:=iY (P:=λ_=>true) h.n5 al;refine Dx ?_;unfold f22;refine AY (QN (by omega) h) (BO (by simp) ?_);refine AY (Yk (by omega) h) (AE (S:=λr=>r.1=Oj (HN o)) ?_ (λr Z=>Am (by rw[Z])));have aq:(HN o).length<=1024:=am;have ac:∀s∈HN o,s.length=m/\∀d∈s,BD d:=ap;generalize HN o=L at aq ac ⊢;refine CZ L.length (λi s=>s.2.2=(i:Int)/\(s.1,s.2.1)=(L.take i).foldl HD ([],false)/\∀d∈s.1,BD d) ⟨V,V,by simp⟩ (by omega) ?_ ?_
 .rintro i ⟨b,t,c⟩ hi ⟨K,O,U⟩;simp only at K O U;subst K;let⟨az,ag⟩:=ac _ (jK hi);have av:(L.take (i+1)).foldl HD ([],false)=HD (b,t) L[i]:=by
   rw[sE,cT hi,th,← O];rfl
  unfold Qx;refine BR (by simp only;omega) (Ba (m:=i) V hi ?_);refine AY (b:=HD (b,t) L[i]) ?_ ?_
  .refine Dx ?_;unfold f72;refine AE (S:=λc=>c=(!t || GM L[i] b)) ?_ ?_
   .refine Bw (λh=>Am ?_) (λh=>?_);simp only at h;rw[h];rfl
    .simp only at h;obtain rfl:t=true:=by simpa using h
     refine AE (S:=λc=>c=GM L[i] b) ?_ (λc K=>Am (by rw[K];simp));unfold f73 f74;refine AE (S:=λc=>c<0↔GM L[i] b=true) (AE (Wy (by omega) (by omega) ag U) (λc K=>Am K)) ?_;intro c K;refine Am ?_;by_cases Y:GM L[i] b=true;rw[Y];exact sL (K.2 Y);rw[ut.2 Y];exact sz λk=>Y (K.1 k)
   .rintro c rfl;refine AE (S:=λr=>r=HD (b,t) L[i]) ?_ (λr Z=>Am Z);unfold HD;refine Bw (λh=>Am ?_) (λh=>Am ?_);rw[d6 h];rw[d0 h]
  .refine Ap.E ((i+1:Nat):Int) (by simp) (Am ⟨V,av.symm,?_⟩);simp only;unfold HD;split;exact ag;exact U
 .rintro⟨b,t,c⟩ ⟨K,O,U⟩;simp only at K O U;subst K;rw[se] at O;unfold Qx;refine BO (by simp) (Am ⟨_,V,?_⟩);simp only;unfold Oj;rw[← O]
end Pal
