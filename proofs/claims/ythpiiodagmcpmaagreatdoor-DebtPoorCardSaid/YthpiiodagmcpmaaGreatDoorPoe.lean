/- DebtPoor: a part (5 of 9) of the proof of its row. -/
import Derived.Test.YthpiiodagmcpmaaGreatDoorPoa
import Derived.Test.YthpiiodagmcpmaaGreatDoorPob
import Derived.Test.YthpiiodagmcpmaaGreatDoorPoc
import Derived.Test.YthpiiodagmcpmaaGreatDoorPod
import Derived.Conc.ClockLaws
import Derived.Conc.WgGenN3
import Derived.Handed
import Derived.LaidLaws
import Derived.LaidHandle
import Derived.Test.YthpiiodagmcpmaaGreatDoorRows
import Derived.Test.YthpiiodagmcpmaaGreatDoorChecked
import Derived.Conc.LeavingOf
import Derived.Conc.HoldsTime
import Derived.Carry
import Derived.ChangeSame
import Derived.ChangeVars
import Derived.ChangeSlices
import Derived.JoinedOf
import Derived.RowKit
import Derived.Deep.Strs
import Derived.Stop.Joined
set_option linter.all false
set_option maxRecDepth 100000
namespace Pal
open Go Go.Conc Go.Proofs
open Go.Proofs.Tryz
variable {J:Judge Tryz.prog}
variable {E:LH}
theorem bp{α:Type}{xs ys K:List α}{y:α}(h:EK xs (y::ys)=some K):K≠ []:=by
 unfold EK at h;split at h
 .cases h;simp
 .cases h
def UN(fu_:Nat)(sl:AG)(Z:(List ((Nat×BC)×Bool))×(List (List AR))×SC)(ac:(List (List AR))×List ((Nat×BC)×Bool))(U:Nat)(K:(List ((Nat×BC)×Bool))×Int):Option (Br ((List ((Nat×BC)×Bool))×Int) (Int×(List ((Nat×BC)×Bool)))):= if K.2<(sl.length:Int) then((ix sl K.2).bind λag=> (Mt U K.2).bind λal=> (Mq al 1).bind λam=> Option.bind (if(((am):Nat):Int)=(((0):Nat):Int) then((I9 K.2).bind λap=> (LC U ap).bind λaq=> (f161 fu_ ac.1 ag).bind λav=> (f160 fu_ av aq sl K.1).bind λY=> some (decide (0<(Y.1.length:Int)),Y.2)) else(some (false,K.1))) λO=> if O.1=true then(some (.done (K.2,O.2))) else((Av (K.2+1)).bind λaw=> some (.more (O.2,aw)))) else(some (.done (Z.2.2.1,K.1)))
def Ra(fu_:Nat)(sl:AG)(K:(List ((Nat×BC)×Bool))×(List (List AR))×SC):Option (Br ((List ((Nat×BC)×Bool))×(List (List AR))×SC) (((List Int)×List ((Nat×BC)×Bool))⊕(Unit))):= (ix sl K.2.2.1).bind λac=> (I9 K.2.2.1).bind λag=> (LC K.2.2.2.2 ag).bind λal=> (f161 fu_ K.2.1 ac).bind λam=> (f160 fu_ am al sl K.1).bind λO=> if(O.1.length:Int)=0 then(some (.done (Sum.inl ([],O.2)))) else((I9 K.2.2.1).bind λap=> (LC K.2.2.2.2 ap).bind λY=> (EK K.2.2.2.1 ([K.2.2.1]:List Int)).bind λU=> if(U.length:Int)=(sl.length:Int) then(some (.done (Sum.inl (U,O.2)))) else(Option.bind (iter (UN fu_ sl K O Y) fu_ (O.2,0)) λZ=> some (.more (Z.2,O.1,Z.1,U,Y))))
def f119(fu_:Nat)(p1:List (List AR))(p2:Int)(sl:AG)(sm:List ((Nat×BC)×Bool)):Option ((List Int)×List ((Nat×BC)×Bool)):= Option.bind (iter (Ra fu_ sl) fu_ (sm,p1,p2,[],0)) λK=> Sum.elim (λr=>some r) (λO=> none) K
theorem gA{a1:Aq}{c2:Nat}{ag:Nat}{os:Nat}{a8:Aq}{a9:Nat}{al:Nat}{b3:Obj}{p1:List (List AR)}{p2:Int}{sl:AG}{sm:List ((Nat×BC)×Bool)}(ey:Ao (rL (rM rI false rI false)) E a1 c2 p1)(aq:At E ag os [sV a8 sl a9,.map (some al)])(bb:Ao Az E a8 a9 sl)(eA:BO (rP (rN .u8) (rA 5 (rA 10 rI))) true rB false E b3 sm){fu_:Nat}{r:(List Int)×List ((Nat×BC)×Bool)}(c3:f119 fu_ p1 p2 sl sm=some r):AT J 55 [Al ag os,sV a1 p1 c2,iV p2] E [(al,b3)] (λw E' B'=>∃(b4:Aq) (c4:Nat) (c5:Obj),w= sV b4 r.1 c4/\B'= [(al,c5)]/\Ao rI E' b4 c4 r.1/\(r.1= []->b4=none)/\BO (rP (rN .u8) (rA 5 (rA 10 rI))) true rB false E' c5 r.2):=by
 refine Bp func55 λQ ii cs H eC c6=>?_;unfold f119 at c3;obtain⟨io,eN,c7⟩:=bs c3;refine C 12 V (Bx (λL s=>False) ?_ ?_)
 .intro _ _ e0;exact e0.elim
 .intro i0;refine JL.block (Cn eN (λL s O=>∃(av:LH) (b5:Obj) (be:Aq) (bi:Nat) (b6:Aq) (ca:Nat) (cc:Seg),Jn E H av [[(al,b5)],cc] [(0,Al ag os),(1,sV be O.2.1 bi),(2,iV O.2.2.1),(7,sV b6 O.2.2.2.1 ca),(8,.int .u8 ((O.2.2.2.2:Nat):Int))] L s (BO (rP (rN .u8) (rA 5 (rA 10 rI))) true rB false av b5 O.1/\Ao (rL (rM rI false rI false)) av be bi O.2.1/\OL 3 rI av b6 ca cc O.2.2.2.1)) ⟨E,b3,a1,c2,none,0,[],V,V,AN,eC,eA,ey,OL.nil⟩ ?_);rintro _ _ O ⟨av,b5,be,bi,b6,ca,cc,rfl,rfl,U,e1,e3,e4,e5⟩ c8 ⟨i1,bn⟩ e6;have c9:=bn;unfold Ra at c9;refine C 2 V (Fl 14 λK=>?_);refine A7 K V [0,1,2,3] V (JG.fd 4 K underlying119 AW V V V V ?_);refine Eu 5 K 0 (aq.M U) BA V V V V (Dj 6 K V V ?_);obtain⟨ce,e7,e8⟩:=bs c9;refine Fo 7 (bb.M U) e7 K underlying79 Bt ?_;rintro i3 i4 _ ⟨_,_,rfl,rfl,⟨_,_,rfl,rfl,rfl⟩⟩ ff;refine Jq 8 K ff DX Bt V V V (A7 K V [10,11] V ?_);obtain⟨fk,fl,fm⟩:=bs e8;refine AQ (v:= .int .u8 ((fk:Nat):Int)) 12 K V V (λρ h s' ac=>MZ (h _ _ V) (h _ _ V) fl) ?_;obtain⟨fo,fs,fv⟩:=bs fm;refine AQ (v:= .int .u8 ((fo:Nat):Int)) 13 K V V (λρ h s' ac=>OU (h _ _ V) (h _ _ V) fs) ?_;obtain⟨i5,fw,fN⟩:=bs fv;refine JG.call (i:=9) (vs:= [sV be O.2.1 bi,.agg #[iV ce.1,iV ce.2.1,iV ce.2.2]]) (Vy e4 fw) (by decide+kernel) V V V (A5 func85 V) V e1 ?_;rintro _ i6 _ Y ⟨i7,i8,rfl,rfl,gc⟩ ge;refine CZ [14,15] ?_;obtain⟨aw,gg,gh⟩:=bs fN;refine Cc 0 (Wm gc (aq.M (U.Ad Y)) (bb.M (U.Ad Y)) (e3.M Y) gg) V V (A5 func84 V) ge V ?_;rintro _ ci _ Z ⟨ay,az,co,rfl,rfl,dd,cp⟩ ea;refine C 6 V (JL.ln underlying124 V V V ?_);refine C 2 V (A1 gh (λgt gE=>?_) (λgt gO=>?_))
  .refine C 4 V (JS.drop 1 ea V λg0=>?_);obtain rfl:=oi gE;obtain rfl:=c8 _ bn;have g1:=elim_inl c7;obtain rfl:=oi g1;exact A2 func55 V V (c6 ((U.Ad Y).Ad Z) V ⟨none,0,co,V,(by first | rfl | simp),Ao.nil,(λ_=>V),cp⟩ g0)
  .refine C 2 V (Fl 9 λK=>?_);refine A7 K V [0,1,4,5] V ?_;obtain⟨g3,g4,g5⟩:=bs gO;refine AQ (v:= .int .u8 ((g3:Nat):Int)) 6 K V V (λρ h s' ac=>MZ (h _ _ V) (h _ _ V) g4) ?_;obtain⟨a0,g6,g7⟩:=bs g5;refine AQ (v:= .int .u8 ((a0:Nat):Int)) 7 K V V (λρ h s' ac=>OU (h _ _ V) (h _ _ V) g6) ?_;obtain⟨bo,g8,ha⟩:=bs g7;refine JG.one (i:=2) V (by decide+kernel) (Take.Fx (pp:=rI) [iV O.2.2.1] ([O.2.2.1]:List Int) ea V V V underlying22 AH CR (by decide) V V V ⟨V,trivial⟩ λi9 jg hb hc=>?_);refine JG.one (i:=3) V (by decide+kernel) (Take.app0 (pp:=rI) 1 3 hc g8 V V V V V V V underlying22 underlying22 AH (DF type3) CR V (by decide) (by decide) (e5.M (Y.Ad Z)) hb V V λa2 a3 jj bv eb hd=>?_);refine Dj 8 K V V (CZ [9] ?_);refine GZ 1 V hd λhe=>JS.drop 1 he V λec=>C 6 V (JL.ln underlying22 V V V ?_);refine C 2 V (Cb 0 (aq.M ((U.Ad Y).Ad Z)) underlying119 AW BA ?_);refine JL.ln underlying79 V V V (C 2 V ?_);refine A1 ha (λhf hg=>?_) (λhf hj=>?_)
   .refine C 5 V (Cp 4 eb ec V λjp ed hk hl=>?_);refine JS.drop 3 hl V λhm=>?_;obtain rfl:=oi hg;obtain rfl:=c8 _ bn;have hn:=elim_inl c7;obtain rfl:=oi hn;exact A2 func55 V V (c6 (((U.Ad Y).Ad Z).Ad ed) V ⟨a2,a3,co,V,(by first | rfl | simp),hk,(λe=>absurd e (bp (by assumption))),(cp.M ed)⟩ hm)
   .refine C 5 V (Cb 0 (aq.M ((U.Ad Y).Ad Z)) underlying119 AW BA ?_);refine JL.ln underlying79 V V V ?_;obtain⟨bw,ho,hp⟩:=bs hj;refine C 2 V (Bx (λL s=>∃(bx:LH) (bz:Obj),Jn ci H bx [[(al,bz)],bv] [(0,Al ag os),(1,sV ay aw.1 az),(2,iV bw.1),(7,sV a2 bo a3),(8,.int .u8 ((a0:Nat):Int))] L s (BO (rP (rN .u8) (rA 5 (rA 10 rI))) true rB false bx bz bw.2)) ?_ ?_)
    .rintro _ _ ⟨bx,bz,rfl,rfl,ct,hq,hr⟩;refine Of ?_;obtain rfl:=oi hp;exact AF (e6 _ _ (bw.2,aw.1,bw.1,bo,a0) ⟨bx,bz,ay,az,a2,a3,bv,V,V,(((U.Ad Y).Ad Z).Ad ct),hq,hr,(dd.M ct),(eb.M ct)⟩ bn) V
    .intro ee;refine JL.block (JS.drop 3 ec V λhs=>?_);refine Cn ho (λL s a4=>∃(b0:LH) (a5:Obj),Jn ci H b0 [[(al,a5)],bv] [(0,Al ag os),(1,sV ay aw.1 az),(2,iV O.2.2.1),(7,sV a2 bo a3),(8,.int .u8 ((a0:Nat):Int)),(49,sV a8 sl a9),(50,iV (sl.length:Int)),(51,iV a4.2)] L s (BO (rP (rN .u8) (rA 5 (rA 10 rI))) true rB false b0 a5 a4.1)) ⟨ci,co,V,V,AN,hs,cp⟩ ?_;rintro _ _ a4 ⟨b0,a5,rfl,rfl,am,ef,cw⟩ eg ⟨jt,b1⟩ ht;have ej:=b1;unfold UN at ej;refine C 5 V (A1 ej (λhu hv=>?_) (λhu hw=>?_))
     .obtain⟨cy,hx,hy⟩:=bs hv;refine C 6 V (JS.ix (bb.M (((U.Ad Y).Ad Z).Ad am)) hx underlying79 Bt ?_);rintro jy jO _ ⟨_,_,rfl,rfl,⟨_,_,rfl,rfl,rfl⟩⟩ hz;refine Cf hz DX Bt V V (B2 ef BR λjP hA=>?_);refine C 1 V (JS.sx 2 hA Bt λhB=>?_);refine Df 2 hB V λek ap hC el=>C 2 V (Fl 18 λK=>?_);refine A7 K V [0,1] V ?_;obtain⟨hD,hE,hF⟩:=bs hy;refine AQ (v:= .int .u8 ((hD:Nat):Int)) 2 K V V (λρ h s' ac=>Uv (h _ _ V) (h _ _ V) hE) ?_;obtain⟨em,hG,hH⟩:=bs hF;refine AQ (v:= .int .u8 ((em:Nat):Int)) 3 K V V (λρ h s' ac=>UH (h _ _ V) (h _ _ V) hG) (A7 K V [4,5] V ?_);obtain⟨c0,eo,hI⟩:=bs hH;refine F1 0 #[true,true,true,true,true,true,true,true,true,true,true,true,true,true,true,true,true,true] (λL s=>∃(a6:LH) (a7:Obj),Jn ek H a6 [[(al,a7)],bv] [(0,Al ag os),(1,sV ay aw.1 az),(2,iV O.2.2.1),(7,sV a2 bo a3),(8,.int .u8 ((a0:Nat):Int)),(9,iV a4.2),(49,sV a8 sl a9),(50,iV (sl.length:Int)),(51,iV a4.2),(73,.bool c0.1)] L s (BO (rP (rN .u8) (rA 5 (rA 10 rI))) true rB false a6 a7 c0.2)) ?_ ?_
      .rintro _ _ ⟨a6,a7,rfl,rfl,ep,er,eu⟩;refine AZ.fin (by decide+kernel) (Ct hI (λhK hL=>?_) (λhK hM=>?_))
       .refine C 6 V ?_;obtain rfl:=oi hL;obtain rfl:=eg _ b1;exact AF (ee _ _ ⟨a6,a7,V,V,((am.Ad ap).Ad ep),er,eu⟩) V
       .obtain⟨hN,hO,hP⟩:=bs hM;refine C 3 V (Bv hO V V V ?_);refine C 2 V ?_;obtain rfl:=oi hP;exact AF (ht _ _ (c0.2,hN) ⟨a6,a7,V,V,((am.Ad ap).Ad ep),er,eu⟩ b1) V
      .intro ew;refine Gy (q:=(((em):Nat):Int)=(((0):Nat):Int)) (i:=61) V (λc1=>?_) (λc1=>?_)
       .have hQ:=ip eo c1;refine A7 K V [6,7] V ?_;refine Jq 8 K hC DX Bt V V V ?_;refine A7 K V [10,11] V ?_;obtain⟨hR,hS,hT⟩:=bs hQ;refine AQ (v:= .int .u8 ((hR:Nat):Int)) 12 K V V (λρ h s' ac=>MZ (h _ _ V) (h _ _ V) hS) ?_;obtain⟨ex,hU,hV⟩:=bs hT;refine AQ (v:= .int .u8 ((ex:Nat):Int)) 13 K V V (λρ h s' ac=>OU (h _ _ V) (h _ _ V) hU) ?_;obtain⟨hW,hX,hY⟩:=bs hV;refine JG.call (i:=9) (vs:= [sV ay aw.1 az,.agg #[iV cy.1,iV cy.2.1,iV cy.2.2]]) (Vy (dd.M (am.Ad ap)) hX) (by decide+kernel) V V V (A5 func85 V) V el ?_;rintro _ jQ _ b2 ⟨h0,h1,rfl,rfl,h2⟩ h3;obtain⟨jR,h4,h5⟩:=bs hY;refine Om (i:=14) (vs:= [Al ag os,sV h0 hW h1,.int .u8 ((ex:Nat):Int)]) 0 (λ_ h=>by cases h) (Wm h2 (aq.M (((((U.Ad Y).Ad Z).Ad am).Ad ap).Ad b2)) (bb.M (((((U.Ad Y).Ad Z).Ad am).Ad ap).Ad b2)) (cw.M (ap.Ad b2)) h4) (by decide+kernel) V V V (A5 func84 V) V h3 V ?_;rintro _ h6 _ h7 ⟨jS,jT,h8,rfl,rfl,jU,h9⟩ ia;refine AQ 15 K V V (λρ h s' ac=>Yl.len V underlying124 (h _ _ V)) ?_;refine A7 K V [16,17] V ?_;obtain rfl:=oi h5;refine DD ?_ (ew _ _ ⟨h6,h8,V,V,(b2.Ad h7),ia,h9⟩);exact⟨V,V,V,V,V,V,V,V,V,V,trivial⟩
       .have ih:=im eo c1;refine A7 K V [6,7,8,9,10,11,12,13,14,15,16,17] V ?_;obtain rfl:=oi ih;refine DD ?_ (ew _ _ ⟨ek,a5,V,V,AN,el,(cw.M ap)⟩);exact⟨V,V,V,V,V,V,V,V,V,V,trivial⟩
     .refine JL.exit V ?_;obtain rfl:=oi hw;obtain rfl:=eg _ b1;exact AF (ee _ _ ⟨b0,a5,V,V,am,ef,cw⟩) V
end Pal
namespace Pal
open Go Go.Conc
section
variable {P:Program}{F:Fam}
theorem M4.dH{m m':M4}(h:m.num=m'.num):m=m':=by
  obtain⟨l,k,s,w⟩:=m;obtain⟨l',k',s',w'⟩:=m';simp only [M4.num] at h;cases l <;> cases k <;> cases s <;> cases l' <;> cases k' <;> cases s' <;> simp only [Bool.toNat_true,Bool.toNat_false] at h <;> first
    | (have e:w=w':=by omega
       subst e;rfl)
    | (exfalso;omega)
theorem Lo{w:World}{m:M4}{q:Nat}(h:F.MU w m q):w.cell? F.uA=some (.int .i32 m.num)/\w.cell? F.qA=some (.int .u32 q)/\w.frozen? F.uA=false/\w.frozen? F.qA=false:=by
 unfold Fam.MU Fam.Iv at h;refine⟨?_,?_,?_,?_⟩
 .simp [World.cell?,Fam.uA,h]
 .simp [World.cell?,Fam.qA,h]
 .simp [World.frozen?,Fam.uA,h]
 .simp [World.frozen?,Fam.qA,h]
theorem Tg{w:World}{m m':M4}{q:Nat}(h:F.MU w m q):w.setCell F.uA (.int .i32 m'.num)=F.F5 w m' q:=by
 unfold Fam.F5 World.setCell;congr 1;apply Array.ext_getElem?;intro i;unfold Fam.MU Fam.Iv at h;rw [Array.getElem?_modify];have O:F.mu<w.heap.size:=by
  rcases Nat.lt_or_ge F.mu w.heap.size with K | K
  .exact K
  .simp [Array.getElem?_eq_none K] at h
 by_cases e:F.mu=i
 .subst e;rw [Array.getElem?_setIfInBounds_self_of_lt O,h];simp [Fam.uA,Fam.Iv]
 .rw [Array.getElem?_setIfInBounds_ne e];simp [Fam.uA,e]
theorem Tz{w:World}{m:M4}{q q':Nat}(h:F.MU w m q):w.setCell F.qA (.int .u32 q')=F.F5 w m q':=by
 unfold Fam.F5 World.setCell;congr 1;apply Array.ext_getElem?;intro i;unfold Fam.MU Fam.Iv at h;rw [Array.getElem?_modify];have O:F.mu<w.heap.size:=by
  rcases Nat.lt_or_ge F.mu w.heap.size with K | K
  .exact K
  .simp [Array.getElem?_eq_none K] at h
 by_cases e:F.mu=i
 .subst e;rw [Array.getElem?_setIfInBounds_self_of_lt O,h];simp [Fam.qA,Fam.Iv]
 .rw [Array.getElem?_setIfInBounds_ne e];simp [Fam.qA,e]
theorem TG{w:World}{m:M4}{q:Nat}(h:F.MU w m q):F.F5 w m q=w:=by
 unfold Fam.F5;have:w.heap.setIfInBounds F.mu (F.Iv m.num q)=w.heap:=by
  apply Array.ext_getElem?;intro i;by_cases e:F.mu=i
  .subst e;unfold Fam.MU at h;have O:F.mu<w.heap.size:=by
    rcases Nat.lt_or_ge F.mu w.heap.size with K | K
    .exact K
    .simp [Array.getElem?_eq_none K] at h
   rw [Array.getElem?_setIfInBounds_self_of_lt O,h]
  .rw [Array.getElem?_setIfInBounds_ne e]
 rw [this]
theorem G5.put{w:World}{m:M4}{q:Nat}:G5 w (F.F5 w m q) (F.F5 w m q):=⟨V,V,.refl _,V⟩
theorem G5.self{w:World}{m:M4}{q:Nat}(h:F.MU w m q):G5 w (F.F5 w m q) w:=by rw [TG h];exact⟨rfl,rfl,.refl _,rfl⟩
def Nv(P:Program)(F:Fam)(X Y:Ph->GP):Prop:=∀p g s,Hn P F X p g s->Y p g s
abbrev Dg(P:Program)(F:Fam)(X:Ph->GP):Prop:=Nv P F X X
theorem Dg.stop:Dg P F (Stop P F):=λ_ _ _ h=>h.stop
def Ju(P:Program)(F:Fam)(R:Ph->GP)(p:Ph)(g:Goroutine)(s:St):Prop:=∃X:Ph->GP,(∀p g s,X p g s->Hn P F (λp g s=>X p g s∨R p g s) p g s)/\X p g s
def W2(P:Program)(F:Fam)(R:Ph->GP)(p:Ph)(g:Goroutine)(s:St):Prop:=Ju P F R p g s∨R p g s
theorem Ju.of{R:Ph->GP}{p:Ph}{g:Goroutine}{s:St}(h:Stop P F p g s):Ju P F R p g s:=
 let ⟨X,K,O⟩:=h
 ⟨X,λp g s U=>(K p g s U).M P F λ_ _ _ h=> .inl h,O⟩
theorem Ju.to{R:Ph->GP}:Nv P F (W2 P F R) (Ju P F R):=λp g s h=>by
 refine⟨λK g' s'=>Ju P F R K g' s'∨(K=p/\g'=g/\s'=s),λK g' s' U=>?_,.inr ⟨rfl,rfl,rfl⟩⟩
 rcases U with⟨X,O,Y⟩ | ⟨rfl,rfl,rfl⟩
 .refine(O K g' s' Y).M P F λp g s h=>?_
  rcases h with h | h
  .exact .inl (.inl ⟨X,O,h⟩)
  .exact .inr h
 .refine h.M P F λp g s h=>?_;rcases h with h | h
  .exact .inl (.inl h)
  .exact .inr h
theorem Dg.Xa{R:Ph->GP}:Dg P F (W2 P F R):=λp g s h=> .inl (Ju.to p g s h)
theorem iN{R:Ph->GP}(h:∀p g s,R p g s->Ju P F R p g s){p:Ph}{g:Goroutine}{s:St}(O:R p g s):Stop P F p g s:=by
 refine⟨Ju P F R,λp g s O=>?_,h p g s O⟩;obtain⟨X,U,Y⟩:=O;refine(U p g s Y).M P F λp g s K=>?_;rcases K with K | K
 .exact⟨X,U,K⟩
 .exact h p g s K
theorem J1{X Y:Ph->GP}(O:Nv P F X Y){k:Nat}{p:LP}{g:Goroutine}{s:St}(U:g.status= .running)(K:g.offers=none)(Z:s.q=false)(ac:p≠ .FY)(ag:∀sv,p= .CG sv->∀w m,F.MU w m 0->stepG P false g w= .go {g with status:= .blocked} w #[])(al:∀b,p= .Fv b->mayWake P g=true)
  (h:∀w m q,F.MU w m q->Ef p m q->∃m' q' es x g' w',(m',q',es,x)∈F.B9 p m q/\stepG P false g w= .go g' w' es/\G5 w (F.F5 w m' q') w'/\g'.status= .running/\Way P false (X (Fam.Dr k x)) g' s):Y (.lk k p) g s:=
 O _ _ _ {
  run:=U,offers:=K,quiet:=(by simp [Fam.CY]),live:=λ_=>Z,act:=(by simp [Fam.act]),Jy:=λe=>by
   rcases e with e | ⟨k',b,e⟩
   .cases e
   .cases e;exact al b rfl
  FB:=(by simp),go:=(by simp),lk:=λk' l e am w m q hm K=>by cases e;exact h w m q hm K
  CG:=λk' sv e w m hm=>by cases e;exact ag sv rfl w m hm
  store:=λk' e=>by cases e;exact absurd rfl ac
  fin:=(by simp)}
end
variable {ops:Ao_}{i:Nat}{rest:List Nat}{d:Option Tmp}{f:FuncId}{y z:Operand}{args:Array Operand}{vs:Lv_}{ats:Array TypeId}{ty t u tw:TypeId}{pp:String}{af:Ae_}{g:On_}{p:LP}{kk:Nat}
section
variable {P:Program}{F:Fam}{n:Nat}{L L':Env}{ds:Ld_}{k:Li_}{cs:Lf_}{s s':St}{b:Frame}
variable {x:Operand}
def IT:LP->Bool
 | .FY | .CG _ | .Fv _=>false
 | _=>true
theorem Lf(h:IT p=true):p≠ .FY:=λe=>by subst e;cases h
theorem K8(h:IT p=true){X:Bool->Prop}:∀sv,p= .CG sv->X sv:=λsv e=>by subst e;cases h
theorem La(h:IT p=true){X:Bool->Prop}:∀sv,p= .Fv sv->X sv:=λsv e=>by subst e;cases h
theorem Mg{X:Ph->GP}(Z:Dg P F X){mk:Mark}{o:Option LP}(ac:s.q=false)(K:IT p=true)(ag:∀m q,F.B9 p m q= [(m,q,#[Fam.CO mk],o)])
  (al:ops[i]? =some ⟨d,.call ⟨.value (.func f),args,ats⟩,ty,pp,af,g⟩) (U:b.roundOf=none) (hw:AY L ops ⟨d,.call ⟨.value (.func f),args,ats⟩,ty,pp,af,g⟩=some true) (O:((b.kind != .early)&&Bu n d)=true)
  (hm:∀x,mk≠ .extern x) (he:BS P f (λ_=>do mark mk;pure Extern.Race.none_))
  (h:JL (A4 P false) (X (Fam.Dr kk o)) b n (AB L d (.tuple #[])) ds (.inRegion ops rest::k) cs s):
  JL (A4 P false) (X (.lk kk p)) b n L ds (.inRegion ops (i::rest)::k) cs s:=λT Y=>by
 simp only [Bool.and_eq_true] at O
 obtain⟨fn,am,ap,hb,aq,he⟩:=he.h
 refine(A4 P _).stop (J1 Z rfl rfl ac (Lf K) (K8 K) (La K) λw m q av aw=>?_)
 refine⟨m,q,_,o,_,w,by rw [ag];exact List.mem_singleton.2 rfl,?_,G5.self av,rfl,h _ (Y.put O.2 _)⟩
 rw [BW U,BW U,stepG_mark0 (a:=⟨T,ds⟩) mk hm al (Ci Y hw) (by simpa using O.1) rfl am ap hb aq he,Ex]
 rfl
theorem Rf{X:Ph->GP}(Z:Dg P F X){mk:Addr->Mark}{ad:Addr}{o:Option LP}(ac:s.q=false)(K:IT p=true)(ag:∀m q,F.B9 p m q= [(m,q,#[Fam.CO (mk ad)],o)])
  (al:ops[i]? =some ⟨d,.call ⟨.value (.func f),args,ats⟩,ty,pp,af,g⟩) (Y:b.roundOf=none) (hw:AY L ops ⟨d,.call ⟨.value (.func f),args,ats⟩,ty,pp,af,g⟩=some true) (O:((b.kind != .early)&&Bu n d)=true)
  (hm:∀ad x,mk ad≠ .extern x) (he:BS P f (Extern.Race.marked mk)) (am:evs L args.toList=some vs) (ap:vs[0]? =some (.pointer (some ad)))
  (h:JL (A4 P false) (X (Fam.Dr kk o)) b n (AB L d (.tuple #[])) ds (.inRegion ops rest::k) cs s):
  JL (A4 P false) (X (.lk kk p)) b n L ds (.inRegion ops (i::rest)::k) cs s:=λT U=>by
 simp only [Bool.and_eq_true] at O
 obtain⟨fn,aq,av,hb,aw,he⟩:=he.h
 refine(A4 P _).stop (J1 Z rfl rfl ac (Lf K) (K8 K) (La K) λw m q ay az=>?_)
 refine⟨m,q,_,o,_,w,by rw [ag];exact List.mem_singleton.2 rfl,?_,G5.self ay,rfl,h _ (U.put O.2 _)⟩
 rw [BW Y,BW Y,stepG_markAt (a:=⟨T,ds⟩) mk hm al (Ci U hw) (by simpa using O.1) rfl aq av hb aw he (ad:=ad) (by rw [KQ U am];simpa using ap),Ex]
 rfl
theorem QG{X:Ph->GP}(aq:Dg P F X){o:Option LP}(av:s.q=false)(K:IT p=true)(aw:∀m q,F.B9 p m q= [(m,q,#[],o)])
  (ay:ops[i]? =some ⟨d,.convert t u x,ty,pp,af,g⟩) (Y:b.roundOf=none) (hw:AY L ops ⟨d,.convert t u x,ty,pp,af,g⟩=some true) (O:((b.kind != .early)&&Bu n d)=true)
  (Z:P.underlying t=some (.pointer tw)) (hu:P.underlying u=some .unsafePointer) (ac:(P.info? tw).map (λi=>decide (i.size=0))=some false) (az:ev L x=some (.pointer (some F.uA)))
  (h:JL (A4 P false) (X (Fam.Dr kk o)) b n (AB L d (.pointer (some F.uA))) ds (.inRegion ops rest::k) cs s):
  JL (A4 P false) (X (.lk kk p)) b n L ds (.inRegion ops (i::rest)::k) cs s:=λT U=>by
 simp only [Bool.and_eq_true] at O
 refine(A4 P _).stop (J1 aq rfl rfl av (Lf K) (K8 K) (La K) λw m q ag a1=>?_)
 refine⟨m,q,_,o,_,w,by rw [aw];exact List.mem_singleton.2 rfl,?_,G5.self ag,rfl,h _ (U.put O.2 _)⟩
 have al:=(Lo ag).1
 have am:=run_convert_to_unsafe (P:=P) (w:=w) Z hu ac al
 have a0:=events_convert_to_unsafe (P:=P) (w:=w) Z hu ac al
 have ap:execOp (⟨T,ds⟩:Act).eval ⟨d,.convert t u x,ty,pp,af,g⟩=(do pure (Next.value (← Go.convert t u (.pointer (some F.uA))))):=by
  rw [L6];simp only [execOp,U.ev az]
 rw [BW Y,BW Y,stepG_value (a:=⟨T,ds⟩) (v:= .pointer (some F.uA)) (w':=w) ay (Ci U hw) (by simpa using O.1) (by rw [ap];simp [am,Result.andThen]),Ex];have e2:listed P b.fn ⟨T,ds⟩ ⟨d,.convert t u x,ty,pp,af,g⟩ w= #[]:=by
  unfold listed;rw [ap];simp [am,a0,Result.evThen,seen_none]
 rw [e2]
theorem Q1{X Y:Ph->GP}(a1:Nv P F X Y){old nw:M4}(a2:s.q=false)(Z:IT p=true)
  (am:ops[i]? =some ⟨d,.call ⟨.value (.func f),#[x,y,z],ats⟩,ty,pp,af,g⟩) (U:b.roundOf=none) (hw:AY L ops ⟨d,.call ⟨.value (.func f),#[x,y,z],ats⟩,ty,pp,af,g⟩=some true) (O:((b.kind != .early)&&Bu n d)=true)
  (he:BS P f (Extern.Atomic.casT (.int .i32))) (ap:ev L x=some (.pointer (some F.uA))) (aq:ev L y=some (.int .i32 old.num)) (av:ev L z=some (.int .i32 nw.num))
  (a3:∀q,Ef p old q->∃o,(nw,q,#[Fam.Co F.uA,Fam.EL F.uA],o)∈F.B9 p old q/\JL (A4 P false) (X (Fam.Dr kk o)) b n (AB L d (.bool true)) ds (.inRegion ops rest::k) cs s)
  (a4:∀m q,m≠old->Ef p m q->∃o,(m,q,#[Fam.Co F.uA],o)∈F.B9 p m q/\JL (A4 P false) (X (Fam.Dr kk o)) b n (AB L d (.bool false)) ds (.inRegion ops rest::k) cs s):
  ∀T,Has n L T->Y (.lk kk p) (G (fr b T ds (.inRegion ops (i::rest)::k)) cs) s:=λT K=>by
 simp only [Bool.and_eq_true] at O
 obtain⟨fn,aw,ay,hb,az,he⟩:=he.h
 refine(J1 a1 rfl rfl a2 (Lf Z) (K8 Z) (La Z) λw m q ac a0=>?_)
 obtain⟨c1,_,c3,_⟩:=Lo ac
 by_cases e:m=old
 .subst e
  obtain⟨o,ag,al⟩:=a3 q a0;refine⟨_,_,_,o,_,_,ag,?_,G5.put,rfl,al _ (K.put O.2 _)⟩;rw [BW U,BW U,stepG_cas_hit (a:=⟨T,ds⟩) am (Ci K hw) (by simpa using O.1) rfl aw ay hb az .i32 he (by rw [EZ];exact K.ev ap) (by rw [EZ];exact K.ev aq) (by rw [EZ];exact K.ev av) c1 c3,Tg ac,Ex]
  rfl
 .obtain⟨o,ag,al⟩:=a4 m q e a0;refine⟨_,_,_,o,_,w,ag,?_,G5.self ac,rfl,al _ (K.put O.2 _)⟩;rw [BW U,BW U,stepG_cas_miss (a:=⟨T,ds⟩) am (Ci K hw) (by simpa using O.1) rfl aw ay hb az .i32 he (by rw [EZ];exact K.ev ap) (by rw [EZ];exact K.ev aq) (by rw [EZ];exact K.ev av) c1 c3 (λq=>e (M4.dH q)),Ex]
  rfl
theorem Uk{X:Ph->GP}(K:Dg P F X){old nw:M4}(O:s.q=false)(U:IT p=true)
  (Y:ops[i]? =some ⟨d,.call ⟨.value (.func f),#[x,y,z],ats⟩,ty,pp,af,g⟩) (Z:b.roundOf=none) (hw:AY L ops ⟨d,.call ⟨.value (.func f),#[x,y,z],ats⟩,ty,pp,af,g⟩=some true) (ac:((b.kind != .early)&&Bu n d)=true)
  (he:BS P f (Extern.Atomic.casT (.int .i32))) (ag:ev L x=some (.pointer (some F.uA))) (al:ev L y=some (.int .i32 old.num)) (am:ev L z=some (.int .i32 nw.num))
  (ap:∀q,Ef p old q->∃o,(nw,q,#[Fam.Co F.uA,Fam.EL F.uA],o)∈F.B9 p old q/\JL (A4 P false) (X (Fam.Dr kk o)) b n (AB L d (.bool true)) ds (.inRegion ops rest::k) cs s)
  (aq:∀m q,m≠old->Ef p m q->∃o,(m,q,#[Fam.Co F.uA],o)∈F.B9 p m q/\JL (A4 P false) (X (Fam.Dr kk o)) b n (AB L d (.bool false)) ds (.inRegion ops rest::k) cs s):
  JL (A4 P false) (X (.lk kk p)) b n L ds (.inRegion ops (i::rest)::k) cs s:=λT av=>(A4 P _).stop (Q1 K O U Y Z hw ac he ag al am ap aq T av)
theorem HB{X:Ph->GP}(ac:Dg P F X){dl:Int}(ag:s.q=false)(O:IT p=true)
  (al:ops[i]? =some ⟨d,.call ⟨.value (.func f),#[x,y],ats⟩,ty,pp,af,g⟩) (Y:b.roundOf=none) (hw:AY L ops ⟨d,.call ⟨.value (.func f),#[x,y],ats⟩,ty,pp,af,g⟩=some true) (U:((b.kind != .early)&&Bu n d)=true)
  (he:BS P f (Extern.Atomic.update (Op.intArith .add) .i32 true)) (am:ev L x=some (.pointer (some F.uA))) (ap:ev L y=some (.int .i32 dl))
  (h:∀m q,Ef p m q->∃m' o,IntKind.i32.wrap (m.num+dl)=m'.num/\(m',q,#[Fam.Co F.uA,Fam.EL F.uA],o)∈F.B9 p m q/\JL (A4 P false) (X (Fam.Dr kk o)) b n (AB L d (.int .i32 m'.num)) ds (.inRegion ops rest::k) cs s):
  JL (A4 P false) (X (.lk kk p)) b n L ds (.inRegion ops (i::rest)::k) cs s:=λT K=>by
 simp only [Bool.and_eq_true] at U
 obtain⟨fn,aq,av,hb,aw,he⟩:=he.h
 refine(A4 P _).stop (J1 ac rfl rfl ag (Lf O) (K8 O) (La O) λw m q Z ay=>?_)
 obtain⟨c1,_,c3,_⟩:=Lo Z
 obtain⟨m',o,az,a0,a1⟩:=h m q ay
 refine⟨_,_,_,o,_,_,a0,?_,G5.put,rfl,a1 _ (K.put U.2 _)⟩
 rw [BW Y,BW Y,stepG_add_atomic (a:=⟨T,ds⟩) al (Ci K hw) (by simpa using U.1) rfl aq av hb aw .i32 he (by rw [EZ];exact K.ev am) (by rw [EZ];exact K.ev ap) c1 c3,az,Tg Z,Ex]
 rfl
theorem TY{X:Ph->GP}(ap:Dg P F X){sv:Bool}(aq:s.q=false)(Z:ops[i]? =some ⟨d,.call ⟨.value (.func f),args,ats⟩,ty,pp,af,g⟩)(U:b.roundOf=none)(hw:AY L ops ⟨d,.call ⟨.value (.func f),args,ats⟩,ty,pp,af,g⟩=some true)(Y:((b.kind != .early)&&Bu n d)=true)
  (he:BS P f Extern.Sync.semacquire) (av:evs L args.toList=some vs) (aw:vs[0]? =some (.pointer (some F.qA)))
  (h:JL (A4 P false) (X (.lk kk (if sv then .EV true else .Gm))) b n (AB L d (.tuple #[])) ds (.inRegion ops rest::k) cs s):
  JL (A4 P false) (X (.lk kk (.CG sv))) b n L ds (.inRegion ops (i::rest)::k) cs s:=λT K=>by
 simp only [Bool.and_eq_true] at Y
 obtain⟨fn,ac,ag,hb,al,he⟩:=he.h
 have am:(args.map (⟨T,ds⟩:Act).eval)[0]? =some (.pointer (some F.qA)):=by rw [KQ K av];simpa using aw
 refine(A4 P _).stop (J1 ap rfl rfl aq (by simp) (λa0 e w m O=>?_) (by simp) λw m q O ay=>?_)
 .obtain⟨_,c2,_,c4⟩:=Lo O;rw [BW U];exact stepG_semacquire_wait (a:=⟨T,ds⟩) Z (Ci K hw) rfl ac ag hb al he (ad:=F.qA) am c2
 .obtain⟨_,c2,_,c4⟩:=Lo O;have a1:q≠0:=ay;refine⟨m,q - 1,_,some (if sv then .EV true else .Gm),_,_,List.mem_singleton.2 rfl,?_,G5.put,rfl,h _ (K.put Y.2 _)⟩
  have az:((q:Int) - 1)=((q - 1:Nat):Int):=by omega
  rw [BW U,BW U,stepG_semacquire (a:=⟨T,ds⟩) Z (Ci K hw) (by simpa using Y.1) rfl ac ag hb al he (ad:=F.qA) am c2 (by omega) c4,Ex,az,Tz O]
theorem TE{X:Ph->GP}(ac:Dg P F X){st:Bool}(ag:s.q=false)(U:ops[i]? =some ⟨d,.call ⟨.value (.func f),args,ats⟩,ty,pp,af,g⟩)(Y:b.roundOf=none)(hw:AY L ops ⟨d,.call ⟨.value (.func f),args,ats⟩,ty,pp,af,g⟩=some true)(K:((b.kind != .early)&&Bu n d)=true)
  (he:BS P f Extern.Sync.semrelease) (al:evs L args.toList=some vs) (am:vs[0]? =some (.pointer (some F.qA)))
  (h:JL (A4 P false) (X (.lk kk .Fz)) b n (AB L d (.tuple #[])) ds (.inRegion ops rest::k) cs s):
  JL (A4 P false) (X (.lk kk (.Fv st))) b n L ds (.inRegion ops (i::rest)::k) cs s:=λT O=>by
 simp only [Bool.and_eq_true] at K
 have ap:=T9 (P:=P) (b:=b) (ds:=ds) (k:=k) (cs:=cs) (rest:=rest) (T:=T) U he
 obtain⟨fn,aq,av,hb,aw,he⟩:=he.h
 have ay:(args.map (⟨T,ds⟩:Act).eval)[0]? =some (.pointer (some F.qA)):=by rw [KQ O al];simpa using am
 refine(A4 P _).stop (J1 ac rfl rfl ag (by simp) (by simp) (λ_ _=>ap) λw m q Z az=>?_);obtain⟨_,c2,_,c4⟩:=Lo Z;have a1:q<=1:=az.1;refine⟨m,q+1,_,some .Fz,_,_,List.mem_singleton.2 rfl,?_,G5.put,rfl,h _ (O.put K.2 _)⟩;have a0:IntKind.u32.wrap ((q:Int)+1)=((q+1:Nat):Int):=by
  have:q=0∨q=1:=by omega
  rcases this with rfl | rfl <;> decide
 rw [BW Y,BW Y,stepG_semrelease (a:=⟨T,ds⟩) U (Ci O hw) (by simpa using K.1) rfl aq av hb aw he (ad:=F.qA) ay c2 c4,Ex,a0,Tz Z]
theorem XQ(K:DU P t=some false)(w:World):(isAgg t).run P w= .ok false w:=by
 unfold DU at K;simp only [isAgg,underlying,bind,Sem.bind,program,Sem.run];cases hu:P.underlying t with
 | none=>rw [hu] at K;cases K
 | some u=>
  rw [hu] at K;cases u <;> simp at K <;> rfl
theorem HE{X:Ph->GP}(am:Dg P F X)(ap:s.q=false)(K:IT p=true)
  (aq:ops[i]? =some ⟨d,.load t x,ty,pp,af,g⟩) (Y:b.roundOf=none) (hw:AY L ops ⟨d,.load t x,ty,pp,af,g⟩=some true) (O:((b.kind != .early)&&Bu n d)=true)
  (av:DU P t=some false) (aw:(P.funcs[b.fn]?).any (·.norace)=true) (ay:ev L x=some (.pointer (some F.uA)))
  (h:∀m q,Ef p m q->∃o,(m,q,#[],o)∈F.B9 p m q/\JL (A4 P false) (X (Fam.Dr kk o)) b n (AB L d (.int .i32 m.num)) ds (.inRegion ops rest::k) cs s):
  JL (A4 P false) (X (.lk kk p)) b n L ds (.inRegion ops (i::rest)::k) cs s:=λT U=>by
 simp only [Bool.and_eq_true] at O
 refine(A4 P _).stop (J1 am rfl rfl ap (Lf K) (K8 K) (La K) λw m q Z az=>?_)
 obtain⟨o,a0,a1⟩:=h m q az
 refine⟨m,q,_,o,_,w,a0,?_,G5.self Z,rfl,a1 _ (U.put O.2 _)⟩
 have ac:=(Lo Z).1
 have ag:execOp (⟨T,ds⟩:Act).eval ⟨d,.load t x,ty,pp,af,g⟩=(do pure (Next.value (← Instr.loadAt t (.pointer (some F.uA))))):=by
  rw [L6];simp only [execOp,U.ev ay]
 have al:=XQ (P:=P) av w;rw [BW Y,BW Y,stepG_value (a:=⟨T,ds⟩) (v:= .int .i32 m.num) (w':=w) aq (Ci U hw) (by simpa using O.1) (by rw [ag];simp [Instr.loadAt,Instr.sureAddr,loadVar,al,ac,Result.andThen]),Ex];have e2:listed P b.fn ⟨T,ds⟩ ⟨d,.load t x,ty,pp,af,g⟩ w= #[]:=by
  unfold listed;rw [ag];have a2:(do pure (Next.value (← Instr.loadAt t (.pointer (some F.uA)))):Sem Next).events P w #[]= #[⟨.cell F.uA,false,false⟩]:=by
   simp [Instr.loadAt,Instr.sureAddr,loadVar,al,ac,Result.evThen]
  rw [a2,seen_def];simp [seenStep,aw]
 rw [e2]
theorem QJ{X:Ph->GP}(ag:Dg P F X)(al:s.q=false)(K:IT p=true)
  (am:ops[i]? =some ⟨d,.call ⟨.value (.func f),args,ats⟩,ty,pp,af,g⟩) (U:b.roundOf=none) (hw:AY L ops ⟨d,.call ⟨.value (.func f),args,ats⟩,ty,pp,af,g⟩=some true) (O:((b.kind != .early)&&Bu n d)=true)
  (he:BS P f Extern.OsHooks.nano) (Y:(P.funcs[f]?).any (·.norace)=true)
  (h:∀(m:M4) (q:Nat) (v:Int),Ef p m q->∃o,(m,q,#[],o)∈F.B9 p m q/\JL (A4 P false) (X (Fam.Dr kk o)) b n (AB L d (.int .i64 v)) ds (.inRegion ops rest::k) cs s):
  JL (A4 P false) (X (.lk kk p)) b n L ds (.inRegion ops (i::rest)::k) cs s:=λT Z=>by
 simp only [Bool.and_eq_true] at O
 obtain⟨fn,ac,ap,hb,aq,he⟩:=he.h
 have av:fn.norace=true:=by rw [ac] at Y;simpa using Y
 refine(A4 P _).stop (J1 ag rfl rfl al (Lf K) (K8 K) (La K) λw m q aw ay=>?_);obtain⟨o,az,a0⟩:=h m q ((w.os.mono+w.tick:Nat):Int) ay;refine⟨m,q,_,o,_,w.later,az,?_,?_,rfl,a0 _ (Z.put O.2 _)⟩
 .rw [BW U,BW U,stepG_nanotime (a:=⟨T,ds⟩) am (Ci Z hw) (by simpa using O.1) rfl ac ap hb aq he av,Ex]
 .rw [TG aw];exact⟨rfl,rfl,⟨w.tick,rfl⟩,rfl⟩
end
variable {P:Program}{J:Judge P}{Q:GP}{n:Nat}{L L':Env}{ds:Ld_}{cs:Lf_}{s s':St}{b:Frame}
section
variable {k:Li_}
variable {x:Operand}
theorem JL.canSpin{it:Int}(av:s.q=false)(Z:ops[i]? =some ⟨d,.call ⟨.value (.func f),args,ats⟩,ty,pp,af,g⟩)(U:b.roundOf=none)(hw:AY L ops ⟨d,.call ⟨.value (.func f),args,ats⟩,ty,pp,af,g⟩=some true)(K:((b.kind != .early)&&Bu n d)=true)
  (he:BS P f Extern.Sync.canSpin) (aw:evs L args.toList=some [.int .i64 it])
  (ay:it<4->JL J Q b n (AB L d (.bool true)) ds (.inRegion ops rest::k) cs s) (ac:JL J Q b n (AB L d (.bool false)) ds (.inRegion ops rest::k) cs s):
  JL J Q b n L ds (.inRegion ops (i::rest)::k) cs s:=λT O=>by
 simp only [Bool.and_eq_true] at K
 obtain⟨fn,ag,al,hb,am,he⟩:=he.h
 have ap:args.map (⟨T,ds⟩:Act).eval= #[.int .i64 it]:=by rw [KQ O aw]
 by_cases az:4<=it
 .refine Judge.Dz rfl (λw=>?_) (ac _ (O.put K.2 _));rw [BW U,BW U];have:=stepG_canSpin_no (rest:=rest) (main:=J.main) (kk:=k) (cs:=cs) (w:=w) (a:=⟨T,ds⟩) (P:=P) (b:=b) Z (Ci O hw) (by simpa using K.1) rfl ag al hb am he ap az;rw [this,Ex]
 .have aq:it<4:=by omega
  refine J.step ⟨rfl,λw Y=>⟨G (fr b (CU T d (.bool w.spins)) ds (.inRegion ops rest::k)) cs,s,w.asked,#[],?_,?_,⟨Y.e,Y.h,Y.d⟩,⟨Nat.le_refl _,λ_ _ _=>rfl,λ_ h=> .inl h,λ_ _ h=>h,λ_ h=> .inl h,rfl,rfl,rfl⟩,by simp⟩,λe=>by subst e;cases av⟩
  .rw [BW U,BW U];have:=stepG_canSpin_ask (rest:=rest) (main:=J.main) (kk:=k) (cs:=cs) (w:=w) (a:=⟨T,ds⟩) (P:=P) (b:=b) Z (Ci O hw) (by simpa using K.1) rfl ag al hb am he ap aq;rw [this,Ex]
  .cases a0:w.spins with
   | true=>exact ay aq _ (O.put K.2 _)
   | false=>exact ac _ (O.put K.2 _)
end
section
variable {P:Program}{F:Fam}
def RE{Hp:Type}(P:Program)(F:Fam)(s:St)(kk:Nat)(ph:Hp->LP)(head:(Ph->GP)->Hp->Prop)(ok:Hp->Prop)(a:Hp)(g:Goroutine):Prop:=
 ∀X Y:Ph->GP,Nv P F X Y->Dg P F X->(∀p g s,Stop P F p g s->X p g s)->(∀K,ok K->head X K)->Y (.lk kk (ph a)) g s
theorem Wg{Hp:Type}{s:St}{kk:Nat}{ph:Hp->LP}{head:(Ph->GP)->Hp->Prop}{ok:Hp->Prop}
  (h:∀Y:Ph->GP,Dg P F Y->(∀p g s,Stop P F p g s->Y p g s)->(∀a g,ok a->RE P F s kk ph head ok a g->Y (.lk kk (ph a)) g s)->∀a,ok a->head Y a):∀a,ok a->head (Stop P F) a:=by
 have key:∀p g s',(s'=s/\∃a,ok a/\p= .lk kk (ph a)/\RE P F s kk ph head ok a g)->Stop P F p g s':=λp g s' U=>by
  refine iN (R:=λp g s'=>s'=s/\∃a,ok a/\p= .lk kk (ph a)/\RE P F s kk ph head ok a g) (λp g s' U=>?_) U;obtain⟨rfl,a,O,rfl,K⟩:=U;exact K _ _ Ju.to Dg.Xa (λ_ _ _ h=> .inl (.of h)) (h _ Dg.Xa (λ_ _ _ h=> .inl (.of h)) λa g O K=> .inr ⟨V,a,O,V,K⟩)
 exact h _ Dg.stop (λ_ _ _ h=>h) λa g O K=>key _ _ _ ⟨V,a,O,V,K⟩
theorem OC{n:Nat}{L:Env}{ds:Ld_}{k:Li_}{cs:Lf_}{s:St}{b:Frame}{Q K:GP}(O:∀g s,Q g s->K g s)(h:JL (A4 P false) Q b n L ds k cs s):JL (A4 P false) K b n L ds k cs s:=λT U=>Way.M O (h T U)
end
def BL(m:M4):Nat:=m.l.toNat+2*m.k.toNat+4*m.s.toNat
def M4.nat(m:M4):Nat:=m.l.toNat+2*m.k.toNat+4*m.s.toNat+8*m.w
theorem O8(m:M4):BL m<8:=by
 have K:=Bool.toNat_le m.l;have O:=Bool.toNat_le m.k;have U:=Bool.toNat_le m.s;unfold BL;omega
theorem M4.nat_eq(m:M4):m.nat=8*m.w+BL m:=by unfold M4.nat BL;omega
theorem M4.Ro(m:M4):m.nat / 8=m.w:=by have:=O8 m;rw [M4.nat_eq];omega
theorem M4.Rq(m:M4):m.nat % 8=BL m:=by have:=O8 m;rw [M4.nat_eq];omega
def Cw(m:M4):Prop:=m.w<200000000
theorem Cw.lt{m:M4}(h:Cw m):m.nat<2147483648:=by have:=O8 m;unfold Cw at h;rw [M4.nat_eq];omega
theorem Dp.Cw{m:M4}(h:Dp m):Cw m:=by unfold Dp at h;unfold Pal.Cw;omega
theorem cn{a b:Nat}(hb:b<8):a&&& b=(a % 8)&&& b:=by
 apply Nat.eq_of_testBit_eq;intro i;rw [Nat.testBit_and,Nat.testBit_and];by_cases h:i<3
 .rw [show(8:Nat)=2 ^ 3 from rfl,Nat.testBit_mod_two_pow];simp [h]
 .have:b.testBit i=false:=Nat.testBit_lt_two_pow (Nat.lt_of_lt_of_le hb (by rw [show(8:Nat)=2 ^ 3 from rfl];exact Nat.pow_le_pow_right (by omega) (by omega)));rw [this];simp
theorem VW{a b:Nat}(hb:b<8):a ||| b=8*(a / 8)+((a % 8) ||| b):=by
 have K:a=(a / 8)<<<3 ||| (a % 8):=by
  rw [← Nat.shiftLeft_add_eq_or_of_lt (by omega),Nat.shiftLeft_eq];omega
 have O:(a % 8) ||| b<2 ^ 3:=Nat.or_lt_two_pow (by omega) (by omega)
 calc a ||| b=((a / 8)<<<3 ||| (a % 8)) ||| b:=by rw [← K]
  _=(a / 8)<<<3 ||| ((a % 8) ||| b):=Nat.or_assoc _ _ _
  _=(a / 8)<<<3+((a % 8) ||| b):=(Nat.shiftLeft_add_eq_or_of_lt O _).symm
  _=8*(a / 8)+((a % 8) ||| b):=by rw [Nat.shiftLeft_eq];omega
theorem FP{a:Nat}(h:a<2147483648):IntKind.i32.wrap (a:Int)=a:=by
 simp only [IntKind.wrap,IntKind.bits,IntKind.signed];simp;omega
theorem NR{a:Nat}(h:a<2147483648):(BitVec.ofInt IntKind.i32.bits (a:Int)).toNat=a:=by
 simp [IntKind.bits,BitVec.toNat_ofInt];omega
theorem M4.Kz(m:M4):m.num=(m.nat:Int):=rfl
variable {ρ:Operand->Value}{e:TypeId}
section
variable {x:Operand}{p:String}{m:M4}
abbrev C8(n:Nat):Value:= .int .i32 (n:Int)
theorem EN{c:Nat}(hm:Cw m)(O:ρ x= .int .i32 m.num)(U:ρ y= .int .i32 (c:Int))(Y:c<8):Yl P ⟨d,.binOp .and t x y u,ty,p,af,g⟩ ρ s (C8 (BL m&&& c)):=by
 have h:=Yl.and (P:=P) (s:=s) (d:=d) (t:=t) (u:=u) (ty:=ty) (p:=p) (af:=af) (g:=g) O U;have K:=hm.lt;rw [M4.Kz,BitVec.toNat_and,NR K,NR (by omega),FP (Nat.lt_of_le_of_lt Nat.and_le_left K),cn Y,M4.Rq] at h;exact h
theorem dz{c:Nat}{m m':M4}(hm:Cw m)(O:c<8)(U:BL m ||| c=BL m')(K:m'.w=m.w):IntKind.i32.wrap ((BitVec.ofInt IntKind.i32.bits m.num ||| BitVec.ofInt IntKind.i32.bits (c:Int)).toNat:Int)=m'.num:=by
 have Y:=hm.lt;have Z:m.nat ||| c=m'.nat:=by rw [VW O,M4.Ro,M4.Rq,U,M4.nat_eq m',K]
 have ac:m'.nat<2147483648:=by
  have:=O8 m';unfold Cw at hm;rw [M4.nat_eq,K];omega
 rw [M4.Kz,BitVec.toNat_or,NR Y,NR (by omega),Z,FP ac,M4.Kz]
theorem Pu{c:Nat}{m':M4}(hm:Cw m)(K:c<8)(O:BL m ||| c=BL m')(U:m'.w=m.w)(Y:ρ x= .int .i32 m.num)(Z:ρ y= .int .i32 (c:Int)):Yl P ⟨d,.binOp .or t x y u,ty,p,af,g⟩ ρ s (.int .i32 m'.num):=by
 have h:=Yl.or (P:=P) (s:=s) (d:=d) (t:=t) (u:=u) (ty:=ty) (p:=p) (af:=af) (g:=g) Y Z;rw [dz hm K O U] at h;exact h
theorem jF(m:M4):BL m ||| 1=BL {m with l:=true}:=by obtain⟨l,k,s,w⟩:=m;cases l <;> cases k <;> cases s <;> simp [BL]
theorem Sz(m:M4):BL m ||| 2=BL {m with k:=true}:=by obtain⟨l,k,s,w⟩:=m;cases l <;> cases k <;> cases s <;> simp [BL]
theorem jN(m:M4):BL m ||| 4=BL {m with s:=true}:=by obtain⟨l,k,s,w⟩:=m;cases l <;> cases k <;> cases s <;> simp [BL]
theorem Yl.andNot{kd:IntKind}{a b:Int}(K:ρ x= .int kd a)(O:ρ y= .int kd b):Yl P ⟨d,.binOp .andNot t x y u,ty,p,af,g⟩ ρ s (.int kd (kd.wrap (BitVec.ofInt kd.bits a&&& ~~~ BitVec.ofInt kd.bits b).toNat)):=by
 simp [Yl,execOp,lp,pure,bind,Sem.bind,K,O,eqGuard,Go.binOp,Op.intBits]
theorem jD(i:Nat):(2:Nat).testBit i=decide (i=1):=by
 by_cases h:i<2
 .exact(by decide:∀j:Fin 2,(2:Nat).testBit j.1=decide (j.1=1)) ⟨i,h⟩
 .rw [Nat.testBit_lt_two_pow (Nat.lt_of_lt_of_le (show 2<2 ^ 2 by decide) (Nat.pow_le_pow_right (by omega) (by omega)))];simp;omega
theorem jG(i:Nat):(4294967293:Nat).testBit i=(decide (i<32)&& !decide (i=1)):=by
 by_cases h:i<32
 .exact(by decide:∀j:Fin 32,(4294967293:Nat).testBit j.1=(decide (j.1<32)&& !decide (j.1=1))) ⟨i,h⟩
 .rw [Nat.testBit_lt_two_pow (Nat.lt_of_lt_of_le (show 4294967293<2 ^ 32 by decide) (Nat.pow_le_pow_right (by omega) (by omega)))];simp [h]
theorem Rv{m:M4}(hm:Cw m)(K:m.k=true):m.nat&&& 4294967293=({m with k:=false}:M4).nat:=by
 have U:m.nat=({m with k:=false}:M4).nat ||| 2:=by
  rw [VW (by omega),M4.Ro,M4.Rq,M4.nat_eq m,Sz];obtain⟨l,k,s,w⟩:=m;simp only at K;subst K;rfl
 have Y:({m with k:=false}:M4).nat<2147483648:=(show Cw {m with k:=false} from hm).lt;have Z:({m with k:=false}:M4).nat.testBit 1=false:=by
  rw [Nat.testBit_succ,Nat.testBit_zero];have:({m with k:=false}:M4).nat / 2 % 2=0:=by
   have:=Bool.toNat_le m.l;simp only [M4.nat,Bool.toNat_false];omega
  simp [this]
 rw [U];apply Nat.eq_of_testBit_eq;intro i;rw [Nat.testBit_and,Nat.testBit_or,jD,jG];by_cases h:i=1
 .subst h;rw [Z];rfl
 .by_cases O:i<32
  .simp [h,O]
  .rw [Nat.testBit_lt_two_pow (Nat.lt_of_lt_of_le Y (by rw [show(2147483648:Nat)=2 ^ 31 from rfl];exact Nat.pow_le_pow_right (by omega) (by omega)))];simp [O]
theorem Yl.Rv(hm:Cw m)(K:m.k=true)(O:ρ x= .int .i32 m.num)(U:ρ y= .int .i32 2):Yl P ⟨d,.binOp .andNot t x y u,ty,p,af,g⟩ ρ s (.int .i32 ({m with k:=false}:M4).num):=by
 have h:=Yl.andNot (P:=P) (s:=s) (d:=d) (t:=t) (u:=u) (ty:=ty) (p:=p) (af:=af) (g:=g) O U;have Y:({m with k:=false}:M4).nat<2147483648:=(show Cw {m with k:=false} from hm).lt;rw [M4.Kz,BitVec.toNat_and,NR hm.lt,show(~~~ BitVec.ofInt IntKind.i32.bits 2).toNat=4294967293 from rfl,Pal.Rv hm K,FP Y] at h;exact h
theorem Jj(hm:Cw m)(K:ρ x= .int .i32 m.num)(O:ρ y= .int .u64 3):Yl P ⟨d,.binOp .shr t x y u,ty,p,af,g⟩ ρ s (C8 m.w):=by
 have h:=Yl.shr (P:=P) (s:=s) (d:=d) (t:=t) (u:=u) (ty:=ty) (p:=p) (af:=af) (g:=g) K O (by decide);have e:m.num.fdiv (2 ^ (min (3:Int).toNat IntKind.i32.bits))=(m.w:Int):=by
  rw [show(2:Int) ^ (min (3:Int).toNat IntKind.i32.bits)=8 from rfl,M4.Kz,Int.fdiv_eq_ediv_of_nonneg _ (by decide)];have:=M4.Ro m;omega
 rw [e] at h;exact h
theorem bR(hm:Dp m)(K:ρ x= .int .i32 m.num)(O:ρ y= .int .i32 8):Yl P ⟨d,.binOp .add t x y u,ty,p,af,g⟩ ρ s (.int .i32 ({m with w:=m.w+1}:M4).num):=by
 have h:=Yl.add (P:=P) (s:=s) (d:=d) (t:=t) (u:=u) (ty:=ty) (p:=p) (af:=af) (g:=g) K O;have e:m.num+8=((({m with w:=m.w+1}:M4).nat:Nat):Int):=by simp only [M4.Kz,M4.nat];omega
 rw [e,FP (show Cw {m with w:=m.w+1} by unfold Dp at hm;unfold Cw;simp only;omega).lt] at h;exact h
theorem df(hm:Cw m)(hw:m.w≠0)(K:ρ x= .int .i32 m.num)(O:ρ y= .int .i32 8):Yl P ⟨d,.binOp .sub t x y u,ty,p,af,g⟩ ρ s (.int .i32 ({m with w:=m.w - 1}:M4).num):=by
 have h:=Yl.sub (P:=P) (s:=s) (d:=d) (t:=t) (u:=u) (ty:=ty) (p:=p) (af:=af) (g:=g) K O;have e:m.num - 8=((({m with w:=m.w - 1}:M4).nat:Nat):Int):=by simp only [M4.Kz,M4.nat];omega
 rw [e,FP (show Cw {m with w:=m.w - 1} by unfold Cw at*;simp only;omega).lt] at h;exact h
theorem da(hm:Cw m)(K:m.l=false)(O:ρ x= .int .i32 m.num)(U:ρ y= .int .i32 1):Yl P ⟨d,.binOp .add t x y u,ty,p,af,g⟩ ρ s (.int .i32 ({m with l:=true}:M4).num):=by
 have h:=Yl.add (P:=P) (s:=s) (d:=d) (t:=t) (u:=u) (ty:=ty) (p:=p) (af:=af) (g:=g) O U;have e:m.num+1=((({m with l:=true}:M4).nat:Nat):Int):=by simp only [M4.Kz,M4.nat,K,Bool.toNat_true,Bool.toNat_false];omega
 rw [e,FP (show Cw {m with l:=true} from hm).lt] at h;exact h
end
theorem jx(m:M4):((BL m&&& 5:Nat):Int)=1↔m.l=true/\m.s=false:=by obtain⟨l,k,s,w⟩:=m;cases l <;> cases k <;> cases s <;> simp [BL]
theorem Nt(m:M4):((BL m&&& 5:Nat):Int)=0↔m.l=false/\m.s=false:=by obtain⟨l,k,s,w⟩:=m;cases l <;> cases k <;> cases s <;> simp [BL]
theorem Iq(m:M4):((BL m&&& 4:Nat):Int)=0↔m.s=false:=by obtain⟨l,k,s,w⟩:=m;cases l <;> cases k <;> cases s <;> simp [BL]
theorem Se(m:M4):((BL m&&& 2:Nat):Int)=0↔m.k=false:=by obtain⟨l,k,s,w⟩:=m;cases l <;> cases k <;> cases s <;> simp [BL]
theorem R7(m:M4):((BL m&&& 1:Nat):Int)=0↔m.l=false:=by obtain⟨l,k,s,w⟩:=m;cases l <;> cases k <;> cases s <;> simp [BL]
theorem PL(m:M4):((BL m&&& 3:Nat):Int)=0↔m.l=false/\m.k=false:=by obtain⟨l,k,s,w⟩:=m;cases l <;> cases k <;> cases s <;> simp [BL]
theorem WA(m:M4):((BL m&&& 7:Nat):Int)=0↔m.l=false/\m.k=false/\m.s=false:=by obtain⟨l,k,s,w⟩:=m;cases l <;> cases k <;> cases s <;> simp [BL]
end Pal
namespace Go.Proofs
abbrev Tryz.link:Go.Conc.Lib.WgLink:={add:=52,done:=54,wait:=59,relMerge:=71,disable:=72,enable:=73,inBubble:=74,associate:=75,fatal:=76,uOr:=77,uAdd:=78,raceRead:=79,uLoad:=80,uStore:=81,disassociate:=82,semrelease:=83,acquire:=88,isAssociated:=89,uCas:=90,raceWrite:=91,semacquire:=92,orU64:=110,addU64:=111,loadU64:=112,storeU64:=113,casU64:=121,tWgP:=147,tUP:=135,tAssoc:=149,tWg:=114,tAU:=112,tU64:=41,tUint:=130,tU32:=76,tPU32:=153,tPAU:=196,tPU64:=198,tNoCopy:=104,tANoCopy:=109,tAlign64:=110}
theorem Tryz.Ls:Go.Conc.Lib.WgLib Tryz.prog Tryz.link:=
 ⟨Tryz.func52,Tryz.func54,Tryz.func59,Tryz.func71,Tryz.func72,Tryz.func73,Tryz.func74,Tryz.func75,Tryz.func76,Tryz.func77,Tryz.func78,Tryz.func79,Tryz.func80,Tryz.func81,Tryz.func82,Tryz.func83,Tryz.func88,Tryz.func89,Tryz.func90,Tryz.func91,Tryz.func92,Tryz.func110,Tryz.func111,Tryz.func112,Tryz.func113,Tryz.func121,Tryz.underlying147,Tryz.runUnderlying147,Tryz.sizeOf147,Tryz.isAgg147,Tryz.zeroValue147,Tryz.underlying135,Tryz.runUnderlying135,Tryz.sizeOf135,Tryz.isAgg135,Tryz.zeroValue135,Tryz.underlying149,Tryz.runUnderlying149,Tryz.sizeOf149,Tryz.isAgg149,Tryz.zeroValue149,Tryz.underlying114,Tryz.runUnderlying114,Tryz.sizeOf114,Tryz.isAgg114,Tryz.zeroValue114,Tryz.underlying112,Tryz.runUnderlying112,Tryz.sizeOf112,Tryz.isAgg112,Tryz.zeroValue112,Tryz.underlying41,Tryz.runUnderlying41,Tryz.sizeOf41,Tryz.isAgg41,Tryz.zeroValue41,Tryz.underlying130,Tryz.runUnderlying130,Tryz.sizeOf130,Tryz.isAgg130,Tryz.zeroValue130,Tryz.underlying76,Tryz.runUnderlying76,Tryz.sizeOf76,Tryz.isAgg76,Tryz.zeroValue76,Tryz.underlying153,Tryz.runUnderlying153,Tryz.sizeOf153,Tryz.isAgg153,Tryz.zeroValue153,Tryz.underlying196,Tryz.runUnderlying196,Tryz.sizeOf196,Tryz.isAgg196,Tryz.zeroValue196,Tryz.underlying198,Tryz.runUnderlying198,Tryz.sizeOf198,Tryz.isAgg198,Tryz.zeroValue198,Tryz.underlying0,Tryz.runUnderlying0,Tryz.sizeOf0,Tryz.isAgg0,Tryz.zeroValue0,Tryz.underlying3,Tryz.runUnderlying3,Tryz.sizeOf3,Tryz.isAgg3,Tryz.zeroValue3,Tryz.underlying4,Tryz.runUnderlying4,Tryz.sizeOf4,Tryz.isAgg4,Tryz.zeroValue4,Tryz.underlying9,Tryz.runUnderlying9,Tryz.sizeOf9,Tryz.isAgg9,Tryz.zeroValue9,Tryz.underlying20,Tryz.runUnderlying20,Tryz.sizeOf20,Tryz.isAgg20,Tryz.zeroValue20,Tryz.underlying21,Tryz.runUnderlying21,Tryz.sizeOf21,Tryz.isAgg21,Tryz.zeroValue21,(by decide+kernel),(by decide+kernel)⟩
end Go.Proofs
namespace Pal
open Go Go.Conc Go.Conc.Lib Go.Proofs Go.ConcR.Gen
theorem WB:BS Tryz.prog 72 (λ_=>do mark .disable;pure Extern.Race.none_):=Og Tryz.Ls
theorem P5:BS Tryz.prog 73 (λ_=>do mark .enable;pure Extern.Race.none_):=JU Tryz.Ls
theorem Wv:BS Tryz.prog 88 (Extern.Race.marked .acquire):=Qr Tryz.Ls
theorem jw:BS Tryz.prog 71 (Extern.Race.marked .releaseMerge):=SW Tryz.Ls
theorem PQ:BS Tryz.prog 117 (Extern.Atomic.casT (.int .i32)):=⟨⟨_,Tryz.func117,by decide+kernel,V,by kernel_rfl,by kernel_rfl⟩⟩
theorem HI:BS Tryz.prog 119 (Extern.Atomic.update (Op.intArith .add) .i32 true):=⟨⟨_,Tryz.func119,by decide+kernel,V,by kernel_rfl,by kernel_rfl⟩⟩
theorem iq:BS Tryz.prog 131 Extern.Sync.canSpin:=⟨⟨_,Tryz.func131,by decide+kernel,V,by kernel_rfl,by kernel_rfl⟩⟩
theorem M0:BS Tryz.prog 132 (λ_=>pure Extern.Sync.none_):=⟨⟨_,Tryz.func132,by decide+kernel,V,by kernel_rfl,by kernel_rfl⟩⟩
theorem RY:BS Tryz.prog 134 Extern.OsHooks.nano:=⟨⟨_,Tryz.func134,by decide+kernel,V,by kernel_rfl,by kernel_rfl⟩⟩
theorem VS:BS Tryz.prog 135 Extern.Sync.semacquire:=⟨⟨_,Tryz.func135,by decide+kernel,V,by kernel_rfl,by kernel_rfl⟩⟩
theorem Vx:BS Tryz.prog 137 Extern.Sync.semrelease:=⟨⟨_,Tryz.func137,by decide+kernel,V,by kernel_rfl,by kernel_rfl⟩⟩
def mN(sv aw:Bool)(m:M4):M4:=⟨m.l || !m.s,!aw&&m.k,m.s || (sv&&m.l),if m.l=true∨m.s=true then m.w+1 else m.w⟩
theorem JL.uA{J:Judge Tryz.prog}{F:Fam}{Q:GP}{b:Frame}{n:Nat}{L:Env}{ds:Ld_}{k:Li_}{cs:Lf_}{s:St}{ops:Ao_}{i:Nat}{rest:List Nat}{d:Option Tmp}{x:Operand}{ty:TypeId}{p:String}{af:Ae_}{g:On_}(K:FG b n L ops i=some ⟨d,.fieldAddr 106 x 0,ty,p,af,g⟩)(O:ev L x=some (.pointer (some F.uA)))(h:JL J Q b n (AB L d (.pointer (some F.uA))) ds (.inRegion ops rest::k) cs s):JL J Q b n L ds (.inRegion ops (i::rest)::k) cs s:=An K (λρ h=>Ft (a:=F.uA) 0 0 Tryz.underlying106 (AX Tryz.type21) V V V (h _ _ O)) h
theorem gf{P:Program}{J:Judge P}{Q:GP}{n:Nat}{L:Env}{ds:Ld_}{c:Code}{k:Li_}{cs:Lf_}{s:St}{b:Frame}(h:∀K,K=k->JL J Q b n L ds (.code c::K) cs s):JL J Q b n L ds (.code c::k) cs s:=h _ V
theorem WT{P:Program}{J:Judge P}{Q:GP}{n:Nat}{L:Env}{ds:Ld_}{k:Li_}{cs:Lf_}{s:St}{b:Frame}(h:∀K,K=k->JL J Q b n L ds K cs s):JL J Q b n L ds k cs s:=h _ V
theorem IV:(Tryz.prog.funcs[118]?).any (·.norace)=true:=by rw [Tryz.func118];rfl
theorem iJ:(Tryz.prog.funcs[87]?).any (·.norace)=true:=by rw [Tryz.func87];rfl
theorem iM:(Tryz.prog.funcs[120]?).any (·.norace)=true:=by rw [Tryz.func120];rfl
theorem R2:(Tryz.prog.funcs[134]?).any (·.norace)=true:=by rw [Tryz.func134];rfl
theorem Rd:(Tryz.prog.info? 106).map (λi=>decide (i.size=0))=some false:=(congrArg (Option.map (λi=>decide (i.size=0))) Tryz.type106).trans V
abbrev Hp:=Bool×Bool×Nat×M4×Int
def WK(a:Hp):Prop:=(a.2.1=true->a.2.2.2.1.k=true)/\a.2.2.1<=4/\Dp a.2.2.2.1
def Sc(a:Hp):LP:= .Cu a.1 a.2.1 a.2.2.1 a.2.2.2.1
theorem cM{F:Fam}{sv aw:Bool}{it:Nat}{old:M4}{q:Nat}(h:old.l=false/\old.s=false):(mN sv aw old,q,#[Fam.Co F.uA,Fam.EL F.uA],some LP.len)∈F.B9 (.Cu sv aw it old) old q:=by
 obtain⟨l,k,s,w⟩:=old;obtain⟨K,O⟩:=h;simp only at K O;subst K O;simp [Fam.B9,Fam.FU,mN]
theorem UB{F:Fam}{sv aw:Bool}{it:Nat}{old:M4}{q:Nat}(h:¬(old.l=false/\old.s=false))(x:LP)(K:x= .IZ sv∨x= .CG sv):(mN sv aw old,q,#[Fam.Co F.uA,Fam.EL F.uA],some x)∈F.B9 (.Cu sv aw it old) old q:=by
 obtain⟨l,k,s,w⟩:=old;show _∈F.FU _ _ _ _ _ _;unfold Fam.FU;rw [List.mem_append];right;rw [if_pos rfl,if_neg h];cases l <;> cases s <;> simp [mN] at h ⊢ <;> rcases K with rfl | rfl <;> simp
theorem aC{F:Fam}{sv aw:Bool}{it:Nat}{old m:M4}{q:Nat}(h:m≠old):(m,q,#[Fam.Co F.uA],some (LP.EC sv aw it))∈F.B9 (.Cu sv aw it old) m q:=by
 show _∈F.FU _ _ _ _ _ _;unfold Fam.FU;rw [List.mem_append];right;rw [if_neg h];exact List.mem_singleton.2 V
theorem bF{F:Fam}{sv:Bool}{it:Nat}{old:M4}{q:Nat}(K:old.l=true/\old.s=false)(O:it<4)(U:old.k=false)(Y:old.w≠0):(({old with k:=true}:M4),q,#[Fam.Co F.uA,Fam.EL F.uA],some (LP.EC sv true (it+1)))∈F.B9 (.Cu sv false it old) old q:=by
 show _∈F.FU _ _ _ _ _ _;unfold Fam.FU;rw [List.mem_append];left;rw [if_pos ⟨K.1,K.2,O⟩,if_pos ⟨rfl,U,Y⟩,if_pos rfl];exact List.mem_singleton.2 V
theorem cZ{F:Fam}{sv:Bool}{it:Nat}{old m:M4}{q:Nat}(K:old.l=true/\old.s=false)(O:it<4)(U:old.k=false)(Y:old.w≠0)(hm:m≠old):(m,q,#[Fam.Co F.uA],some (LP.EC sv false (it+1)))∈F.B9 (.Cu sv false it old) m q:=by
 show _∈F.FU _ _ _ _ _ _;unfold Fam.FU;rw [List.mem_append];left;rw [if_pos ⟨K.1,K.2,O⟩,if_pos ⟨rfl,U,Y⟩,if_neg hm];exact List.mem_singleton.2 V
theorem Rz{F:Fam}{sv aw:Bool}{it:Nat}{old m:M4}{q:Nat}(K:old.l=true/\old.s=false)(O:it<4)(U:¬(aw=false/\old.k=false/\old.w≠0)):(m,q,#[],some (LP.Cu sv aw (it+1) m))∈F.B9 (.Cu sv aw it old) m q:=by
 show _∈F.FU _ _ _ _ _ _;unfold Fam.FU;rw [List.mem_append];left;rw [if_pos ⟨K.1,K.2,O⟩,if_neg U];exact List.mem_singleton.2 V
theorem Hm(m:M4)(h:m.s=true):m={m with l:=m.l || !m.s}:=by
 obtain⟨l,k,s,w⟩:=m;simp only at h;subst h;simp
set_option maxHeartbeats 4000000 in
theorem YV{F:Fam}{n:Nat}{L:Env}{ds:Ld_}{k:Li_}{cs:Lf_}{s:St}{b:Frame}{ops:Ao_}{i:Nat}{rest:List Nat}{d:Option Tmp}{x:Operand}{ats:Array TypeId}{ty:TypeId}{pp:String}{af:Ae_}{g:On_}{kk:Nat}(ac:s.q=false)(c7:ops[i]? =some ⟨d,.call ⟨.value (.func 118),#[x],ats⟩,ty,pp,af,g⟩)(hw:AY L ops ⟨d,.call ⟨.value (.func 118),#[x],ats⟩,ty,pp,af,g⟩=some true)(c8:((b.kind != .early)&&Bu n d)=true)(c9:ev L x=some (.pointer (some F.uA)))
  (h:JL (A4 Tryz.prog false) (Stop Tryz.prog F (.lk kk .FY)) b n (AB L d (.tuple #[])) ds (.inRegion ops rest::k) cs s):
  JL (A4 Tryz.prog false) (Stop Tryz.prog F (.lk kk (.EC false false 0))) b n L ds (.inRegion ops (i::rest)::k) cs s:=by
 refine HD (vs:= [.pointer (some F.uA)]) c7 hw c8 Tryz.func118 (by decide+kernel) V (by simp [evs,c9]) (Nat.le_of_ble_eq_true V) λb6 back=>C 20 V (JL.uA V V ?_);refine HE (kk:=kk) (p:= .EC false false 0) Dg.stop ac V V V V V Hx IV V λca em b1=>⟨some (.Cu false false 0 ca),List.mem_singleton.2 V,?_⟩;refine C 3 V (gf λdd ea=>?_);have a1:∀X:Ph->GP,Dg Tryz.prog F X->(∀p g s,Stop Tryz.prog F p g s->X p g s)->∀L',look L' 0=some (.pointer (some F.uA))->JL (A4 Tryz.prog false) (X (.lk kk .len)) (base 118) Tryz.f118.ntmps L' [] dd (b6::cs) s:=by
  intro X O ay L' eb;rw [ea];refine EH (L':= [(0,.pointer (some F.uA))]) ⟨eb,trivial⟩ (C 3 V ?_);refine Mg (kk:=kk) (p:= .len) O ac V (λ_ _=>V) V V V V (by simp) P5 (C 3 V ?_);refine QG (kk:=kk) (p:= .LR) O ac V (λ_ _=>V) V V V V Tryz.underlying208 Tryz.underlying135 Rd V (Rf (kk:=kk) (p:= .KO) (ad:=F.uA) O ac V (λ_ _=>V) V V V V (by simp) Wv V V ?_);refine JL.done (JL.fin V V (BK.none Tryz.func118 V) (back _ _ _ _ ?_));exact OC (λg s=>ay _ g s) h
 refine JL.block (II ?_);refine EU [(0,.pointer (some F.uA)),(2,iV 0),(3,.bool false),(4,.bool false),(5,iV ((0:Nat):Int)),(6,.int .i32 (ca:M4).num)] V (WT λcc a6=>?_);refine Wg (P:=Tryz.prog) (F:=F) (s:=s) (kk:=kk) (ph:=Sc) (ok:=WK) (head:=λ(X:Ph->GP) (a:Hp)=>JL (A4 Tryz.prog false) (X (.lk kk (Sc a))) (base 118) Tryz.f118.ntmps ([(0,.pointer (some F.uA)),(2,iV a.2.2.2.2),(3,.bool a.1),(4,.bool a.2.1),(5,iV (a.2.2.1:Int)),(6,.int .i32 (a.2.2.2.1:M4).num)]) [] cc (b6::cs) s) ?_ (false,false,0,ca,0) ⟨(λe=>by cases e),Nat.zero_le _,b1.2.2.1⟩;intro Y b2 eo hC;have key:∀N (a:Hp),4 - a.2.2.1<N->WK a->(λ(X:Ph->GP) (a:Hp)=>JL (A4 Tryz.prog false) (X (.lk kk (Sc a))) (base 118) Tryz.f118.ntmps ([(0,.pointer (some F.uA)),(2,iV a.2.2.2.2),(3,.bool a.1),(4,.bool a.2.1),(5,iV (a.2.2.1:Int)),(6,.int .i32 (a.2.2.2.1:M4).num)]) [] cc (b6::cs) s) Y a:=by
  intro N
  induction N with
  | zero=>intro a co;omega
  | succ N b3=>
   rintro⟨sv,aw,it,old,wt⟩ ec b1;simp only at ec;have ed:aw=true->old.k=true:=b1.1;have ce:Dp old:=b1.2.2;have a2:Cw old:=ce.Cw;show JL (A4 Tryz.prog false) (Y (.lk kk (.Cu sv aw it old))) (base 118) Tryz.f118.ntmps [(0,.pointer (some F.uA)),(2,iV wt),(3,.bool sv),(4,.bool aw),(5,iV (it:Int)),(6,.int .i32 (old:M4).num)] [] cc (b6::cs) s;rw [a6];refine C 2 V (Bx (λL s'=>s=s'/\L= [(0,.pointer (some F.uA)),(2,iV wt),(3,.bool sv),(4,.bool aw),(5,iV (it:Int)),(6,.int .i32 (old:M4).num)]) ?_ ?_)
   rotate_left
   .intro az;refine C 3 V (An (v:=C8 (BL old&&& 5)) V (λρ h=>EN (c:=5) a2 (h _ _ V) (h _ _ V) (by decide)) ?_);refine C 2 V (MX (q:=((BL old&&& 5:Nat):Int)=1) (i:=17) V (λcp=>?_) (λcp=>?_))
    .refine An (v:=iV (it:Int)) V (λρ h=>Yl.move (h _ _ V)) (JL.canSpin (it:=(it:Int)) ac V V V V iq V (λGN=>?_) ?_)
     .refine An (v:= .bool true) V (λρ h=>MW (h _ _ V) (h _ _ V)) ?_;have a3:=(jx old).1 cp;refine C 5 V ?_;have b4:it<4:=by omega
      refine C 1 V (An (v:= .bool (!aw)) V (λρ h=>Yl.not (h _ _ V)) ?_);refine C 1 V (Lc (c:= !aw) (i:=23) V (λc1=>?_) (λc1=>?_))
      .refine An (v:= .int .i32 (old:M4).num) V (λρ h=>Yl.move (h _ _ V)) (An (v:=C8 (BL old&&& 2)) V (λρ h=>EN (c:=2) a2 (h _ _ V) (h _ _ V) (by decide)) ?_);refine C 3 V (MX (q:=((BL old&&& 2:Nat):Int)=0) (i:=28) V (λc2=>?_) (λc2=>?_))
       .refine An (v:= .int .i32 (old:M4).num) V (λρ h=>Yl.move (h _ _ V)) (An (v:=C8 old.w) V (λρ h=>Jj a2 (h _ _ V) (h _ _ V)) ?_);refine C 3 V (MX (q:=(old.w:Int)≠0) (i:=33) V (λc3=>?_) (λc3=>?_))
        .have ee:aw=false:=by simpa using c1
         subst ee;have ct:=(Se old).1 c2;have cw:old.w≠0:=by omega
         refine C 2 V (JL.uA V V ?_);refine C 2 V (An (v:= .int .i32 ({old with k:=true}:M4).num) V (λρ h=>Pu (c:=2) a2 (by decide) (Sz old) V (h _ _ V) (h _ _ V)) ?_);refine Uk (kk:=kk) (p:= .Cu sv false it old) (old:=old) (nw:={old with k:=true}) b2 ac V V V V V PQ V V V (λq a4=>⟨some (.EC sv true (it+1)),bF a3 b4 ct cw,?_⟩) (λm q hm a4=>⟨some (.EC sv false (it+1)),cZ a3 b4 ct cw hm,?_⟩)
         .refine An (v:= .bool true) V (λρ h=>MW (h _ _ V) (h _ _ V)) (C 7 V ?_);refine JL.ext (v:= .tuple #[]) V V V M0 V V (C 4 V ?_);refine An (v:=iV ((it+1:Nat):Int)) V (λρ h=>Dy (h _ _ V) (h _ _ V) (by unfold Av;rw [if_pos (by omega)];congr 1)) (C 6 V ?_);refine JL.uA V V (HE (kk:=kk) (p:= .EC sv true (it+1)) b2 ac V V V V V Hx IV V λa7 cy bv=>⟨some (.Cu sv true (it+1) a7),List.mem_singleton.2 V,?_⟩);refine C 3 V (JL.again ?_);rw [← a6];exact EU [(0,.pointer (some F.uA)),(2,iV wt),(3,.bool sv),(4,.bool true),(5,iV ((it+1:Nat):Int)),(6,.int .i32 (a7:M4).num)] V (b3 (sv,true,it+1,a7,wt) (by show 4 - (it+1)<N;omega) ⟨bv.2.2.2,(by show it+1<=4;omega),bv.2.2.1⟩)
         .refine An (v:= .bool false) V (λρ h=>MW (h _ _ V) (h _ _ V)) (C 5 V ?_);refine JL.ext (v:= .tuple #[]) V V V M0 V V (C 4 V ?_);refine An (v:=iV ((it+1:Nat):Int)) V (λρ h=>Dy (h _ _ V) (h _ _ V) (by unfold Av;rw [if_pos (by omega)];congr 1)) (C 6 V ?_);refine JL.uA V V (HE (kk:=kk) (p:= .EC sv false (it+1)) b2 ac V V V V V Hx IV V λa7 cy bv=>⟨some (.Cu sv false (it+1) a7),List.mem_singleton.2 V,?_⟩);refine C 3 V (JL.again ?_);rw [← a6];exact EU [(0,.pointer (some F.uA)),(2,iV wt),(3,.bool sv),(4,.bool false),(5,iV ((it+1:Nat):Int)),(6,.int .i32 (a7:M4).num)] V (b3 (sv,false,it+1,a7,wt) (by show 4 - (it+1)<N;omega) ⟨bv.2.2.2,(by show it+1<=4;omega),bv.2.2.1⟩)
        .refine IX V V V (C 12 V ?_);refine JL.ext (v:= .tuple #[]) V V V M0 V V (C 4 V ?_);refine An (v:=iV ((it+1:Nat):Int)) V (λρ h=>Dy (h _ _ V) (h _ _ V) (by unfold Av;rw [if_pos (by omega)];congr 1)) (C 6 V ?_);refine JL.uA V V (HE (kk:=kk) (p:= .Cu sv aw it old) b2 ac V V V V V Hx IV V λm q a4=>⟨some (.Cu sv aw (it+1) m),Rz a3 b4 (λe=>c3 (by omega)),?_⟩);refine C 3 V (JL.again ?_);rw [← a6];exact EU [(0,.pointer (some F.uA)),(2,iV wt),(3,.bool sv),(4,.bool aw),(5,iV ((it+1:Nat):Int)),(6,.int .i32 (m:M4).num)] V (b3 (sv,aw,it+1,m,wt) (by show 4 - (it+1)<N;omega) ⟨a4.2.2.2.2.2,(by show it+1<=4;omega),a4.2.2.2.2.1⟩)
       .refine IX V V V (C 17 V ?_);refine JL.ext (v:= .tuple #[]) V V V M0 V V (C 4 V ?_);refine An (v:=iV ((it+1:Nat):Int)) V (λρ h=>Dy (h _ _ V) (h _ _ V) (by unfold Av;rw [if_pos (by omega)];congr 1)) (C 6 V ?_);refine JL.uA V V (HE (kk:=kk) (p:= .Cu sv aw it old) b2 ac V V V V V Hx IV V λm q a4=>⟨some (.Cu sv aw (it+1) m),Rz a3 b4 (λe=>c2 ((Se old).2 e.2.1)),?_⟩);refine C 3 V (JL.again ?_);rw [← a6];exact EU [(0,.pointer (some F.uA)),(2,iV wt),(3,.bool sv),(4,.bool aw),(5,iV ((it+1:Nat):Int)),(6,.int .i32 (m:M4).num)] V (b3 (sv,aw,it+1,m,wt) (by show 4 - (it+1)<N;omega) ⟨a4.2.2.2.2.2,(by show it+1<=4;omega),a4.2.2.2.2.1⟩)
      .refine IX V V V (C 22 V ?_);refine JL.ext (v:= .tuple #[]) V V V M0 V V (C 4 V ?_);refine An (v:=iV ((it+1:Nat):Int)) V (λρ h=>Dy (h _ _ V) (h _ _ V) (by unfold Av;rw [if_pos (by omega)];congr 1)) (C 6 V ?_);refine JL.uA V V (HE (kk:=kk) (p:= .Cu sv aw it old) b2 ac V V V V V Hx IV V λm q a4=>⟨some (.Cu sv aw (it+1) m),Rz a3 b4 (λe=>by rw [e.1] at c1;cases c1),?_⟩);refine C 3 V (JL.again ?_);rw [← a6];exact EU [(0,.pointer (some F.uA)),(2,iV wt),(3,.bool sv),(4,.bool aw),(5,iV ((it+1:Nat):Int)),(6,.int .i32 (m:M4).num)] V (b3 (sv,aw,it+1,m,wt) (by show 4 - (it+1)<N;omega) ⟨a4.2.2.2.2.2,(by show it+1<=4;omega),a4.2.2.2.2.1⟩)
     .refine An (v:= .bool false) V (λρ h=>MW (h _ _ V) (h _ _ V)) (C 3 V ?_);exact AF (az _ _ ⟨V,V⟩) V
    .refine IX V V V (C 5 V ?_);exact AF (az _ _ ⟨V,V⟩) V
   rintro _ _ ⟨rfl,rfl⟩;refine C 6 V (Bx (λL s'=>s=s'/\L= [(0,.pointer (some F.uA)),(2,iV wt),(3,.bool sv),(4,.bool aw),(5,iV (it:Int)),(6,.int .i32 (old:M4).num),(7,.int .i32 ({old with l:=old.l || !old.s}:M4).num)]) ?_ ?_)
   rotate_left
   .intro az;refine C 3 V (An (v:=C8 (BL old&&& 4)) V (λρ h=>EN (c:=4) a2 (h _ _ V) (h _ _ V) (by decide)) ?_);refine C 2 V (GA (p:=((BL old&&& 4:Nat):Int)=0) V (λc=>?_) (λc=>?_))
    .refine JL.region (C 1 V ?_);refine An (v:= .int .i32 ({old with l:=true}:M4).num) V (λρ h=>Pu (c:=1) a2 (by decide) (jF old) V (h _ _ V) (h _ _ V)) (C 2 V ?_);refine EH ?_ (az _ _ ⟨V,V⟩);exact⟨V,V,V,V,V,V,congrArg (λm:M4=>some (Value.int .i32 m.num)) (by rw [(Iq old).1 c];simp),trivial⟩
    .refine JL.skip (EH ?_ (az _ _ ⟨V,V⟩));exact⟨V,V,V,V,V,V,congrArg (λm:M4=>some (Value.int .i32 m.num)) ((Bool.eq_false_or_eq_true old.s).elim (Hm old) (λhh=>absurd ((Iq old).2 hh) c)),trivial⟩
   rintro _ _ ⟨rfl,rfl⟩;have ep:Cw {old with l:=old.l || !old.s}:=a2;refine JL.seq (Bx (λL s'=>s=s'/\L= [(0,.pointer (some F.uA)),(2,iV wt),(3,.bool sv),(4,.bool aw),(5,iV (it:Int)),(6,.int .i32 (old:M4).num),(7,.int .i32 ({old with l:=old.l || !old.s,w:=if old.l=true∨old.s=true then old.w+1 else old.w}:M4).num)]) ?_ ?_)
   rotate_left
   .intro az;refine C 3 V (An (v:=C8 (BL old&&& 5)) V (λρ h=>EN (c:=5) a2 (h _ _ V) (h _ _ V) (by decide)) ?_);refine C 2 V (GA (p:=((BL old&&& 5:Nat):Int)≠0) V (λc=>?_) (λc=>?_))
    .refine JL.region (C 1 V ?_);refine An (v:= .int .i32 ({old with l:=old.l || !old.s,w:=old.w+1}:M4).num) V (λρ h=>bR (m:={old with l:=old.l || !old.s}) ce (h _ _ V) (h _ _ V)) (C 2 V ?_);refine EH ?_ (az _ _ ⟨V,V⟩);exact⟨V,V,V,V,V,V,congrArg (λm:M4=>some (Value.int .i32 m.num)) (by rw [if_pos (by have:=λe=>c ((Nt old).2 e);cases er:old.l <;> cases eu:old.s <;> simp_all)]),trivial⟩
    .refine JL.skip (EH ?_ (az _ _ ⟨V,V⟩));exact⟨V,V,V,V,V,V,congrArg (λm:M4=>some (Value.int .i32 m.num)) (by rw [if_neg (by have:=(Nt old).1 (Decidable.not_not.1 c);rw [this.1,this.2];simp)]),trivial⟩
   rintro _ _ ⟨rfl,rfl⟩;have c0:Cw ({old with l:=old.l || !old.s,w:=if old.l=true∨old.s=true then old.w+1 else old.w}:M4):=by unfold Dp at ce;unfold Cw;simp only;split <;> omega
   refine JL.seq (Bx (λL s'=>s=s'/\L= [(0,.pointer (some F.uA)),(2,iV wt),(3,.bool sv),(4,.bool aw),(5,iV (it:Int)),(6,.int .i32 (old:M4).num),(7,.int .i32 ({old with l:=old.l || !old.s,s:=old.s || (sv&&old.l),w:=if old.l=true∨old.s=true then old.w+1 else old.w}:M4).num)]) ?_ ?_)
   rotate_left
   .intro az;refine C 4 V (Lc (c:=sv) (i:=61) V (λc1=>?_) (λc1=>?_))
    .refine An (v:= .int .i32 (old:M4).num) V (λρ h=>Yl.move (h _ _ V)) (An (v:=C8 (BL old&&& 1)) V (λρ h=>EN (c:=1) a2 (h _ _ V) (h _ _ V) (by decide)) ?_);refine C 3 V (GA (p:=((BL old&&& 1:Nat):Int)≠0) V (λc=>?_) (λc=>?_))
     .refine JL.region (C 1 V ?_);refine An (v:= .int .i32 ({old with s:=true,l:=old.l || !old.s,w:=if old.l=true∨old.s=true then old.w+1 else old.w}:M4).num) V (λρ h=>Pu (c:=4) (m:={old with l:=old.l || !old.s,w:=if old.l=true∨old.s=true then old.w+1 else old.w}) c0 (by decide) (jN _) V (h _ _ V) (h _ _ V)) ?_
      refine C 2 V (EH ?_ (az _ _ ⟨V,V⟩));exact⟨V,V,V,V,V,V,congrArg (λm:M4=>some (Value.int .i32 m.num)) (by rcases Bool.eq_false_or_eq_true old.l with hh | hh <;> first | exact absurd ((R7 old).2 hh) c | (rw [c1,hh];simp)),trivial⟩
     .refine JL.skip (EH ?_ (az _ _ ⟨V,V⟩));exact⟨V,V,V,V,V,V,congrArg (λm:M4=>some (Value.int .i32 m.num)) (by have:=(R7 old).1 (Decidable.not_not.1 c);rw [this];simp),trivial⟩
    .refine IX V V V (C 6 V ?_);refine EH ?_ (az _ _ ⟨V,V⟩);exact⟨V,V,V,V,V,V,congrArg (λm:M4=>some (Value.int .i32 m.num)) (by rw [c1];simp),trivial⟩
   rintro _ _ ⟨rfl,rfl⟩;have c4:Cw ({old with l:=old.l || !old.s,s:=old.s || (sv&&old.l),w:=if old.l=true∨old.s=true then old.w+1 else old.w}:M4):=c0
   refine JL.seq (Bx (λL s'=>s=s'/\L= [(0,.pointer (some F.uA)),(2,iV wt),(3,.bool sv),(4,.bool aw),(5,iV (it:Int)),(6,.int .i32 (old:M4).num),(7,.int .i32 (mN sv aw old:M4).num)]) ?_ ?_)
   rotate_left
   .intro az;refine C 4 V (QX (t:=aw) V (λc=>?_) (λc=>?_))
    .have c5:old.k=true:=ed c;refine C 4 V ?_;refine An (v:=C8 (BL ({old with l:=old.l || !old.s,s:=old.s || (sv&&old.l),w:=if old.l=true∨old.s=true then old.w+1 else old.w}:M4)&&& 2)) V (λρ h=>EN (c:=2) (m:={old with l:=old.l || !old.s,s:=old.s || (sv&&old.l),w:=if old.l=true∨old.s=true then old.w+1 else old.w}) c4 (h _ _ V) (h _ _ V) (by decide)) ?_
     refine An (v:= .bool false) V (λρ h=>Yl.to (Yl.eql (h _ _ V) (h _ _ V)) (by rw [decide_eq_false (λe=>by have q:=(Se _).1 e;simp only at q;rw [c5] at q;cases q)])) (C 5 V ?_);refine An (v:= .int .i32 ({old with k:=false,l:=old.l || !old.s,s:=old.s || (sv&&old.l),w:=if old.l=true∨old.s=true then old.w+1 else old.w}:M4).num) V (λρ h=>Yl.Rv (m:={old with l:=old.l || !old.s,s:=old.s || (sv&&old.l),w:=if old.l=true∨old.s=true then old.w+1 else old.w}) c4 c5 (h _ _ V) (h _ _ V)) ?_
     refine C 2 V (EH ?_ (az _ _ ⟨V,V⟩));exact⟨V,V,V,V,V,V,congrArg (λm:M4=>some (Value.int .i32 m.num)) (by simp [mN,c]),trivial⟩
    .refine JL.skip (EH ?_ (az _ _ ⟨V,V⟩));exact⟨V,V,V,V,V,V,congrArg (λm:M4=>some (Value.int .i32 m.num)) (by simp [mN,c]),trivial⟩
   rintro _ _ ⟨rfl,rfl⟩;refine C 4 V (JL.uA V V ?_);refine C 2 V (λT ef=>(A4 Tryz.prog false).stop (hC (sv,aw,it,old,wt) _ b1 λX ew eg O ay b5=>?_));refine Q1 (kk:=kk) (p:= .Cu sv aw it old) (old:=old) (nw:=mN sv aw old) eg ac V V V V V PQ V V V (λq a4=>?_) (λm q hm a4=>⟨some (.EC sv aw it),aC hm,?_⟩) T ef
   .by_cases a3:old.l=false/\old.s=false
    .refine⟨some .len,cM a3,?_⟩;refine C 6 V (An (v:=C8 (BL old&&& 5)) V (λρ h=>EN (c:=5) a2 (h _ _ V) (h _ _ V) (by decide)) ?_);refine An (v:= .bool true) V (λρ h=>Yl.to (Yl.eql (h _ _ V) (h _ _ V)) (by rw [decide_eq_true ((Nt old).2 a3)])) (C 3 V ?_);exact a1 X O ay _ V
    .by_cases c6:wt=0
     .refine⟨some ((.IZ sv)),UB a3 _ (.inl V),?_⟩;refine C 6 V (An (v:=C8 (BL old&&& 5)) V (λρ h=>EN (c:=5) a2 (h _ _ V) (h _ _ V) (by decide)) ?_);refine An (v:= .bool false) V (λρ h=>Yl.to (Yl.eql (h _ _ V) (h _ _ V)) (by rw [decide_eq_false (λe=>a3 ((Nt old).1 e))])) ?_;refine C 13 V (An (v:= .bool true) V (λρ h=>Yl.to (Yl.eql (h _ _ V) (h _ _ V)) (by rw [decide_eq_true c6])) ?_);refine C 3 V (QJ (kk:=kk) (p:= .IZ sv) O ac V V V V V RY R2 λm a5 v al=>⟨some (.CG sv),List.mem_singleton.2 V,?_⟩);refine C 6 V (An (v:= .pointer (some F.qA)) V (λρ h=>Ft (a:=F.uA) 0 1 Tryz.underlying106 Ob V V V (h _ _ V)) ?_);refine C 1 V (TY (kk:=kk) (sv:=sv) O ac V V V V VS V V ?_);refine JL.done ?_;cases sv
      .rw [if_neg (by decide)];refine C 4 V (QJ (kk:=kk) (p:= .Gm) O ac V V V V V RY R2 λej ek v2 el=>⟨some (.EV (decide (IntKind.i64.wrap (v2 - v)>1000000))),by (cases decide (IntKind.i64.wrap (v2 - v)>1000000) <;> simp [Fam.B9]),?_⟩);refine C 1 V (An (v:= .int .i64 (IntKind.i64.wrap (v2 - v))) V (λρ h=>Yl.sub (h _ _ V) (h _ _ V)) ?_);refine C 4 V ?_;generalize decide (IntKind.i64.wrap (v2 - v)>1000000)=av;refine C 4 V (JL.uA V V ?_);refine HE (kk:=kk) (p:= .EV av) O ac V V V V V Hx IV V ?_;intro m ci a0;have a8:Dp m:=a0.2.2;have am:Cw m:=a8.Cw;by_cases ag:m.s=true
       .refine⟨some (.EA (!av || m.w==1)),by simp [Fam.B9,ag],?_⟩;refine C 2 V ?_;obtain⟨bw,bx,bz⟩:=a0.1 ag;refine C 4 V (An (v:=C8 (BL m&&& 4)) V (λρ h=>EN (c:=4) am (h _ _ V) (h _ _ V) (by decide)) ?_);refine An (v:= .bool true) V (λρ h=>Yl.to (Ig (h _ _ V) (h _ _ V)) (by have b0:(((BL m&&& 4:Nat):Int)≠0):=(λe=>by rw [(Iq m).1 e] at ag;cases ag);rw [decide_eq_true b0])) ?_;refine C 6 V (An (v:=C8 (BL m&&& 3)) V (λρ h=>EN (c:=3) am (h _ _ V) (h _ _ V) (by decide)) ?_);refine An (v:= .bool false) V (λρ h=>Yl.to (Ig (h _ _ V) (h _ _ V)) (by rw [(PL m).2 ⟨bw,bx⟩];rfl)) (C 2 V ?_);refine An (v:=C8 m.w) V (λρ h=>Jj am (h _ _ V) (h _ _ V)) (An (v:= .bool false) V (λρ h=>Yl.to (Yl.eql (h _ _ V) (h _ _ V)) (by rw [decide_eq_false (λe=>bz (by omega))])) ?_);refine C 12 V (An (v:= .bool (!av)) V (λρ h=>Yl.not (h _ _ V)) ?_);refine C 1 V (Lc (c:= !av) (i:=119) V (λd1=>?_) (λd1=>?_))
        .refine IX V V V (C 5 V ?_);have hex:(!av || m.w==1)=true:=by rw [d1];simp
         rw [hex];refine C 2 V (An (v:= .int .i32 (-11)) V (λρ h=>Yl.to (Yl.sub (h _ _ V) (h _ _ V)) V) ?_);refine C 6 V (JL.uA V V ?_);refine C 1 V (HB (kk:=kk) (p:= .EA true) (dl:= -11) O ac V V V V V HI V V λK a5 al=>⟨⟨true,K.k,false,K.w - 1⟩,some .len,?_,List.mem_singleton.2 V,?_⟩)
         .obtain⟨a9,bb,be,w3⟩:=K;obtain⟨U,g2,Z,ap,bi,aq⟩:=al;simp only at U g2 Z ap;subst U g2 Z;have bn:w3<134217728:=aq;have e:(⟨false,false,true,w3⟩:M4).num+(-11)=((8*(w3 - 1)+1:Nat):Int):=by simp only [M4.num,Bool.toNat_true,Bool.toNat_false];omega
          rw [e,FP (by omega)];simp only [M4.num,Bool.toNat_true,Bool.toNat_false];omega
         exact C 2 V (a1 X O ay _ V)
        .refine An (v:= .int .i32 (m:M4).num) V (λρ h=>Yl.move (h _ _ V)) (An (v:=C8 m.w) V (λρ h=>Jj am (h _ _ V) (h _ _ V)) ?_);refine C 3 V (GA (p:=(m.w:Int)=1) V (λd2=>?_) (λd2=>?_))
         .have hex:(!av || m.w==1)=true:=by rw [d1];simp;omega
          rw [hex];refine C 2 V (An (v:= .int .i32 (-11)) V (λρ h=>Yl.to (Yl.sub (h _ _ V) (h _ _ V)) V) ?_);refine C 6 V (JL.uA V V ?_);refine C 1 V (HB (kk:=kk) (p:= .EA true) (dl:= -11) O ac V V V V V HI V V λK a5 al=>⟨⟨true,K.k,false,K.w - 1⟩,some .len,?_,List.mem_singleton.2 V,?_⟩)
          .obtain⟨a9,bb,be,w3⟩:=K;obtain⟨U,g2,Z,ap,bi,aq⟩:=al;simp only at U g2 Z ap;subst U g2 Z;have bn:w3<134217728:=aq;have e:(⟨false,false,true,w3⟩:M4).num+(-11)=((8*(w3 - 1)+1:Nat):Int):=by simp only [M4.num,Bool.toNat_true,Bool.toNat_false];omega
           rw [e,FP (by omega)];simp only [M4.num,Bool.toNat_true,Bool.toNat_false];omega
          exact C 2 V (a1 X O ay _ V)
         .have hex:(!av || m.w==1)=false:=by rw [d1];simp;omega
          rw [hex];refine C 5 V (JL.uA V V ?_);refine C 1 V (HB (kk:=kk) (p:= .EA false) (dl:= -7) O ac V V V V V HI V V λK a5 al=>⟨⟨true,K.k,true,K.w - 1⟩,some .len,?_,List.mem_singleton.2 V,?_⟩)
          .obtain⟨a9,bb,be,w3⟩:=K;obtain⟨U,g2,Z,ap,bi,aq⟩:=al;simp only at U g2 Z ap;subst U g2 Z;have bn:w3<134217728:=aq;have e:(⟨false,false,true,w3⟩:M4).num+(-7)=((8*(w3 - 1)+5:Nat):Int):=by simp only [M4.num,Bool.toNat_true,Bool.toNat_false];omega
           rw [e,FP (by omega)];simp only [M4.num,Bool.toNat_true,Bool.toNat_false];omega
          exact C 2 V (a1 X O ay _ V)
       .refine⟨some (.Cu av true 0 m),by simp [Fam.B9,ag],?_⟩;refine C 2 V ?_;have bo:m.s=false:=by simpa using ag
        refine C 4 V (An (v:=C8 (BL m&&& 4)) V (λρ h=>EN (c:=4) am (h _ _ V) (h _ _ V) (by decide)) ?_);refine An (v:= .bool false) V (λρ h=>Yl.to (Ig (h _ _ V) (h _ _ V)) (by rw [(Iq m).2 bo];rfl)) (C 11 V ?_);refine JL.again ?_;rw [← a6];exact EU [(0,.pointer (some F.uA)),(2,iV v),(3,.bool av),(4,.bool true),(5,iV ((0:Nat):Int)),(6,.int .i32 (m:M4).num)] V (b5 (av,true,0,m,v) ⟨λ_=>a0.2.1 bo,Nat.zero_le _,a8⟩)
      .rw [if_pos rfl];refine C 15 V (JL.uA V V ?_);refine HE (kk:=kk) (p:= .EV true) O ac V V V V V Hx IV V ?_;intro m ci a0;have a8:Dp m:=a0.2.2;have am:Cw m:=a8.Cw;by_cases ag:m.s=true
       .refine⟨some (.EA (!true || m.w==1)),by simp [Fam.B9,ag],?_⟩;refine C 2 V ?_;obtain⟨bw,bx,bz⟩:=a0.1 ag;refine C 4 V (An (v:=C8 (BL m&&& 4)) V (λρ h=>EN (c:=4) am (h _ _ V) (h _ _ V) (by decide)) ?_);refine An (v:= .bool true) V (λρ h=>Yl.to (Ig (h _ _ V) (h _ _ V)) (by have b0:(((BL m&&& 4:Nat):Int)≠0):=(λe=>by rw [(Iq m).1 e] at ag;cases ag);rw [decide_eq_true b0])) ?_;refine C 6 V (An (v:=C8 (BL m&&& 3)) V (λρ h=>EN (c:=3) am (h _ _ V) (h _ _ V) (by decide)) ?_);refine An (v:= .bool false) V (λρ h=>Yl.to (Ig (h _ _ V) (h _ _ V)) (by rw [(PL m).2 ⟨bw,bx⟩];rfl)) (C 2 V ?_);refine An (v:=C8 m.w) V (λρ h=>Jj am (h _ _ V) (h _ _ V)) (An (v:= .bool false) V (λρ h=>Yl.to (Yl.eql (h _ _ V) (h _ _ V)) (by rw [decide_eq_false (λe=>bz (by omega))])) ?_);refine C 12 V (An (v:= .bool (!true)) V (λρ h=>Yl.not (h _ _ V)) ?_);refine C 1 V (Lc (c:= !true) (i:=119) V (λd1=>?_) (λd1=>?_))
        .refine IX V V V (C 5 V ?_);have hex:(!true || m.w==1)=true:=by rw [d1];simp
         rw [hex];refine C 2 V (An (v:= .int .i32 (-11)) V (λρ h=>Yl.to (Yl.sub (h _ _ V) (h _ _ V)) V) ?_);refine C 6 V (JL.uA V V ?_);refine C 1 V (HB (kk:=kk) (p:= .EA true) (dl:= -11) O ac V V V V V HI V V λK a5 al=>⟨⟨true,K.k,false,K.w - 1⟩,some .len,?_,List.mem_singleton.2 V,?_⟩)
         .obtain⟨a9,bb,be,w3⟩:=K;obtain⟨U,g2,Z,ap,bi,aq⟩:=al;simp only at U g2 Z ap;subst U g2 Z;have bn:w3<134217728:=aq;have e:(⟨false,false,true,w3⟩:M4).num+(-11)=((8*(w3 - 1)+1:Nat):Int):=by simp only [M4.num,Bool.toNat_true,Bool.toNat_false];omega
          rw [e,FP (by omega)];simp only [M4.num,Bool.toNat_true,Bool.toNat_false];omega
         exact C 2 V (a1 X O ay _ V)
        .refine An (v:= .int .i32 (m:M4).num) V (λρ h=>Yl.move (h _ _ V)) (An (v:=C8 m.w) V (λρ h=>Jj am (h _ _ V) (h _ _ V)) ?_);refine C 3 V (GA (p:=(m.w:Int)=1) V (λd2=>?_) (λd2=>?_))
         .have hex:(!true || m.w==1)=true:=by rw [d1];simp;omega
          rw [hex];refine C 2 V (An (v:= .int .i32 (-11)) V (λρ h=>Yl.to (Yl.sub (h _ _ V) (h _ _ V)) V) ?_);refine C 6 V (JL.uA V V ?_);refine C 1 V (HB (kk:=kk) (p:= .EA true) (dl:= -11) O ac V V V V V HI V V λK a5 al=>⟨⟨true,K.k,false,K.w - 1⟩,some .len,?_,List.mem_singleton.2 V,?_⟩)
          .obtain⟨a9,bb,be,w3⟩:=K;obtain⟨U,g2,Z,ap,bi,aq⟩:=al;simp only at U g2 Z ap;subst U g2 Z;have bn:w3<134217728:=aq;have e:(⟨false,false,true,w3⟩:M4).num+(-11)=((8*(w3 - 1)+1:Nat):Int):=by simp only [M4.num,Bool.toNat_true,Bool.toNat_false];omega
           rw [e,FP (by omega)];simp only [M4.num,Bool.toNat_true,Bool.toNat_false];omega
          exact C 2 V (a1 X O ay _ V)
         .have hex:(!true || m.w==1)=false:=by rw [d1];simp;omega
          rw [hex];refine C 5 V (JL.uA V V ?_);refine C 1 V (HB (kk:=kk) (p:= .EA false) (dl:= -7) O ac V V V V V HI V V λK a5 al=>⟨⟨true,K.k,true,K.w - 1⟩,some .len,?_,List.mem_singleton.2 V,?_⟩)
          .obtain⟨a9,bb,be,w3⟩:=K;obtain⟨U,g2,Z,ap,bi,aq⟩:=al;simp only at U g2 Z ap;subst U g2 Z;have bn:w3<134217728:=aq;have e:(⟨false,false,true,w3⟩:M4).num+(-7)=((8*(w3 - 1)+5:Nat):Int):=by simp only [M4.num,Bool.toNat_true,Bool.toNat_false];omega
           rw [e,FP (by omega)];simp only [M4.num,Bool.toNat_true,Bool.toNat_false];omega
          exact C 2 V (a1 X O ay _ V)
       .refine⟨some (.Cu true true 0 m),by simp [Fam.B9,ag],?_⟩;refine C 2 V ?_;have bo:m.s=false:=by simpa using ag
        refine C 4 V (An (v:=C8 (BL m&&& 4)) V (λρ h=>EN (c:=4) am (h _ _ V) (h _ _ V) (by decide)) ?_);refine An (v:= .bool false) V (λρ h=>Yl.to (Ig (h _ _ V) (h _ _ V)) (by rw [(Iq m).2 bo];rfl)) (C 11 V ?_);refine JL.again ?_;rw [← a6];exact EU [(0,.pointer (some F.uA)),(2,iV v),(3,.bool true),(4,.bool true),(5,iV ((0:Nat):Int)),(6,.int .i32 (m:M4).num)] V (b5 (true,true,0,m,v) ⟨λ_=>a0.2.1 bo,Nat.zero_le _,a8⟩)
     .refine⟨some ((.CG sv)),UB a3 _ (.inr V),?_⟩;refine C 6 V (An (v:=C8 (BL old&&& 5)) V (λρ h=>EN (c:=5) a2 (h _ _ V) (h _ _ V) (by decide)) ?_);refine An (v:= .bool false) V (λρ h=>Yl.to (Yl.eql (h _ _ V) (h _ _ V)) (by rw [decide_eq_false (λe=>a3 ((Nt old).1 e))])) ?_;refine C 13 V (An (v:= .bool false) V (λρ h=>Yl.to (Yl.eql (h _ _ V) (h _ _ V)) (by rw [decide_eq_false c6])) ?_);refine C 7 V (An (v:= .pointer (some F.qA)) V (λρ h=>Ft (a:=F.uA) 0 1 Tryz.underlying106 Ob V V V (h _ _ V)) ?_);refine C 1 V (TY (kk:=kk) (sv:=sv) O ac V V V V VS V V ?_);refine JL.done ?_;cases sv
      .rw [if_neg (by decide)];refine C 4 V (QJ (kk:=kk) (p:= .Gm) O ac V V V V V RY R2 λej ek v2 el=>⟨some (.EV (decide (IntKind.i64.wrap (v2 - wt)>1000000))),by (cases decide (IntKind.i64.wrap (v2 - wt)>1000000) <;> simp [Fam.B9]),?_⟩);refine C 1 V (An (v:= .int .i64 (IntKind.i64.wrap (v2 - wt))) V (λρ h=>Yl.sub (h _ _ V) (h _ _ V)) ?_);refine C 4 V ?_;generalize decide (IntKind.i64.wrap (v2 - wt)>1000000)=av;refine C 4 V (JL.uA V V ?_);refine HE (kk:=kk) (p:= .EV av) O ac V V V V V Hx IV V ?_;intro m ci a0;have a8:Dp m:=a0.2.2;have am:Cw m:=a8.Cw;by_cases ag:m.s=true
       .refine⟨some (.EA (!av || m.w==1)),by simp [Fam.B9,ag],?_⟩;refine C 2 V ?_;obtain⟨bw,bx,bz⟩:=a0.1 ag;refine C 4 V (An (v:=C8 (BL m&&& 4)) V (λρ h=>EN (c:=4) am (h _ _ V) (h _ _ V) (by decide)) ?_);refine An (v:= .bool true) V (λρ h=>Yl.to (Ig (h _ _ V) (h _ _ V)) (by have b0:(((BL m&&& 4:Nat):Int)≠0):=(λe=>by rw [(Iq m).1 e] at ag;cases ag);rw [decide_eq_true b0])) ?_;refine C 6 V (An (v:=C8 (BL m&&& 3)) V (λρ h=>EN (c:=3) am (h _ _ V) (h _ _ V) (by decide)) ?_);refine An (v:= .bool false) V (λρ h=>Yl.to (Ig (h _ _ V) (h _ _ V)) (by rw [(PL m).2 ⟨bw,bx⟩];rfl)) (C 2 V ?_);refine An (v:=C8 m.w) V (λρ h=>Jj am (h _ _ V) (h _ _ V)) (An (v:= .bool false) V (λρ h=>Yl.to (Yl.eql (h _ _ V) (h _ _ V)) (by rw [decide_eq_false (λe=>bz (by omega))])) ?_);refine C 12 V (An (v:= .bool (!av)) V (λρ h=>Yl.not (h _ _ V)) ?_);refine C 1 V (Lc (c:= !av) (i:=119) V (λd1=>?_) (λd1=>?_))
        .refine IX V V V (C 5 V ?_);have hex:(!av || m.w==1)=true:=by rw [d1];simp
         rw [hex];refine C 2 V (An (v:= .int .i32 (-11)) V (λρ h=>Yl.to (Yl.sub (h _ _ V) (h _ _ V)) V) ?_);refine C 6 V (JL.uA V V ?_);refine C 1 V (HB (kk:=kk) (p:= .EA true) (dl:= -11) O ac V V V V V HI V V λK a5 al=>⟨⟨true,K.k,false,K.w - 1⟩,some .len,?_,List.mem_singleton.2 V,?_⟩)
         .obtain⟨a9,bb,be,w3⟩:=K;obtain⟨U,g2,Z,ap,bi,aq⟩:=al;simp only at U g2 Z ap;subst U g2 Z;have bn:w3<134217728:=aq;have e:(⟨false,false,true,w3⟩:M4).num+(-11)=((8*(w3 - 1)+1:Nat):Int):=by simp only [M4.num,Bool.toNat_true,Bool.toNat_false];omega
          rw [e,FP (by omega)];simp only [M4.num,Bool.toNat_true,Bool.toNat_false];omega
         exact C 2 V (a1 X O ay _ V)
        .refine An (v:= .int .i32 (m:M4).num) V (λρ h=>Yl.move (h _ _ V)) (An (v:=C8 m.w) V (λρ h=>Jj am (h _ _ V) (h _ _ V)) ?_);refine C 3 V (GA (p:=(m.w:Int)=1) V (λd2=>?_) (λd2=>?_))
         .have hex:(!av || m.w==1)=true:=by rw [d1];simp;omega
          rw [hex];refine C 2 V (An (v:= .int .i32 (-11)) V (λρ h=>Yl.to (Yl.sub (h _ _ V) (h _ _ V)) V) ?_);refine C 6 V (JL.uA V V ?_);refine C 1 V (HB (kk:=kk) (p:= .EA true) (dl:= -11) O ac V V V V V HI V V λK a5 al=>⟨⟨true,K.k,false,K.w - 1⟩,some .len,?_,List.mem_singleton.2 V,?_⟩)
          .obtain⟨a9,bb,be,w3⟩:=K;obtain⟨U,g2,Z,ap,bi,aq⟩:=al;simp only at U g2 Z ap;subst U g2 Z;have bn:w3<134217728:=aq;have e:(⟨false,false,true,w3⟩:M4).num+(-11)=((8*(w3 - 1)+1:Nat):Int):=by simp only [M4.num,Bool.toNat_true,Bool.toNat_false];omega
           rw [e,FP (by omega)];simp only [M4.num,Bool.toNat_true,Bool.toNat_false];omega
          exact C 2 V (a1 X O ay _ V)
         .have hex:(!av || m.w==1)=false:=by rw [d1];simp;omega
          rw [hex];refine C 5 V (JL.uA V V ?_);refine C 1 V (HB (kk:=kk) (p:= .EA false) (dl:= -7) O ac V V V V V HI V V λK a5 al=>⟨⟨true,K.k,true,K.w - 1⟩,some .len,?_,List.mem_singleton.2 V,?_⟩)
          .obtain⟨a9,bb,be,w3⟩:=K;obtain⟨U,g2,Z,ap,bi,aq⟩:=al;simp only at U g2 Z ap;subst U g2 Z;have bn:w3<134217728:=aq;have e:(⟨false,false,true,w3⟩:M4).num+(-7)=((8*(w3 - 1)+5:Nat):Int):=by simp only [M4.num,Bool.toNat_true,Bool.toNat_false];omega
           rw [e,FP (by omega)];simp only [M4.num,Bool.toNat_true,Bool.toNat_false];omega
          exact C 2 V (a1 X O ay _ V)
       .refine⟨some (.Cu av true 0 m),by simp [Fam.B9,ag],?_⟩;refine C 2 V ?_;have bo:m.s=false:=by simpa using ag
        refine C 4 V (An (v:=C8 (BL m&&& 4)) V (λρ h=>EN (c:=4) am (h _ _ V) (h _ _ V) (by decide)) ?_);refine An (v:= .bool false) V (λρ h=>Yl.to (Ig (h _ _ V) (h _ _ V)) (by rw [(Iq m).2 bo];rfl)) (C 11 V ?_);refine JL.again ?_;rw [← a6];exact EU [(0,.pointer (some F.uA)),(2,iV wt),(3,.bool av),(4,.bool true),(5,iV ((0:Nat):Int)),(6,.int .i32 (m:M4).num)] V (b5 (av,true,0,m,wt) ⟨λ_=>a0.2.1 bo,Nat.zero_le _,a8⟩)
      .rw [if_pos rfl];refine C 15 V (JL.uA V V ?_);refine HE (kk:=kk) (p:= .EV true) O ac V V V V V Hx IV V ?_;intro m ci a0;have a8:Dp m:=a0.2.2;have am:Cw m:=a8.Cw;by_cases ag:m.s=true
       .refine⟨some (.EA (!true || m.w==1)),by simp [Fam.B9,ag],?_⟩;refine C 2 V ?_;obtain⟨bw,bx,bz⟩:=a0.1 ag;refine C 4 V (An (v:=C8 (BL m&&& 4)) V (λρ h=>EN (c:=4) am (h _ _ V) (h _ _ V) (by decide)) ?_);refine An (v:= .bool true) V (λρ h=>Yl.to (Ig (h _ _ V) (h _ _ V)) (by have b0:(((BL m&&& 4:Nat):Int)≠0):=(λe=>by rw [(Iq m).1 e] at ag;cases ag);rw [decide_eq_true b0])) ?_;refine C 6 V (An (v:=C8 (BL m&&& 3)) V (λρ h=>EN (c:=3) am (h _ _ V) (h _ _ V) (by decide)) ?_);refine An (v:= .bool false) V (λρ h=>Yl.to (Ig (h _ _ V) (h _ _ V)) (by rw [(PL m).2 ⟨bw,bx⟩];rfl)) (C 2 V ?_);refine An (v:=C8 m.w) V (λρ h=>Jj am (h _ _ V) (h _ _ V)) (An (v:= .bool false) V (λρ h=>Yl.to (Yl.eql (h _ _ V) (h _ _ V)) (by rw [decide_eq_false (λe=>bz (by omega))])) ?_);refine C 12 V (An (v:= .bool (!true)) V (λρ h=>Yl.not (h _ _ V)) ?_);refine C 1 V (Lc (c:= !true) (i:=119) V (λd1=>?_) (λd1=>?_))
        .refine IX V V V (C 5 V ?_);have hex:(!true || m.w==1)=true:=by rw [d1];simp
         rw [hex];refine C 2 V (An (v:= .int .i32 (-11)) V (λρ h=>Yl.to (Yl.sub (h _ _ V) (h _ _ V)) V) ?_);refine C 6 V (JL.uA V V ?_);refine C 1 V (HB (kk:=kk) (p:= .EA true) (dl:= -11) O ac V V V V V HI V V λK a5 al=>⟨⟨true,K.k,false,K.w - 1⟩,some .len,?_,List.mem_singleton.2 V,?_⟩)
         .obtain⟨a9,bb,be,w3⟩:=K;obtain⟨U,g2,Z,ap,bi,aq⟩:=al;simp only at U g2 Z ap;subst U g2 Z;have bn:w3<134217728:=aq;have e:(⟨false,false,true,w3⟩:M4).num+(-11)=((8*(w3 - 1)+1:Nat):Int):=by simp only [M4.num,Bool.toNat_true,Bool.toNat_false];omega
          rw [e,FP (by omega)];simp only [M4.num,Bool.toNat_true,Bool.toNat_false];omega
         exact C 2 V (a1 X O ay _ V)
        .refine An (v:= .int .i32 (m:M4).num) V (λρ h=>Yl.move (h _ _ V)) (An (v:=C8 m.w) V (λρ h=>Jj am (h _ _ V) (h _ _ V)) ?_);refine C 3 V (GA (p:=(m.w:Int)=1) V (λd2=>?_) (λd2=>?_))
         .have hex:(!true || m.w==1)=true:=by rw [d1];simp;omega
          rw [hex];refine C 2 V (An (v:= .int .i32 (-11)) V (λρ h=>Yl.to (Yl.sub (h _ _ V) (h _ _ V)) V) ?_);refine C 6 V (JL.uA V V ?_);refine C 1 V (HB (kk:=kk) (p:= .EA true) (dl:= -11) O ac V V V V V HI V V λK a5 al=>⟨⟨true,K.k,false,K.w - 1⟩,some .len,?_,List.mem_singleton.2 V,?_⟩)
          .obtain⟨a9,bb,be,w3⟩:=K;obtain⟨U,g2,Z,ap,bi,aq⟩:=al;simp only at U g2 Z ap;subst U g2 Z;have bn:w3<134217728:=aq;have e:(⟨false,false,true,w3⟩:M4).num+(-11)=((8*(w3 - 1)+1:Nat):Int):=by simp only [M4.num,Bool.toNat_true,Bool.toNat_false];omega
           rw [e,FP (by omega)];simp only [M4.num,Bool.toNat_true,Bool.toNat_false];omega
          exact C 2 V (a1 X O ay _ V)
         .have hex:(!true || m.w==1)=false:=by rw [d1];simp;omega
          rw [hex];refine C 5 V (JL.uA V V ?_);refine C 1 V (HB (kk:=kk) (p:= .EA false) (dl:= -7) O ac V V V V V HI V V λK a5 al=>⟨⟨true,K.k,true,K.w - 1⟩,some .len,?_,List.mem_singleton.2 V,?_⟩)
          .obtain⟨a9,bb,be,w3⟩:=K;obtain⟨U,g2,Z,ap,bi,aq⟩:=al;simp only at U g2 Z ap;subst U g2 Z;have bn:w3<134217728:=aq;have e:(⟨false,false,true,w3⟩:M4).num+(-7)=((8*(w3 - 1)+5:Nat):Int):=by simp only [M4.num,Bool.toNat_true,Bool.toNat_false];omega
           rw [e,FP (by omega)];simp only [M4.num,Bool.toNat_true,Bool.toNat_false];omega
          exact C 2 V (a1 X O ay _ V)
       .refine⟨some (.Cu true true 0 m),by simp [Fam.B9,ag],?_⟩;refine C 2 V ?_;have bo:m.s=false:=by simpa using ag
        refine C 4 V (An (v:=C8 (BL m&&& 4)) V (λρ h=>EN (c:=4) am (h _ _ V) (h _ _ V) (by decide)) ?_);refine An (v:= .bool false) V (λρ h=>Yl.to (Ig (h _ _ V) (h _ _ V)) (by rw [(Iq m).2 bo];rfl)) (C 11 V ?_);refine JL.again ?_;rw [← a6];exact EU [(0,.pointer (some F.uA)),(2,iV wt),(3,.bool true),(4,.bool true),(5,iV ((0:Nat):Int)),(6,.int .i32 (m:M4).num)] V (b5 (true,true,0,m,wt) ⟨λ_=>a0.2.1 bo,Nat.zero_le _,a8⟩)
   .refine JL.done (C 4 V ?_);refine JL.uA V V (HE (kk:=kk) (p:= .EC sv aw it) O ac V V V V V Hx IV V λa7 cy bv=>⟨some (.Cu sv aw it a7),List.mem_singleton.2 V,?_⟩);refine C 3 V (JL.again ?_);rw [← a6];exact EU [(0,.pointer (some F.uA)),(2,iV wt),(3,.bool sv),(4,.bool aw),(5,iV (it:Int)),(6,.int .i32 (a7:M4).num)] V (b5 (sv,aw,it,a7,wt) ⟨bv.2.2.2,b1.2.1,bv.2.2.1⟩)
 exact λa co=>key 5 a (by omega) co
set_option maxHeartbeats 4000000 in
theorem XX{F:Fam}{n:Nat}{L:Env}{ds:Ld_}{k:Li_}{cs:Lf_}{s:St}{b:Frame}{ops:Ao_}{i:Nat}{rest:List Nat}{d:Option Tmp}{x:Operand}{ats:Array TypeId}{ty:TypeId}{pp:String}{af:Ae_}{g:On_}{kk:Nat}(K:s.q=false)(O:ops[i]? =some ⟨d,.call ⟨.value (.func 86),#[x],ats⟩,ty,pp,af,g⟩)(hw:AY L ops ⟨d,.call ⟨.value (.func 86),#[x],ats⟩,ty,pp,af,g⟩=some true)(U:((b.kind != .early)&&Bu n d)=true)(Y:ev L x=some (.pointer (some F.uA)))
  (h:JL (A4 Tryz.prog false) (Stop Tryz.prog F (.lk kk .FY)) b n (AB L d (.tuple #[])) ds (.inRegion ops rest::k) cs s):
  JL (A4 Tryz.prog false) (Stop Tryz.prog F (.lk kk .Gp)) b n L ds (.inRegion ops (i::rest)::k) cs s:=by
 refine HD (vs:= [.pointer (some F.uA)]) O hw U Tryz.func86 (by decide+kernel) V (by simp [evs,Y]) (Nat.le_of_ble_eq_true V) λac back=>C 2 V (Mg (kk:=kk) (p:= .Gp) Dg.stop K V (λ_ _=>V) V V V V (by simp) WB ?_);refine C 6 V (JL.uA V V ?_);refine Uk (kk:=kk) (p:= .HK) (old:=M4.zero) (nw:=⟨true,false,false,0⟩) Dg.stop K V V V V V PQ V V V (λq Z=>⟨some .len,by simp [Fam.B9],?_⟩) (λm q hm Z=>⟨some (.EC false false 0),by simp [Fam.B9,hm],?_⟩)
 .refine JL.done (C 5 V ?_);refine Mg (kk:=kk) (p:= .len) Dg.stop K V (λ_ _=>V) V V V V (by simp) P5 (C 3 V ?_);refine QG (kk:=kk) (p:= .LR) Dg.stop K V (λ_ _=>V) V V V V Tryz.underlying208 Tryz.underlying135 Rd V (Rf (kk:=kk) (p:= .KO) (ad:=F.uA) Dg.stop K V (λ_ _=>V) V V V V (by simp) Wv V V ?_);exact JL.done (JL.ret V V (BK.none Tryz.func86 V) (back _ _ _ _ h))
 .refine JL.done (C 4 V ?_);refine YV (kk:=kk) K V V V V (JL.done ?_);exact JL.fin V V (BK.none Tryz.func86 V) (back _ _ _ _ h)
set_option maxHeartbeats 4000000 in
theorem YG{F:Fam}{n:Nat}{L:Env}{ds:Ld_}{k:Li_}{cs:Lf_}{s:St}{b:Frame}{ops:Ao_}{i:Nat}{rest:List Nat}{d:Option Tmp}{x:Operand}{ats:Array TypeId}{ty:TypeId}{pp:String}{af:Ae_}{g:On_}{kk:Nat}(K:s.q=false)(O:ops[i]? =some ⟨d,.call ⟨.value (.func 57),#[x],ats⟩,ty,pp,af,g⟩)(hw:AY L ops ⟨d,.call ⟨.value (.func 57),#[x],ats⟩,ty,pp,af,g⟩=some true)(U:((b.kind != .early)&&Bu n d)=true)(Y:ev L x=some (.pointer (some F.uA)))
  (h:JL (A4 Tryz.prog false) (Stop Tryz.prog F (.lk kk .FY)) b n (AB L d (.tuple #[])) ds (.inRegion ops rest::k) cs s):
  JL (A4 Tryz.prog false) (Stop Tryz.prog F (.lk kk .Gp)) b n L ds (.inRegion ops (i::rest)::k) cs s:=by
 refine HD (vs:= [.pointer (some F.uA)]) O hw U Tryz.func57 (by decide+kernel) V (by simp [evs,Y]) (Nat.le_of_ble_eq_true V) λZ back=>C 3 V (An (v:= .pointer (some F.uA)) V (λρ h=>Ft (a:=F.uA) 1 0 Tryz.underlying108 (AX Tryz.type106) V V V (h _ _ V)) ?_);refine XX (kk:=kk) K V V V V (JL.done ?_);exact JL.fin V V (BK.none Tryz.func57 V) (back _ _ _ _ h)
def Je(m:M4):LP:=if m.l=false/\m.k=false/\m.s=false/\m.w≠0 then .Fe m else .Fz
def Sn(m:M4):LP:=if m.s=true then .Fv true else if m.k=false/\m.w≠0 then .Fe {m with l:=false} else .Fz
set_option maxHeartbeats 4000000 in
theorem Yf{F:Fam}{n:Nat}{L:Env}{ds:Ld_}{k:Li_}{cs:Lf_}{s:St}{b:Frame}{ops:Ao_}{i:Nat}{rest:List Nat}{d:Option Tmp}{x Z:Operand}{nw:M4}{ats:Array TypeId}{ty:TypeId}{pp:String}{af:Ae_}{g:On_}{kk:Nat}(U:s.q=false)(a3:ops[i]? =some ⟨d,.call ⟨.value (.func 120),#[x,Z],ats⟩,ty,pp,af,g⟩)(hw:AY L ops ⟨d,.call ⟨.value (.func 120),#[x,Z],ats⟩,ty,pp,af,g⟩=some true)(a4:((b.kind != .early)&&Bu n d)=true)(a5:ev L x=some (.pointer (some F.uA)))(a6:ev L Z=some (.int .i32 nw.num))(al:nw.l=false)(a7:Dp nw)(ac:Cw nw)
  (h:JL (A4 Tryz.prog false) (Stop Tryz.prog F (.lk kk .Fz)) b n (AB L d (.tuple #[])) ds (.inRegion ops rest::k) cs s):
  JL (A4 Tryz.prog false) (Stop Tryz.prog F (.lk kk (if nw.s=true then .Fv true else if nw.k=false/\nw.w≠0 then .Fe nw else .Fz))) b n L ds (.inRegion ops (i::rest)::k) cs s:=by
 refine HD (vs:= [.pointer (some F.uA),.int .i32 nw.num]) a3 hw a4 Tryz.func120 (by decide+kernel) V (by simp [evs,a5,a6]) (Nat.le_of_ble_eq_true V) λam back=>C 4 V (An (v:= .int .i32 ({nw with l:=true}:M4).num) V (λρ h=>da ac al (h _ _ V) (h _ _ V)) ?_);refine An (v:=C8 (BL ({nw with l:=true}:M4)&&& 1)) V (λρ h=>EN (c:=1) (m:={nw with l:=true}) ac (h _ _ V) (h _ _ V) (by decide)) (An (v:= .bool false) V (λρ h=>Yl.to (Yl.eql (h _ _ V) (h _ _ V)) (by rw [decide_eq_false (λe=>by have q:=(R7 _).1 e;cases q)])) ?_);refine C 6 V (An (v:=C8 (BL nw&&& 4)) V (λρ h=>EN (c:=4) ac (h _ _ V) (h _ _ V) (by decide)) ?_);refine C 2 V (GA (p:=((BL nw&&& 4:Nat):Int)=0) V (λc=>?_) (λc=>?_))
 .have ap:=(Iq nw).1 c;rw [if_neg (by rw [ap];exact Bool.false_ne_true)];refine C 6 V ?_;refine II ?_;refine EU [(0,.pointer (some F.uA)),(4,.int .i32 nw.num)] V ?_;refine WT λaq av=>?_;have a8:(if nw.k=false/\nw.w≠0 then LP.Fe nw else .Fz)=Je nw:=by unfold Je;rw [al,ap];simp
  rw [a8];refine Wg (P:=Tryz.prog) (F:=F) (s:=s) (kk:=kk) (ph:=λm=>LP.Fe m) (ok:=Dp) (head:=λ(X:Ph->GP) (a:M4)=>JL (A4 Tryz.prog false) (X (.lk kk (Je a))) (base 120) Tryz.f120.ntmps ([(0,.pointer (some F.uA)),(4,.int .i32 (a:M4).num)]) [] aq (am::cs) s) ?_ nw a7;intro Y bx aw hC old ay;have K:Cw old:=ay.Cw;show JL (A4 Tryz.prog false) (Y (.lk kk (Je old))) (base 120) Tryz.f120.ntmps [(0,.pointer (some F.uA)),(4,.int .i32 old.num)] [] aq (am::cs) s;rw [av];refine C 5 V (An (v:=C8 old.w) V (λρ h=>Jj K (h _ _ V) (h _ _ V)) ?_);refine C 2 V (MX (q:=(old.w:Int)=0) (i:=17) V (λc2=>?_) (λc2=>?_))
  .have O:Je old= .Fz:=by unfold Je;rw [if_neg (λe=>e.2.2.2 (by omega))]
   refine C 6 V ?_;rw [O];exact JL.ret V V (BK.none Tryz.func120 V) (back _ _ _ _ (OC (λg s=>aw _ g s) h))
  .refine An (v:= .int .i32 (old:M4).num) V (λρ h=>Yl.move (h _ _ V)) (An (v:=C8 (BL old&&& 7)) V (λρ h=>EN (c:=7) K (h _ _ V) (h _ _ V) (by decide)) ?_);refine C 3 V (GA (p:=((BL old&&& 7:Nat):Int)≠0) V (λc3=>?_) (λc3=>?_))
   .have O:Je old= .Fz:=by unfold Je;rw [if_neg (λe=>c3 ((WA old).2 ⟨e.1,e.2.1,e.2.2.1⟩))]
    rw [O];exact JL.ret V V (BK.none Tryz.func120 V) (back _ _ _ _ (OC (λg s=>aw _ g s) h))
   .have a9:=(WA old).1 (Decidable.not_not.1 c3);obtain⟨l0,bz,b0,w0⟩:=old;obtain⟨z1,az,a0⟩:=a9;simp only at z1 az a0 c2;subst z1 az a0;have a1:w0≠0:=by omega
    have O:Je ⟨false,false,false,w0⟩= .Fe ⟨false,false,false,w0⟩:=by unfold Je;rw [if_pos ⟨rfl,rfl,rfl,a1⟩]
    rw [O];refine C 4 V (An (v:= .int .i32 (⟨false,false,false,w0 - 1⟩:M4).num) V (λρ h=>df (m:=⟨false,false,false,w0⟩) K a1 (h _ _ V) (h _ _ V)) ?_);refine An (v:= .int .i32 (⟨false,true,false,w0 - 1⟩:M4).num) V (λρ h=>Pu (c:=2) (m:=⟨false,false,false,w0 - 1⟩) (by unfold Cw at K ⊢;simp only at K ⊢;omega) (by decide) (Sz _) V (h _ _ V) (h _ _ V)) (C 7 V ?_);refine JL.uA V V (C 2 V ?_);refine λT bb=>(A4 Tryz.prog false).stop (hC ⟨false,false,false,w0⟩ _ ay λX b1 be a2 bi bn=>?_);refine Q1 (kk:=kk) (p:= .Fe ⟨false,false,false,w0⟩) (old:=⟨false,false,false,w0⟩) (nw:=⟨false,true,false,w0 - 1⟩) be U V V V V V PQ V V V (λq bo=>⟨some (.Fv false),by simp [Fam.B9],?_⟩) (λm q hm bo=>⟨some .HP,by simp [Fam.B9,hm],?_⟩) T bb
    .refine JL.done (C 5 V ?_);refine An (v:= .pointer (some F.qA)) V (λρ h=>Ft (a:=F.uA) 0 1 Tryz.underlying106 Ob V V V (h _ _ V)) (TE (kk:=kk) (st:=false) a2 U V V V V Vx V V ?_);exact JL.done (JL.ret V V (BK.none Tryz.func120 V) (back _ _ _ _ (OC (λg s=>bi _ g s) h)))
    .refine JL.done (C 5 V ?_);refine JL.uA V V (HE (kk:=kk) (p:= .HP) a2 U V V V V V Hx iM V λag b2 bv=>⟨some (Je ag),List.mem_singleton.2 V,?_⟩);refine C 3 V (JL.again ?_);rw [← av];exact EU [(0,.pointer (some F.uA)),(4,.int .i32 ag.num)] V (bn ag bv)
 .have bw:nw.s=true:=by rcases Bool.eq_false_or_eq_true nw.s with hh | hh;exact hh;exact absurd ((Iq nw).2 hh) c
  rw [if_pos bw];refine C 3 V (An (v:= .pointer (some F.qA)) V (λρ h=>Ft (a:=F.uA) 0 1 Tryz.underlying106 Ob V V V (h _ _ V)) ?_);refine TE (kk:=kk) (st:=true) Dg.stop U V V V V Vx V V (JL.done ?_);exact JL.fin V V (BK.none Tryz.func120 V) (back _ _ _ _ h)
set_option maxHeartbeats 4000000 in
theorem Xw{F:Fam}{n:Nat}{L:Env}{ds:Ld_}{k:Li_}{cs:Lf_}{s:St}{b:Frame}{ops:Ao_}{i:Nat}{rest:List Nat}{d:Option Tmp}{x:Operand}{ats:Array TypeId}{ty:TypeId}{pp:String}{af:Ae_}{g:On_}{kk:Nat}(K:s.q=false)(al:ops[i]? =some ⟨d,.call ⟨.value (.func 87),#[x],ats⟩,ty,pp,af,g⟩)(hw:AY L ops ⟨d,.call ⟨.value (.func 87),#[x],ats⟩,ty,pp,af,g⟩=some true)(am:((b.kind != .early)&&Bu n d)=true)(ap:ev L x=some (.pointer (some F.uA)))
  (h:JL (A4 Tryz.prog false) (Stop Tryz.prog F .Iu) b n (AB L d (.tuple #[])) ds (.inRegion ops rest::k) cs s):
  JL (A4 Tryz.prog false) (Stop Tryz.prog F (.lk kk .G8)) b n L ds (.inRegion ops (i::rest)::k) cs s:=by
 refine HD (vs:= [.pointer (some F.uA)]) al hw am Tryz.func87 (by decide+kernel) V (by simp [evs,ap]) (Nat.le_of_ble_eq_true V) λa0 back=>C 6 V (JL.uA V V ?_);refine HE (kk:=kk) (p:= .G8) Dg.stop K V V V V V Hx iJ V λa1 a2 a3=>⟨some .KW,List.mem_singleton.2 V,?_⟩;refine C 4 V (QG (kk:=kk) (p:= .KW) Dg.stop K V (λ_ _=>V) V V V V Tryz.underlying208 Tryz.underlying135 Rd V ?_);refine Rf (kk:=kk) (p:= .KV) (ad:=F.uA) Dg.stop K V (λ_ _=>V) V V V V (by simp) jw V V (C 2 V ?_);refine Mg (kk:=kk) (p:= .KP) Dg.stop K V (λ_ _=>V) V V V V (by simp) WB (C 5 V ?_);refine JL.uA V V (HB (kk:=kk) (p:= .It) (dl:= -1) Dg.stop K V V V V V HI V V λm q Y=>⟨{m with l:=false},some (Sn m),?_,List.mem_singleton.2 V,?_⟩)
 .obtain⟨aq,O,U,w3⟩:=m;obtain⟨Z,av⟩:=Y;simp only at Z;subst Z;have a4:w3<134217728:=av;have a5:=Bool.toNat_le O;have a6:=Bool.toNat_le U;have e:(⟨true,O,U,w3⟩:M4).num+(-1)=((2*O.toNat+4*U.toNat+8*w3:Nat):Int):=by simp only [M4.num,Bool.toNat_true];omega
  rw [e,FP (by omega)];simp only [M4.num,Bool.toNat_false];omega
 .have ac:Dp m:=Y.2;have aw:Cw ({m with l:=false}:M4):=(show Dp ({m with l:=false}:M4) from ac).Cw;refine C 8 V ?_;refine GA (p:=({m with l:=false}:M4).num≠0) V (λc=>?_) (λc=>?_)
  .refine JL.region (C 2 V ?_);refine Yf (kk:=kk) (nw:={m with l:=false}) K V V V V V V ac aw (C 2 V ?_);refine Mg (kk:=kk) (p:= .Fz) Dg.stop K V (λ_ _=>V) V V V V (by simp) P5 (JL.done ?_);exact JL.fin V V (BK.none Tryz.func87 V) (back _ _ _ _ h)
  .have ay:({m with l:=false}:M4).num=0:=Decidable.not_not.1 c;have ag:m.k=false/\m.s=false/\m.w=0:=by
    obtain⟨aq,O,U,w3⟩:=m;cases O <;> cases U <;> simp [M4.num] at ay ⊢ <;> omega
   have az:Sn m= .Fz:=by unfold Sn;rw [if_neg (by rw [ag.2.1];exact Bool.false_ne_true),if_neg (λe=>e.2 ag.2.2)]
   rw [az];refine C 2 V (Mg (kk:=kk) (p:= .Fz) Dg.stop K V (λ_ _=>V) V V V V (by simp) P5 ?_);exact JL.done (JL.fin V V (BK.none Tryz.func87 V) (back _ _ _ _ h))
theorem JO.de{F:Fam}{n:Nat}{M:Env}{ds:Ld_}{cs:Lf_}{s:St}{b:Frame}{kk:Nat}(K:b.roundOf=none)(O:s.q=false)(h:JO (A4 Tryz.prog false) (Stop Tryz.prog F .Iu) b n M ds cs s):
  JO (A4 Tryz.prog false) (Stop Tryz.prog F (.lk kk .G8)) b n M (dcall 58 #[.pointer (some F.uA)]::ds) cs s:=by
 refine JO.enter (vs:= [.pointer (some F.uA)]) K Tryz.func58 (by decide+kernel) V (Nat.le_of_ble_eq_true V) λT U todo=>C 3 V (An (v:= .pointer (some F.uA)) V (λρ h=>Ft (a:=F.uA) 1 0 Tryz.underlying108 (AX Tryz.type106) V V V (h _ _ V)) ?_);refine Xw (kk:=kk) O V V V V (JL.done ?_);exact JL.out V (JO.leaveD V Tryz.func58 V (.inl V) (h T U todo))
end Pal
namespace Pal
open Go Go.Conc
open Go.ConcN (upd)
variable {ops:Ao_}{i:Nat}{rest:List Nat}{d:Option Tmp}{f:FuncId}{y z:Operand}{ats:Array TypeId}{ty t u tw:TypeId}{pp:String}{af:Ae_}{g:On_}{kk:Nat}
section
variable {P:Program}{F:Fam}{n:Nat}{L L':Env}{ds:Ld_}{k:Li_}{cs:Lf_}{s s':St}{b:Frame}
variable {x:Operand}
theorem XF{m:Nat}(h:By P t=some m)(w:World):(Go.sizeOf t).run P w= .ok m w:=by
 unfold By at h;simp only [Go.sizeOf,typeInfo,bind,Sem.bind,program,Sem.run];cases hi:P.info? t with
 | none=>rw [hi] at h;cases h
 | some j=>rw [hi] at h;simp at h;subst h;rfl
theorem cm{w:World}{K:Nat->Value}(h:F.FD w K)(O:kk<F.n):w.cell? ⟨F.fd,kk,none⟩=some (K kk)/\w.frozen? ⟨F.fd,kk,none⟩=false:=by
 unfold Fam.FD Fam.Jf at h;constructor
 .simp [World.cell?,h,O]
 .simp [World.frozen?,h]
theorem Yo{w:World}{O:Nat->Value}{v:Value}(h:F.FD w O)(ac:kk<F.n):w.setCell ⟨F.fd,kk,none⟩ v=F.HQ w (upd O kk v):=by
 unfold Fam.HQ World.setCell;congr 1;apply Array.ext_getElem?;intro i;unfold Fam.FD Fam.Jf at h;rw [Array.getElem?_modify];have U:F.fd<w.heap.size:=by
  rcases Nat.lt_or_ge F.fd w.heap.size with K | K
  .exact K
  .simp [Array.getElem?_eq_none K] at h
 by_cases e:F.fd=i
 .subst e;rw [Array.getElem?_setIfInBounds_self_of_lt U,h];simp only [if_true,Option.map_some,Fam.Jf,Option.some.injEq,Obj.cells.injEq,and_true];apply Array.ext
  .simp
  .intro j ag Y;by_cases e2:kk=j
   .subst e2;simp [upd]
   .have Z:¬j=kk:=λe=>e2 e.symm;simp [upd,Z];rw [Array.getElem_setIfInBounds (by simpa using Y),if_neg e2];simp
 .rw [Array.getElem?_setIfInBounds_ne e,if_neg e]
theorem XZ{X:Ph->GP}(av:Dg P F X){a:Option Addr}{l c:Nat}(aw:s.q=false)(Y:kk<F.n)
  (ay:ops[i]? =some ⟨d,.store t x y,ty,pp,af,g⟩) (Z:b.roundOf=none) (hw:AY L ops ⟨d,.store t x y,ty,pp,af,g⟩=some true) (U:((b.kind != .early)&&Bu n d)=true)
  (az:By P t=some 1) (a0:(P.funcs[b.fn]?).any (·.norace)=false) (a1:ev L x=some (.pointer (some ⟨F.fd,kk,none⟩))) (a2:ev L y=some (.slice a l c)) (hm:F.msg kk (.slice a l c) s.E)
  (h:JL (A4 P false) (X (.lk kk .G8)) b n (AB L d undef) ds (.inRegion ops rest::k) cs s):
  JL (A4 P false) (X (.lk kk .FY)) b n L ds (.inRegion ops (i::rest)::k) cs s:=λT K=>by
 simp only [Bool.and_eq_true] at U
 refine(A4 P _).stop (av _ _ _ {
  run:=rfl,offers:=rfl,quiet:=(by simp [Fam.CY]),live:=λ_=>aw,act:=(by simp [Fam.act]),Jy:=(by simp),FB:=(by simp),go:=(by simp),lk:=λk' l e a3=>by cases e;exact absurd rfl a3
  CG:=(by simp),store:=λk' e=>?_,fin:=(by simp)})
 cases e
 refine⟨_,hm,G (fr b (CU T d undef) ds (.inRegion ops rest::k)) cs,rfl,λw a4 ac=>?_,h _ (K.put U.2 _)⟩
 obtain⟨c1,c2⟩:=cm ac Y
 have ag:execOp (⟨T,ds⟩:Act).eval ⟨d,.store t x y,ty,pp,af,g⟩=(do Instr.storeAt t (.pointer (some ⟨F.fd,kk,none⟩)) (.slice a l c);pure Next.skip):=by
  rw [L6];simp only [execOp,K.ev a1,K.ev a2]
 have al:(Value.slice a l c).cells= #[.slice a l c]:=rfl;have am:(Value.slice a l c).oneCell'=true:=rfl;have ap:(Addr.add ⟨F.fd,kk,none⟩ 0)=⟨F.fd,kk,none⟩:=by rw [Ek rfl];rfl
 have aq:=XF (P:=P) az w;have O:=run_store P w ⟨F.fd,kk,none⟩ (.slice a l c) .plain am;rw [c1] at O;simp only [c2,Bool.false_eq_true,if_false] at O;rw [BW Z,BW Z,stepG_none (a:=⟨T,ds⟩) (w':=F.HQ w (upd a4 kk (.slice a l c))) ay (Ci K hw) (by simpa using U.1) (by
  rw [ag]
  simp [Instr.storeAt,Instr.sureAddr,storeVar,al,aq,storeCells,ap,O,Yo ac Y,Result.andThen]),Ex]
 have e2:listed P b.fn ⟨T,ds⟩ ⟨d,.store t x y,ty,pp,af,g⟩ w= #[⟨.cell ⟨F.fd,kk,none⟩,true,false⟩]:=by
  unfold listed;rw [ag];have a5:=events_store (P:=P) (w:=w) (es:= #[]) ⟨F.fd,kk,none⟩ (.slice a l c) .plain am;have a6:(do Instr.storeAt t (.pointer (some ⟨F.fd,kk,none⟩)) (.slice a l c);pure Next.skip:Sem Next).events P w #[]= #[⟨.cell ⟨F.fd,kk,none⟩,true,false⟩]:=by
   simp [Instr.storeAt,Instr.sureAddr,storeVar,al,aq,storeCells,ap,O,c1,c2,a5,Result.evThen]
  rw [a6,seen_def];simp [seenStep,a0]
 rw [e2]
end
end Pal
namespace Pal
open Go Go.Conc Go.Proofs
open Go.Proofs.Tryz
open Go.Conc.Lib Go.ConcR.Gen
theorem ja:(Tryz.prog.funcs[53]?).any (·.norace)=false:=by rw [func53];rfl
def Jz(fu_:Nat)(K:Bh)(p:AG)(j:Nat):Option (List Int):=
 (f120 fu_ K).bind λO=>
 (f119 fu_ ([O]:List (List (AR))) ((j:Nat):Int) p ([]:List ((Nat×BC)×Bool))).bind λU=>
 some U.1
set_option maxHeartbeats 1000000 in
theorem fO{F:Fam}{j:Nat}{E:LH}{ap a1 aq:Aq}{Z c2 av ac op ag al am oi kf off:Nat}{p:AG}{O:Bh}(a3:At E ac op [.slice ap p.length Z])(a4:Ao Az E ap Z p)(a5:At E ag al [sV a1 O.1 c2,sV aq O.2 av])(a6:Ao (rL rI) E a1 c2 O.1)(a7:Ao Az E aq av O.2)(hi:At E am oi [iV ((j:Nat):Int)])(a8:At E kf off [.slice (some ⟨F.fd,0,none⟩) F.n F.n]){fu_:Nat}{r:List Int}(az:Jz fu_ O p j=some r)(a0:j<F.n)(a9:∀E' a c,Le E E'->Ao rI E' a c r->(r= []->a=none)->F.msg j (.slice a r.length c) E'):
  Way Tryz.prog false (Stop Tryz.prog F (F.start j)) (born Tryz.prog ⟨.fn (.func 53) [.pointer (some F.sA),Al ac op,Al ag al,Al am oi,.pointer (some F.uA),Al kf off].toArray,#[]⟩) ⟨E,λ_=>none,false⟩:=by
 refine ZO (fn:=Tryz.f53) (vs:= [.pointer (some F.sA),Al ac op,Al ag al,Al am oi,.pointer (some F.uA),Al kf off]) func53 (by decide+kernel) V (by simp) (Nat.le_of_ble_eq_true V) ?_;obtain⟨H,bb⟩:∃H:LH,H=λ_=>none:=⟨_,V⟩;rw [← bb];have be:Au E H []:=trivial;refine(?_:JL (A4 Tryz.prog false) (Stop Tryz.prog F (.lk j .Gp)) (baseD 53) Tryz.f53.ntmps (GB 0 [.pointer (some F.sA),Al ac op,Al ag al,Al am oi,.pointer (some F.uA),Al kf off]) [] [.code _] [Mv Tryz.prog] (Ak E H []));unfold Jz at az;refine C 2 V (JL.defer (vs:= [.pointer (some F.sA)]) V V V V V ?_);refine C 3 V (Dh 0 a3 BA V V V ?_);refine JS.makeMap V V V be λr1 bi=>An (v:= .agg #[sV ap p Z,.map (some r1)]) V (λρ h=>C4 [(0,1),(1,1)] h (Dx type119) underlying119 ⟨V,AX type79,V,AX type117,trivial⟩ V V) (JS.box (v:= .agg #[sV ap p Z,.map (some r1)]) V V V bi V λct bn=>?_);refine C 3 V (Df 1 bn V λcw K bo bv=>?_);refine Fl 5 λaw=>Dj 0 aw V V (Jq 1 aw (a5.M K) FL DY V V V ?_);refine Eu 4 aw 0 (hi.M K) Ba V V V V ?_;obtain⟨a2,bw,bx⟩:=bs az;refine JG.call (i:=2) (vs:= [.agg #[sV a1 O.1 c2,sV aq O.2 av]]) (fa (a6.M K) (a7.M K) bw) (by decide+kernel) V V V (A5 func56 V) V bv ?_;rintro _ cy _ U ⟨bz,b0,rfl,rfl,b1⟩ b2;refine JG.one (i:=3) V (by decide+kernel) (Take.Fx (pp:=(rL (rM rI false rI false))) [sV bz a2 b0] ([a2]:List (List AR)) b2 V V V underlying124 Kp N7 (by decide) V V V ⟨⟨_,_,V,b1⟩,trivial⟩ λc0 c1 b3 b4=>?_);refine CZ [5,6] (Cp 3 b3 b4 V λc3 Y b5 b6=>?_);obtain⟨ca,cc,ce⟩:=bs bx;refine Cc 0 (gA b5 (bo.M (U.Ad Y)) (a4.M ((K.Ad U).Ad Y)) BO.nil cc) V V (A5 func55 V) b6 V ?_;rintro _ c4 _ ay ⟨c5,c6,c7,rfl,rfl,ci,co,c8⟩ c9;refine C 3 V ?_;have cp:r=ca.1:=(Option.some.inj ce).symm;subst cp;refine JL.region (YG (kk:=j) V V V V V ?_);refine C 3 V (JL.defer (vs:= [.pointer (some F.uA)]) V V V V V ?_);refine C 2 V (Dh 0 (a8.M (((K.Ad U).Ad Y).Ad ay)) FK V V V ?_);refine Dh 0 (hi.M (((K.Ad U).Ad Y).Ad ay)) Ba V V V (C 1 V ?_);refine An (v:= Al F.fd j) V (λρ h=>Yl.to (EI (xs:=List.replicate F.n ()) (m:=((j:Nat):Int)) (xv:=()) (List.length_replicate) (by simp [ix,a0]) underlying25 GV (h _ _ V) (h _ _ V)) (by show Al F.fd (j*1)=_;rw [Nat.mul_one])) (XZ (kk:=j) Dg.stop V a0 V V V V GV ja V V (a9 _ _ _ (((K.Ad U).Ad Y).Ad ay) ci co) ?_);exact JL.done (JL.out V (JO.de (kk:=j) V V (JO.iw Tryz.Ls V V (JO.leaveD V func53 V (.inr V) XS))))
theorem OL.eZ{e:TypeId}{E:LH}{r c:Nat}{seg:Seg}{xs:Lv_}(h:OL e rV E (A8 r) c seg xs)(Y:c=xs.length):seg= [(r,.cells xs.toArray e (0,0))]:=by
 obtain⟨wss,ag,K,Z⟩:=h;rcases ag with⟨al,_⟩ | ⟨bk,f,am,e2,ac,ap,O⟩
 .cases al
 cases am;have hw:wss=xs.map λx=> [x]:=by
  apply List.ext_getElem?;intro i;rw [List.getElem?_map];cases U:xs[i]? with
  | none=>rw [List.getElem?_eq_none (by rw [K];exact List.getElem?_eq_none_iff.1 U)];rfl
  | some x=>
   have hi:i<wss.length:=by rw [K];exact(List.getElem?_eq_some_iff.1 U).1
   have:=(Z i x wss[i] U (List.getElem?_eq_getElem hi)).1;rw [List.getElem?_eq_getElem hi,this];rfl
 have aq:wss.flatten=xs:=by
  rw [hw];clear hw O Z K ac ap Y
  induction xs with
  | nil=>rfl
  | cons x xs av=>simp [av]
 rw [aq] at O;have ay:rV.n=1:=V;have aw:f.toList=xs:=by
  rw [O];rw [List.take_of_length_le (by rw [Array.length_toList,ac,Y];exact Nat.le_refl _)]
 rw [e2,← aw]
noncomputable def LD:Code:=match(Tryz.f34.body).bind (J4 0) with | some (.loop c)=>c | _=> .skip
noncomputable def WW:Code:=match(Tryz.f34.body).bind (J4 2) with | some (.loop c)=>c | _=> .skip
set_option maxHeartbeats 1000000 in
theorem bM{F:Fam}{n:Nat}(aw:F.n=n)(bx:0<n)(bz:n<=1000){E:LH}{ap a1 al:Aq}{am c2 aq:Nat}{p:AG}{O:Bh}(ay:Ao Az E ap am p)(az:Ao (rL rI) E a1 c2 O.1)(a0:Ao Az E al aq O.2)(hlen:p.length=n){Y Z kf:Nat}(a2:At E Y 0 [.slice ap p.length am])(a3:At E Z 0 [sV a1 O.1 c2,sV al O.2 aq])(a4:At E kf 0 [.slice (some ⟨F.fd,0,none⟩) F.n F.n]){fu_:Nat}{xs:Nat->List Int}(a5:∀j,j<n->Jz fu_ O p j=some (xs j))(a6:∀j,j<n->∀E' a c,Ao rI E' a c (xs j)->(xs j= []->a=none)->F.msg j (.slice a (xs j).length c) E'){j:Nat}(ac:j<n){ag H:LH}(hle:Le E ag)(a7:Au ag H []){k:Li_}{cs:Lf_}
  (h:∀U,Le E U->Au U H []->JL (A4 Tryz.prog true) (Stop Tryz.prog F (F.EX j)) (base 34) Tryz.f34.ntmps [(2,Al Z 0),(3,Al Y 0),(6,.pointer (some F.uA)),(7,.pointer (some F.sA)),(8,Al kf 0),(19,iV (p.length:Int)),(20,iV ((j+1:Nat):Int))] [] (.inLoop LD::k) cs (Ak U H [])):
  JL (A4 Tryz.prog true) (Stop Tryz.prog F (.GH j)) (base 34) Tryz.f34.ntmps [(2,Al Z 0),(3,Al Y 0),(6,.pointer (some F.uA)),(7,.pointer (some F.sA)),(8,Al kf 0),(19,iV (p.length:Int)),(20,iV ((j:Nat):Int))] [] (.code LD:: .inLoop LD::k) cs (Ak ag H []):=by
 refine C 2 V (An (v:= .bool true) V (λρ h=>Yl.to (Yl.lss (h _ _ V) (h _ _ V)) (by rw [decide_eq_true (show((j:Nat):Int)<(p.length:Int) by omega)])) ?_);refine C 9 V (B2 a7 CR λrn a8=>?_);refine JS.sx 0 a8 AH λa9=>?_;refine Df 0 a9 V λU bb be bi=>IP (S':= []) (by simp) bi λbn=>?_;have K:=hle.trans bb;refine C 3 V (YA Tryz.Ls V V V V V V ?_);refine C 2 V (An (v:= .func (.func 53) #[] ([.pointer (some F.sA),Al Y 0,Al Z 0,Al rn 0,.pointer (some F.uA),Al kf 0]:Lv_).toArray) V (λρ h=>L5 (by simp) (by simp [h (.tmp 7) _ rfl,h (.tmp 3) _ rfl,h (.tmp 2) _ rfl,h (.tmp 9) _ rfl,h (.tmp 6) _ rfl,h (.tmp 8) _ rfl])) ?_);have av:=fO (F:=F) (j:=j) (a2.M K) (ay.M K) (a3.M K) (az.M K) (a0.M K) be (a4.M K) (a5 j ac) (by rw [aw];exact ac) (λE' a c _ bo bv=>a6 j ac E' a c bo bv);refine ir (fi:= #[]) V V V V V V V (by first | exact av | (simp only [List.append_toArray,List.nil_append,Array.append_empty,Array.empty_append];exact av)) ?_
 refine C 3 V ?_;have bw:Av (((j:Nat):Int)+1)=some (((j+1:Nat)):Int):=by unfold Av;rw [if_pos (by omega)];simp
 refine Bv bw V V V (C 2 V ?_);exact AF (h U K bn) V
theorem XU{F:Fam}{n:Nat}(Y:F.n=n)(aw:0<n)(ay:n<=1000){E:LH}{ap a1 ag:Aq}{al c2 am:Nat}{p:AG}{O:Bh}(az:Ao Az E ap al p)(a0:Ao (rL rI) E a1 c2 O.1)(a2:Ao Az E ag am O.2)(hlen:p.length=n){Z ac kf:Nat}(a3:At E Z 0 [.slice ap p.length al])(a4:At E ac 0 [sV a1 O.1 c2,sV ag O.2 am])(a5:At E kf 0 [.slice (some ⟨F.fd,0,none⟩) F.n F.n]){fu_:Nat}{xs:Nat->List Int}(a6:∀j,j<n->Jz fu_ O p j=some (xs j))(a7:∀j,j<n->∀E' a c,Ao rI E' a c (xs j)->(xs j= []->a=none)->F.msg j (.slice a (xs j).length c) E'){H:LH}{k:Li_}{cs:Lf_}
  (h:∀K,Le E K->Au K H []->JL (A4 Tryz.prog true) (Stop Tryz.prog F .DJ) (base 34) Tryz.f34.ntmps [(2,Al ac 0),(3,Al Z 0),(6,.pointer (some F.uA)),(7,.pointer (some F.sA)),(8,Al kf 0),(19,iV (p.length:Int)),(20,iV (p.length:Int))] [] (.code LD:: .inLoop LD::k) cs (Ak K H [])):
  ∀(m j:Nat),j+m=n->0<m->∀U,Le E U->Au U H []->JL (A4 Tryz.prog true) (Stop Tryz.prog F (.GH j)) (base 34) Tryz.f34.ntmps [(2,Al ac 0),(3,Al Z 0),(6,.pointer (some F.uA)),(7,.pointer (some F.sA)),(8,Al kf 0),(19,iV (p.length:Int)),(20,iV ((j:Nat):Int))] [] (.code LD:: .inLoop LD::k) cs (Ak U H []):=by
 intro m
 induction m with
 | zero=>intro j _ a8;cases a8
 | succ m a9=>
  intro j bi _ U hle bb;refine bM Y aw ay az a0 a2 hlen a3 a4 a5 a6 a7 (by omega) hle bb λK aq av=>JL.again ?_;by_cases hm:m=0
  .subst hm;have be:j+1=F.n:=by rw [Y];omega
   have e:F.EX j= .DJ:=by unfold Fam.EX;rw [if_pos be]
   rw [e];have e2:((j+1:Nat):Int)=(p.length:Int):=by rw [hlen];omega
   rw [e2];exact h K aq av
  .have e:F.EX j= .GH (j+1):=by unfold Fam.EX;rw [if_neg (by rw [Y];omega)]
   rw [e];exact a9 (j+1) (by omega) (by omega) K aq av
def NA(fu_:Nat)(K:Bh)(p:AG)(j:Nat):List Int:=(Jz fu_ K p j).getD []
def Nk(n:Nat)(xs:Nat->List Int):(List Int)×Bool:=match(List.range n).find? (λj=> !(xs j).isEmpty) with | some j=>(xs j,true) | none=>([],false)
def f77(fu_:Nat)(K:Bh)(p:AG):Option ((List Int)×Bool):= if p.length=0 then some ([],true) else if p.length<=1000/\(List.range p.length).all (λj=>(Jz fu_ K p j).isSome)=true then some (Nk p.length (NA fu_ K p)) else none
theorem Y4{n:Nat}{xs:Nat->List Int}{i:Nat}(hi:i<n)(K:xs i≠ [])(O:∀k,k<i->xs k= []):Nk n xs=(xs i,true):=by
 unfold Nk;have:(List.range n).find? (λj=> !(xs j).isEmpty)=some i:=by
  rw [List.find?_range_eq_some];refine⟨by simp [K],by simpa using hi,λj U=>by simp [O j U]⟩
 rw [this]
theorem TR{n:Nat}{xs:Nat->List Int}(K:∀k,k<n->xs k= []):Nk n xs=([],false):=by
 unfold Nk;have:(List.range n).find? (λj=> !(xs j).isEmpty)=none:=by
  rw [List.find?_eq_none];intro j O;simp [K j (List.mem_range.1 O)]
 rw [this]
theorem bV{E:LH}{a:Aq}{c:Nat}{xs:List Int}(h:Ao rI E a c xs)(K:xs≠ []):a.isNone=false:=by
 rcases h.2 with⟨e,_⟩ | ⟨bk,off,e,_⟩
 .exact absurd e K
 .rw [e];rfl
set_option maxHeartbeats 1000000 in
theorem ei{J:Judge Tryz.prog}{Q:Gs_}{Y:Frame}{cs:Lf_}{fd n:Nat}{f:Nat->Value}{xs:Nat->List Int}(ay:n<=1000){E H:LH}{k:Li_}(ag:Au E H [[(fd,.cells (Array.ofFn λi:Fin n=>f i) 22 (0,0))]])(hm:∀k,k<n->∃a c,f k= .slice a (xs k).length c/\Ao rI E a c (xs k)/\(xs k= []->a=none))
  (al:∀i a c L',i<n->xs i≠ []->(∀k,k<i->xs k= [])->Ao rI E a c (xs i)->look L' 4=some (.slice a (xs i).length c)->look L' 5=some (.bool true)->∀k',JL J Q (base 34) Tryz.f34.ntmps L' [] (.code .ret::k') (Y::cs) (Ak E H [[(fd,.cells (Array.ofFn λi:Fin n=>f i) 22 (0,0))]]))
  (am:(∀k,k<n->xs k= [])->JL J Q (base 34) Tryz.f34.ntmps [] [] k (Y::cs) (Ak E H [[(fd,.cells (Array.ofFn λi:Fin n=>f i) 22 (0,0))]])):
  ∀m i,i+m=n->(∀k,k<i->xs k= [])->JL J Q (base 34) Tryz.f34.ntmps [(27,.slice (A8 fd) n n),(28,iV (n:Int)),(29,iV (i:Int))] [] (.code WW:: .inLoop WW:: .inBlock 2::k) (Y::cs) (Ak E H [[(fd,.cells (Array.ofFn λi:Fin n=>f i) 22 (0,0))]]):=by
 intro m
 induction m with
 | zero=>
  intro i hi K;refine C 2 V (An (v:= .bool false) V (λρ h=>Yl.to (Yl.lss (h _ _ V) (h _ _ V)) (by rw [decide_eq_false (show ¬((i:Int)<(n:Int)) by omega)])) ?_);refine C 4 V (EU [] V ?_);exact am λk az=>K k (by omega)
 | succ m ap=>
  intro i hi K;have O:i<n:=by omega
  obtain⟨a,c,aq,ac,av⟩:=hm i O;refine C 2 V (An (v:= .bool true) V (λρ h=>Yl.to (Yl.lss (h _ _ V) (h _ _ V)) (by rw [decide_eq_true (show(i:Int)<(n:Int) by omega)])) ?_);refine C 8 V (An (v:= Al fd i) V (λρ h=>Yl.to (EI (xs:=List.replicate n ()) (m:=((i:Nat):Int)) (xv:=()) (List.length_replicate) (by simp [ix,O]) underlying25 GV (h _ _ V) (h _ _ V)) (by show Al fd (i*1)=_;rw [Nat.mul_one])) ?_);refine An (v:= .slice a (xs i).length c) V (λρ h=>Yl.load Kl (h _ _ V) (B5 (j:=0) (off:=i) ag V (by simp [O,aq]))) (C 5 V ?_);refine An (v:= .bool (!a.isNone)) V (λρ h=>Zt underlying22 (h _ _ V) (h _ _ V)) (JL.done ?_);by_cases U:xs i= []
  .have Z:(!a.isNone)=false:=by rw [av U];rfl
   rw [Z];refine C 4 V ?_;have aw:Av (((i:Nat):Int)+1)=some (((i+1:Nat)):Int):=by unfold Av;rw [if_pos (by omega)];simp
   refine Bv aw V V V ?_;refine C 2 V ?_;refine JL.again ?_;refine EH ?_ (ap (i+1) (by omega) (λk a0=>by
    by_cases e:k=i
    .subst e;exact U
    .exact K k (by omega)))
   exact⟨V,V,V,trivial⟩
  .have Z:(!a.isNone)=true:=by rw [bV ac U];rfl
   rw [Z];exact C 7 V (al i a c _ O U K ac V V _)
set_option maxHeartbeats 2000000 in
theorem Ww{E:LH}{a1:Aq}{c2:Nat}{a8:Aq}{a9:Nat}{ap:Aq}{bb:Nat}{O:Bh}{p:AG}(cc:Ao (rL rI) E a1 c2 O.1)(ce:Ao Az E a8 a9 O.2)(ci:Ao Az E ap bb p){fu_:Nat}{r:(List Int)×Bool}(U:f77 fu_ O p=some r):
  AT (GY Tryz.prog) 34 [.agg #[sV a1 O.1 c2,sV a8 O.2 a9],sV ap p bb] E [] (λw E' B'=>∃(be:Aq) (bi:Nat),w= .tuple #[sV be r.1 bi,.bool r.2]/\B'= []/\Ao rI E' be bi r.1):=by
 refine Mn func34 V V λQ ey cs H co Y=>?_;unfold f77 at U;refine C 2 V (DG co λcp eA ct cw cy=>?_);refine DG cy λc0 eC bn am c1=>?_;refine IP (S':= []) (by simp) c1 λbo=>?_;have bv:=ct.Ad bn;refine C 6 V (Dh 0 am BA V V V ?_);refine JL.ln underlying79 V V V (C 2 V ?_);refine GA (p:=(p.length:Int)=0) V (λc3=>?_) (λc3=>?_)
 .rw [if_pos (by omega)] at U;have Z:=(Option.some.inj U).symm;subst Z;refine C 5 V (A2 func34 V V ?_);exact Y _ _ _ _ bv V ⟨none,0,V,V,Ao.nil⟩ bo
 rw [if_neg (by omega)] at U;split at U
 rotate_left
 .cases U
 rename_i hb;obtain⟨bw,c4⟩:=hb;have Z:=(Option.some.inj U).symm;have ag:∀j,j<p.length->Jz fu_ O p j=some (NA fu_ O p j):=λj az=>by
  have aq:=List.all_eq_true.1 c4 j (List.mem_range.2 az);obtain⟨x,a0⟩:=Option.isSome_iff_exists.1 aq;unfold NA;rw [a0];rfl
 generalize eN:NA fu_ O p=xs at ag Z;have bx:0<p.length:=by omega
 refine C 3 V (B2 bo (Dx type108) λmu c5=>?_);refine C 3 V (B2 c5 (Dx type114) λwg c6=>?_);refine JL.done (IP (S':= [[(mu,.cells #[.int .i32 0,.int .u32 0] 108 (0,0))],[(wg,.cells #[.int .u64 0,.int .u32 0] 114 (0,0))]]) (by simp [Value.cells]) c6 λc7=>?_);refine C 2 V (Dh 0 am BA V V V ?_);refine JL.ln underlying79 V V V ?_;have c8:Ip (p.length:Int) (Value.slice none 0 0)=some (List.replicate p.length nS):=by unfold Ip;rw [if_pos (by omega)];simp
 refine JS.make (pp:=rV) c8 V V V V V underlying25 GV (DF type22) (by decide) ML (by decide) ⟨V,V⟩ c7 λfd e0 c9 bz=>?_;have dd:=OL.eZ c9 V;subst dd;obtain⟨K,b0⟩:∃K,K=List.replicate p.length (Value.slice none 0 0):=⟨_,V⟩;have b1:(List.replicate p.length (Value.slice none 0 0)).length=p.length:=by simp
 rw [← b0] at bz b1 ⊢;rw [b1];refine B2 bz (Dx type25) λkf ea=>?_;refine JS.sx 3 ea FC λeb=>?_;refine Df 3 eb V λac av b2 ec=>IP (S':= [[(mu,.cells #[.int .i32 0,.int .u32 0] 108 (0,0))],[(wg,.cells #[.int .u64 0,.int .u32 0] 114 (0,0))],[(fd,.cells K.toArray 22 (0,0))]]) (by simp) ec λal=>?_;have aw:=bv.Ad av;refine C 4 V (Dh 0 (am.M av) BA V V V ?_);refine JL.ln underlying79 V V V (C 3 V ?_);refine II (EU [(2,Al cp 0),(3,Al c0 0),(6,.pointer (some (⟨mu,0,none⟩:Addr))),(7,.pointer (some (⟨wg,0,none⟩:Addr))),(8,Al kf 0),(19,iV (p.length:Int)),(20,iV ((0:Nat):Int))] V ?_);have b3:=Nd.iff.1 al;intro T ed;let F:Fam:=⟨wg,mu,fd,114,108,22,p.length,λkk v E=>kk<p.length/\∃a c,v= .slice a (xs kk).length c/\Ao rI E a c (xs kk)/\(xs kk= []->a=none),λg s=>(GY Tryz.prog).ok Q g s⟩;have ay:=b3.1;simp only [List.flatten_cons,List.flatten_nil,List.append_nil,List.cons_append,List.nil_append,List.map_cons,List.map_nil,List.nodup_cons,List.mem_cons,List.not_mem_nil,not_or,or_false,not_false_eq_true,and_true,List.nodup_nil] at ay;have ee:(Ak ac H [[(mu,.cells #[.int .i32 0,.int .u32 0] 108 (0,0))],[(wg,.cells #[.int .u64 0,.int .u32 0] 114 (0,0))],[(fd,.cells K.toArray 22 (0,0))]]).H fd=some (F.Jf λ_=> nS):=by
  rw [KM (j:=2) al rfl];have:(Array.ofFn λ_:Fin p.length=>Value.slice none 0 0)=K.toArray:=by
   rw [b0];apply Array.ext
   .simp
   .intro i aq b4;simp
  show some (Obj.cells K.toArray 22 (0,0))=some (Obj.cells (Array.ofFn λ_:Fin p.length=>Value.slice none 0 0) 22 (0,0));rw [this]
 refine cF F (f₀:=λ_=> .slice none 0 0) (show 1<=p.length by omega) (show p.length<134217728 by omega) ?_ ay.1.1 (λe=>ay.2 e.symm) (λe=>ay.1.2 e.symm) (KM (j:=1) al V) (KM (j:=0) al V) ee ?_ (λg s h=>h)
 .rintro kk v e1 e3 ef ⟨aq,a,c,b4,a2,a3⟩;exact⟨aq,a,c,b4,a2.M ef,a3⟩
 have eg:=Yi al;show Way Tryz.prog true (Stop Tryz.prog F (.GH 0)) _ (⟨(Ak ac H [[(mu,.cells #[.int .i32 0,.int .u32 0] 108 (0,0))],[(wg,.cells #[.int .u64 0,.int .u32 0] 114 (0,0))],[(fd,.cells K.toArray 22 (0,0))]]).E,Ky (Ak ac H [[(mu,.cells #[.int .i32 0,.int .u32 0] 108 (0,0))],[(wg,.cells #[.int .u64 0,.int .u32 0] 114 (0,0))],[(fd,.cells K.toArray 22 (0,0))]]).H wg mu fd,false⟩:St);rw [show(Ak ac H [[(mu,.cells #[.int .i32 0,.int .u32 0] 108 (0,0))],[(wg,.cells #[.int .u64 0,.int .u32 0] 114 (0,0))],[(fd,.cells K.toArray 22 (0,0))]]).E=ac from rfl,eg];have ej:Au ac H []:=trivial;have ek:H fd=none:=(b3.2 (fd,.cells K.toArray 22 (0,0)) (by simp)).2;refine XU (F:=F) (n:=p.length) V bx bw (ci.M aw) (cc.M aw) (ce.M aw) V (am.M av) (cw.M (bn.Ad av)) b2 ag (λj az E' a c el em=>⟨az,a,c,V,el,em⟩) (λeo b5 e4=>?_) p.length 0 (by omega) bx ac AN ej T ed;refine C 2 V ?_;refine An (v:= .bool false) V (λρ h=>Yl.to (Yl.lss (h _ _ V) (h _ _ V)) (by rw [decide_eq_false (show ¬((p.length:Int)<(p.length:Int)) by omega)])) ?_;refine C 6 V ?_;refine JL.wait Tryz.Ls (F:=F) (show p.length<2147483648 by omega) V V V V V (Q:=Q) (λg s h=>h) λa4 f b6 ep e5 er=>?_;have a5:Au a4 H [[(fd,F.Jf f)]]:=Nd.iff.2 ⟨by simp,λq ag=>by
  simp at ag;subst ag;exact⟨ep,ek⟩⟩
 have es:(⟨a4,F.KD (Ak eo H []).H f,false⟩:St)=Ak a4 H [[(fd,F.Jf f)]]:=by
  unfold Ak mk;congr 1
 rw [es];have ca:=(aw.Ad b5).Ad b6;refine C 4 V (Dh 0 (b2.M (b5.Ad b6)) FK V V V ?_);refine JL.ln underlying25 V V V (C 3 V ?_);refine II (EU [(27,.slice (A8 fd) p.length p.length),(28,iV (p.length:Int)),(29,iV ((0:Nat):Int))] V ?_);refine ei (n:=p.length) (f:=f) (xs:=xs) bw a5 (λk Y=>?_) (λi a c L' hi a0 a6 eu a2 a3 k'=>?_) (λa6=>?_) p.length 0 (by omega) (λk Y=>absurd Y (Nat.not_lt_zero _))
 .obtain⟨_,a,c,ew,e2,ex⟩:=er k Y;exact⟨a,c,ew,e2,ex⟩
 .rw [Y4 hi a0 a6] at Z;subst Z;exact JL.ret (v:= .tuple #[.slice a (xs i).length c,.bool true]) V V (BK.list func34 V (vs:= [.slice a (xs i).length c,.bool true]) ⟨a2,a3,trivial⟩) (Tj a5 λa7=>Y _ _ _ _ ca V ⟨a,c,V,V,eu⟩ a7)
 .rw [TR a6] at Z;subst Z;refine C 5 V (A2 func34 V V ?_);exact Tj a5 λa7=>Y _ _ _ _ ca V ⟨none,0,V,V,Ao.nil⟩ a7
end Pal
namespace Pal
open Go Go.Conc Go.Proofs
open Go.Proofs.Tryz
def Px(fu_:Nat)(Z:Bh×Int)(O:AJ)(K:Int):Option (Br Int ((AG×(List Int)×Int)⊕(Unit))):= if K<(O.length:Int) then((ix O K).bind λU=> (f77 fu_ Z.1 U).bind λY=> if Y.2=true then(some (.done (Sum.inl (U,Y.1,0)))) else((Av (K+1)).bind λac=> some (.more ac))) else(some (.done (Sum.inr ())))
def f27(fu_:Nat)(p0:Bh):Option (AG×(List Int)×Int):= (f70 fu_ p0 ([])).bind λK=> if K.2≠0 then(some ([],[],K.2)) else((f71 fu_ K.1 0).bind λO=> (f76 fu_ O).bind λU=> Option.bind (iter (Px fu_ K U) fu_ 0) λY=> Sum.elim (λr=>some r) (λZ=> some ([],[],11)) Y)
theorem WC{E:LH}{a1:Aq}{c2:Nat}{al:Aq}{am:Nat}{p0:Bh}(ce:Ao (rL rI) E a1 c2 p0.1)(ci:Ao Az E al am p0.2){fu_:Nat}{r:AG×(List Int)×Int}(a8:f27 fu_ p0=some r):AT (GY Tryz.prog) 12 [.agg #[sV a1 p0.1 c2,sV al p0.2 am]] E [] (λw E' B'=>∃(a9:Aq) (bb:Nat) (be:Aq) (bi:Nat),w= .tuple #[sV a9 r.1 bb,sV be r.2.1 bi,iV r.2.2]/\B'= []/\Ao Az E' a9 bb r.1/\Ao rI E' be bi r.2.1):=by
 refine Bp func12 λQ fN cs H co a2=>?_;unfold f27 at a8;refine C 2 V (DG co λcp gc Y ct cw=>?_);refine C 6 V (Cf ct Fq De V V ?_);obtain⟨K,cy,c0⟩:=bs a8;refine B7 (Lx (ce.M Y) (ci.M Y) Ao.nil cy) V V K4 cw ?_;rintro _ ge _ a3 ⟨ap,aq,av,aw,rfl,rfl,bn,bo⟩ c1;refine C 3 V (B2 c1 H5 λbv c3=>?_);refine JS.sx 3 c3 DY λc4=>?_;refine Df 3 c4 V λgg O bw bx=>C 8 V (A1 c0 (λc5 c6=>?_) (λc5 c7=>?_))
 .refine C 7 V ?_;obtain rfl:=oi c6;exact A2 func12 V V (a2 ((Y.Ad a3).Ad O) V ⟨none,0,none,0,V,V,Ao.nil,Ao.nil⟩ bx)
 .refine C 3 V (Cf bw FL DY V V ?_);obtain⟨gh,c8,c9⟩:=bs c7;refine B7 (Sf (bn.M O) (bo.M O) c8) V V Ql bx ?_;rintro _ gt gE Z ⟨ay,az,_,rfl,rfl,dd⟩ ea;obtain⟨ac,eb,ec⟩:=bs c9;refine C 5 V (Cc 4 (dZ dd eb) V V (A5 func37 V) ea V ?_);rintro _ ed ee ag ⟨rfl,ef,a4⟩ eg;refine EH (L':= [(23,.tuple #[]),(0,.agg #[.slice a1 p0.1.length c2,.slice al p0.2.length am]),(1,Al cp 0),(2,.slice none 0 0),(3,.slice none 0 0),(4,iV 0),(13,.agg #[.slice a1 p0.1.length c2,.slice al p0.2.length am]),(14,.tuple #[.agg #[.slice ap K.1.1.length aq,.slice av K.1.2.length aw],iV K.2]),(12,.tuple #[.agg #[.slice ap K.1.1.length aq,.slice av K.1.2.length aw],iV K.2]),(15,.agg #[.slice ap K.1.1.length aq,.slice av K.1.2.length aw]),(16,iV K.2),(5,Al bv 0),(6,iV K.2),(17,iV K.2),(18,.bool (decide (K.2≠0))),(20,.agg #[.slice ap K.1.1.length aq,.slice av K.1.2.length aw]),(21,.slice ay ac.length az),(7,.slice ay ac.length az),(22,.slice ay ac.length az)]) ⟨V,V,V,V,V,V,V,V,V,V,V,V,V,V,V,V,by rw [a4];rfl,by rw [a4];rfl,by rw [a4];rfl,trivial⟩ ?_;refine C 5 V (JL.ln underlying74 V V V ?_);obtain⟨bz,ej,b0⟩:=bs ec;refine C 2 V (Bx (λL s=>∃(b1:Unit) (b2:LH),bz=Sum.inr b1/\Jm ed H b2 [] [] L s) ?_ ?_)
  .rintro _ _ ⟨b1,b2,rfl,rfl,rfl,ek,el⟩;have em:=elim_inr b0;refine C 6 V ?_;obtain rfl:=oi em;exact A2 func12 V V (a2 (((((Y.Ad a3).Ad O).Ad Z).Ad ag).Ad ek) V ⟨none,0,none,0,V,V,Ao.nil,Ao.nil⟩ el)
  .intro eo;refine JL.block (Em ej (λa5=> [ee]) (λa5=> [(5,Al bv 0),(24,sV ay ac az),(25,iV (ac.length:Int)),(26,iV a5)]) AN eg ?_);rintro a5 ep U a6 b3 ⟨gO,a0⟩ er;have b4:=a0;unfold Px at b4;refine C 5 V (A1 b4 (λeu ew=>?_) (λeu ex=>?_))
   .obtain⟨ey,eA,eC⟩:=bs ew;refine C 5 V (J2 0 (ef.M U) eA V V V V V V underlying74 AW ?_);rintro g0 g1 f93 _ eN ⟨b5,b6,rfl,ca⟩ e0 g3 g4 g5 g6;refine An (v:= sV b5 ey b6) V (λρ h=>Yl.load BA (h _ _ V) (B5 (j:=0) a6 eN (e0 0 _ V))) (C 4 V ?_);refine Cf (bw.M ((Z.Ad ag).Ad U)) FL DY V V ?_;obtain⟨g7,e1,e3⟩:=bs eC;refine C 1 V (B7 (Ww (bn.M (((O.Ad Z).Ad ag).Ad U)) (bo.M (((O.Ad Z).Ad ag).Ad U)) ca e1) V V (A5 func34 V) a6 ?_);rintro _ g8 _ a7 ⟨e4,e5,rfl,rfl,e6⟩ cc;refine C 10 V (Ct e3 (λe7 e8=>?_) (λe7 ff=>?_))
    .refine C 8 V (JS.drop 0 cc V λfk=>?_);obtain rfl:=oi e8;obtain rfl:=b3 _ a0;have fl:=elim_inl b0;obtain rfl:=oi fl;exact A2 func12 V V (a2 ((((((Y.Ad a3).Ad O).Ad Z).Ad ag).Ad U).Ad a7) V ⟨b5,b6,e4,e5,V,V,(ca.M a7),e6⟩ fk)
    .obtain⟨fm,fo,fs⟩:=bs ff;refine C 3 V (Bv fo V V V ?_);refine C 2 V ?_;obtain rfl:=oi fs;exact er fm (U.Ad a7) cc V a0
   .refine JL.exit V (JS.drop 0 a6 V λfv=>?_);obtain rfl:=oi ex;have fw:bz=(Sum.inr ()):=(b3 _ a0).symm;exact AF (eo _ _ ⟨(),ep,fw,V,V,U,fv⟩) V
variable {J:Judge Tryz.prog}
variable {E:LH}
def V1(fu_:Nat)(p0:List Int)(K:AG×Int):Option (Br (AG×Int) (AG)):= (Av (K.2+2)).bind λO=> if O<(p0.length:Int) then((ix p0 K.2).bind λU=> (Av (K.2+1)).bind λY=> (ix p0 Y).bind λZ=> (Av (K.2+2)).bind λac=> (ix p0 ac).bind λag=> (EK K.1 ([(U,Z,ag)]:AG)).bind λal=> (Av (K.2+3)).bind λam=> some (.more (al,am))) else(some (.done K.1))
def f67(fu_:Nat)(p0:List Int):Option (AG):= Option.bind (iter (V1 fu_ p0) fu_ ([],0)) λK=> some K
theorem PZ{a1:Aq}{c2:Nat}{p0:List Int}(aq:Ao rI E a1 c2 p0){fu_:Nat}{r:AG}(a2:f67 fu_ p0=some r):AT J 31 [sV a1 p0 c2] E [] (λw E' B'=>∃(a3:Aq) (a4:Nat) (g0:Seg),w= sV a3 r a4/\B'=g0/\OL 49 Az E' a3 a4 g0 r):=by
 refine Bp func31 λQ ep cs H be bi=>?_;unfold f67 at a2;obtain⟨a5,bn,bo⟩:=bs a2;refine C 13 V (Bx (λL s=>∃(av:LH) (Y:Aq) (Z:Nat) (ac:Seg),Jn E H av [ac] [(3,sV Y a5 Z)] L s (OL 49 Az av Y Z ac a5)) ?_ ?_)
 .rintro _ _ ⟨av,Y,Z,ac,rfl,rfl,bv,bw,bx⟩;refine C 5 V ?_;obtain rfl:=oi bo;exact A2 func31 V V (bi bv V ⟨Y,Z,ac,V,(by first | rfl | simp | (simp [Value.cells])),bx⟩ bw)
 .intro bz;refine JL.block (Cn bn (λL s ag=>∃(al:LH) (am:Aq) (ap:Nat) (O:Seg),Jn E H al [O] [(0,sV a1 p0 c2),(3,sV am ag.1 ap),(4,iV ag.2)] L s (OL 49 Az al am ap O ag.1)) ⟨E,none,0,[],V,V,AN,be,OL.nil⟩ ?_);rintro _ _ ag ⟨al,am,ap,O,rfl,rfl,U,a6,a7⟩ b0 ⟨er,aw⟩ b1;have a8:=aw;unfold V1 at a8;obtain⟨eu,b2,b3⟩:=bs a8;refine C 4 V (Bv b2 V V V ?_);refine C 1 V (JL.ln underlying22 V V V ?_);refine C 2 V (A1 b3 (λb4 b5=>?_) (λb4 b6=>?_))
  .refine C 3 V (Fl 17 λK=>?_);refine A7 K V [0,1,2] V ?_;obtain⟨ay,ca,cc⟩:=bs b5;refine Fo 3 (aq.M U) ca K underlying22 AH ?_;rintro ew ex _ rfl ce;refine Eu 4 K 0 ce Ba V V V V (A7 K V [5,6] V ?_);obtain⟨ey,ci,co⟩:=bs cc;refine AQ 7 K V V (λρ h s' a9=>Dy (h _ _ V) (h _ _ V) ci) ?_;obtain⟨az,cp,ct⟩:=bs co;refine Fo 8 (aq.M U) cp K underlying22 AH ?_;rintro eA eC _ rfl cw;refine Eu 9 K 0 cw Ba V V V V (A7 K V [10,11] V ?_);obtain⟨eN,cy,c0⟩:=bs ct;refine AQ 12 K V V (λρ h s' a9=>Dy (h _ _ V) (h _ _ V) cy) ?_;obtain⟨a0,c1,c3⟩:=bs c0;refine Fo 13 (aq.M U) c1 K underlying22 AH ?_;rintro e0 e1 _ rfl c4;refine Eu 14 K 0 c4 Ba V V V V (AQ (v:= .agg #[iV ay,iV az,iV a0]) 15 K V V (λρ h s' a9=>C4 [(0,1),(1,1),(2,1)] h BR underlying49 ⟨V,AX type3,V,AX type3,V,AX type3,trivial⟩ V V) ?_);refine JG.one (i:=16) V (by decide+kernel) (Take.Fx (pp:=Az) [.agg #[iV ay,iV az,iV a0]] ([(ay,az,a0)]:AG) a6 V V V underlying26 Bt BR (by decide) V V V ⟨⟨_,_,V,V,⟨_,_,V,V,V⟩⟩,trivial⟩ λe3 c5 c6 c7=>?_);refine CZ [17,18] (BQ (S':= [O,c5]) V c7 λc8=>?_);refine Cp 1 c6 c8 V λc9 bb dd ea=>?_;obtain⟨eb,ec,ed⟩:=bs c3;refine KA (pp:=Az) 0 ec V V V V V V V underlying26 underlying26 Bt (DF type49) BR V (by decide) (by decide) (a7.M bb) dd ea V λee ef eg ej ek=>?_;obtain⟨el,em,eo⟩:=bs ed;refine C 5 V (Bv em V V V ?_);refine C 2 V ?_;obtain rfl:=oi eo;exact AF (b1 _ _ (eb,el) ⟨c9,ee,ef,eg,V,V,(U.Ad bb),ek,ej⟩ aw) V
  .refine JL.exit V ?_;obtain rfl:=oi b6;obtain rfl:=b0 _ aw;exact AF (bz _ _ ⟨al,am,ap,O,V,V,U,a6,a7⟩) V
def f110(fu_:Nat)(p0:List Int)(p1:List Int):Option (Bh):= (f67 fu_ ([0,1,5,1,2,5,2,3,2,0,3,1,3,1,1]:List Int)).bind λK=> (f67 fu_ p1).bind λO=> (EK K O).bind λU=> some (([p0,[],([3]:List Int),([1]:List Int)]:BC),U)
theorem RU{a1:Aq}{c2:Nat}{aw:Aq}{ay:Nat}{p0:List Int}{p1:List Int}(a8:Ao rI E a1 c2 p0)(a9:Ao rI E aw ay p1){fu_:Nat}{r:Bh}(az:f110 fu_ p0 p1=some r):AT J 43 [sV a1 p0 c2,sV aw p1 ay] E [] (λw E' B'=>∃(a0:Aq) (a2:Nat) (a3:Aq) (a4:Nat),w= .agg #[sV a0 r.1 a2,sV a3 r.2 a4]/\B'= []/\Ao (rL rI) E' a0 a2 r.1/\Ao Az E' a3 a4 r.2):=by
 refine Bp func43 λQ ep cs H bb be=>?_;unfold f110 at az;refine C 2 V (B2 bb Kn λY bi=>?_);refine C 4 V (Gh (pp:=rI) [iV 3] [3] V V V underlying22 AH CR (by decide) V V V ⟨V,trivial⟩ bi λbn bo bv bw=>?_);refine Gh (pp:=rI) [iV 1] [1] V V V underlying22 AH CR (by decide) V V V ⟨V,trivial⟩ bw λbx bz b0 b1=>BQ (S':= [[],[(Y,.cells #[nS,nS] 28 (0,0))],bo,bz]) V b1 λb2=>Cp 2 bv b2 V λer ac b3 b4=>Cp 3 (b0.M ac) b4 V λeu ag b5 b6=>Gh (pp:=(rL rI)) [sV a1 p0 c2,nS,.slice (A8 bn) (([3]:List Int)).length 1,.slice (A8 bx) (([1]:List Int)).length 1] [p0,[],([3]:List Int),([1]:List Int)] V V V underlying25 GV ML (by decide) V V V ⟨⟨_,_,V,(a8.M (ac.Ad ag))⟩,⟨_,_,V,Ao.nil⟩,⟨_,_,V,(b3.M ag)⟩,⟨_,_,V,b5⟩,trivial⟩ b6 λK al ca cc=>BQ (S':= [[],[(Y,.cells #[nS,nS] 28 (0,0))],[],[],al]) V cc λce=>Gh (pp:=rI) [iV 0,iV 1,iV 5,iV 1,iV 2,iV 5,iV 2,iV 3,iV 2,iV 0,iV 3,iV 1,iV 3,iV 1,iV 1] [0,1,5,1,2,5,2,3,2,0,3,1,3,1,1] V V V underlying22 AH CR (by decide) V V V ⟨V,V,V,V,V,V,V,V,V,V,V,V,V,V,V,trivial⟩ ce λew ex ci co=>Cp 5 ci co V λey am cp ct=>?_;obtain⟨eA,cw,cy⟩:=bs az;refine B7 (PZ cp cw) V V N5 ct ?_;rintro _ eC c0 ap ⟨eN,e0,_,rfl,rfl,c1⟩ c3;refine BQ (S':= [[],[(Y,.cells #[nS,nS] 28 (0,0))],[],[],al,[],c0]) V c3 λc4=>?_;obtain⟨e1,c5,c6⟩:=bs cy;refine C 1 V (B7 (PZ (a9.M (((ac.Ad ag).Ad am).Ad ap)) c5) V V N5 c4 ?_);rintro _ e3 e4 aq ⟨e5,e6,_,rfl,rfl,c7⟩ c8;refine Cp 7 c7 c8 V λe7 av c9 dd=>?_;obtain⟨Z,ea,eb⟩:=bs c6;refine KA (pp:=Az) 6 ea V V V V V V V underlying26 underlying26 Bt (DF type49) BR V (by decide) (by decide) (c1.M (aq.Ad av)) c9 dd V λO U ec ed ee=>BQ (S':= [[],[(Y,.cells #[nS,nS] 28 (0,0))],[],[],al,[],ec,[]]) V ee λef=>An (v:= .agg #[.slice (A8 K) (([p0,[],([3]:List Int),([1]:List Int)]:BC)).length 4,sV O Z U]) V (λρ h=>C4 [(0,1),(1,1)] h Kn underlying28 ⟨V,AX type25,V,AX type26,trivial⟩ V V) (JS.sx 1 ef De λeg=>?_);refine JL.done (Cp 4 (ca.M (((am.Ad ap).Ad aq).Ad av)) eg V λe8 a5 ej ek=>?_);refine Cp 6 (ed.M a5) ek V λff a6 el em=>BQ (S':= [[],[(Y,.cells #[.slice (A8 K) (([p0,[],([3]:List Int),([1]:List Int)]:BC)).length 4,sV O Z U] 28 (0,0))],[],[],[],[],[],[]]) V em λa7=>?_;obtain rfl:=oi eb;refine JL.ret (v:= .agg #[.slice (A8 K) (([p0,[],([3]:List Int),([1]:List Int)]:BC)).length 4,sV O Z U]) V V (BK.list func43 V (vs:= [.agg #[.slice (A8 K) (([p0,[],([3]:List Int),([1]:List Int)]:BC)).length 4,sV O Z U]]) ⟨⟨_,V,Ld.many (vs:= [.slice (A8 K) (([p0,[],([3]:List Int),([1]:List Int)]:BC)).length 4,sV O Z U]) Fq De (Hy (off:=0) 1 a7 V V)⟩,trivial⟩) (EO 1 a7 V λeo=>?_);exact be (((((((ac.Ad ag).Ad am).Ad ap).Ad aq).Ad av).Ad a5).Ad a6) V ⟨(A8 K),4,O,U,V,V,(ej.M a6),el⟩ eo
def f63(fu_:Nat):Option (Bh):= (f110 fu_ ([1,2,3]:List Int) ([])).bind λK=> some K
theorem PS{fu_:Nat}{r:Bh}(ac:f63 fu_=some r):AT J 22 [] E [] (λw E' B'=>∃(ag:Aq) (al:Nat) (am:Aq) (ap:Nat),w= .agg #[sV ag r.1 al,sV am r.2 ap]/\B'= []/\Ao (rL rI) E' ag al r.1/\Ao Az E' am ap r.2):=by
 refine Bp func22 λQ be cs H av aw=>?_;unfold f63 at ac;refine C 2 V (B2 av Kn λr1 ay=>?_);refine C 3 V (Gh (pp:=rI) [iV 1,iV 2,iV 3] [1,2,3] V V V underlying22 AH CR (by decide) V V V ⟨V,V,V,trivial⟩ ay λbi bn az a0=>?_);refine Cp 2 az a0 V λbo a1 a2 a3=>?_;obtain⟨K,a4,a5⟩:=bs ac;refine B7 (RU a2 Ao.nil a4) V V Qm a3 ?_;rintro _ bv _ a6 ⟨O,U,Y,Z,rfl,rfl,a7,a8⟩ a9;refine JS.sx 1 a9 De λaq=>?_;refine JL.done ?_;obtain rfl:=oi a5;refine JL.ret (v:= .agg #[sV O K.1 U,sV Y K.2 Z]) V V (BK.list func22 V (vs:= [.agg #[sV O K.1 U,sV Y K.2 Z]]) ⟨⟨_,V,Ld.many (vs:= [sV O K.1 U,sV Y K.2 Z]) Fq De (Hy (off:=0) 1 aq V V)⟩,trivial⟩) (EO 1 aq V λbb=>?_);exact aw (a1.Ad a6) V ⟨O,U,Y,Z,V,V,a7,a8⟩ bb
def f64(fu_:Nat):Option (Bh):= (f110 fu_ ([]) ([])).bind λK=> some K
theorem iQ{fu_:Nat}{r:Bh}(ac:f64 fu_=some r):AT J 26 [] E [] (λw E' B'=>∃(ag:Aq) (al:Nat) (am:Aq) (ap:Nat),w= .agg #[sV ag r.1 al,sV am r.2 ap]/\B'= []/\Ao (rL rI) E' ag al r.1/\Ao Az E' am ap r.2):=by
 refine Bp func26 λQ a6 cs H av aw=>?_;unfold f64 at ac;refine C 2 V (B2 av Kn λr1 ay=>?_);obtain⟨K,az,a0⟩:=bs ac;refine C 3 V (B7 (RU Ao.nil Ao.nil az) V V Qm ay ?_);rintro _ a7 _ a1 ⟨O,U,Y,Z,rfl,rfl,a2,a3⟩ a4;refine JS.sx 1 a4 De λaq=>?_;refine JL.done ?_;obtain rfl:=oi a0;refine JL.ret (v:= .agg #[sV O K.1 U,sV Y K.2 Z]) V V (BK.list func26 V (vs:= [.agg #[sV O K.1 U,sV Y K.2 Z]]) ⟨⟨_,V,Ld.many (vs:= [sV O K.1 U,sV Y K.2 Z]) Fq De (Hy (off:=0) 1 aq V V)⟩,trivial⟩) (EO 1 aq V λa5=>?_);exact aw a1 V ⟨O,U,Y,Z,V,V,a2,a3⟩ a5
def f65(fu_:Nat):Option (Bh):= (f110 fu_ ([5,1]:List Int) ([])).bind λK=> some K
theorem iH{fu_:Nat}{r:Bh}(ac:f65 fu_=some r):AT J 27 [] E [] (λw E' B'=>∃(ag:Aq) (al:Nat) (am:Aq) (ap:Nat),w= .agg #[sV ag r.1 al,sV am r.2 ap]/\B'= []/\Ao (rL rI) E' ag al r.1/\Ao Az E' am ap r.2):=by
 refine Bp func27 λQ be cs H av aw=>?_;unfold f65 at ac;refine C 2 V (B2 av Kn λr1 ay=>?_);refine C 3 V (Gh (pp:=rI) [iV 5,iV 1] [5,1] V V V underlying22 AH CR (by decide) V V V ⟨V,V,trivial⟩ ay λbi bn az a0=>?_);refine Cp 2 az a0 V λbo a1 a2 a3=>?_;obtain⟨K,a4,a5⟩:=bs ac;refine B7 (RU a2 Ao.nil a4) V V Qm a3 ?_;rintro _ bv _ a6 ⟨O,U,Y,Z,rfl,rfl,a7,a8⟩ a9;refine JS.sx 1 a9 De λaq=>?_;refine JL.done ?_;obtain rfl:=oi a5;refine JL.ret (v:= .agg #[sV O K.1 U,sV Y K.2 Z]) V V (BK.list func27 V (vs:= [.agg #[sV O K.1 U,sV Y K.2 Z]]) ⟨⟨_,V,Ld.many (vs:= [sV O K.1 U,sV Y K.2 Z]) Fq De (Hy (off:=0) 1 aq V V)⟩,trivial⟩) (EO 1 aq V λbb=>?_);exact aw (a1.Ad a6) V ⟨O,U,Y,Z,V,V,a7,a8⟩ bb
def f66(fu_:Nat):Option (AG):= (f67 fu_ ([0,1,1,0,2,3,0,3,2]:List Int)).bind λK=> some K
theorem iW{fu_:Nat}{r:AG}(K:f66 fu_=some r):AT J 30 [] E [] (λw E' B'=>∃(O:Aq) (U:Nat),w= sV O r U/\B'= []/\Ao Az E' O U r):=by
 refine Bp func30 λQ a5 cs H Y Z=>?_;unfold f66 at K;refine C 6 V (Gh (pp:=rI) [iV 0,iV 1,iV 1,iV 0,iV 2,iV 3,iV 0,iV 3,iV 2] [0,1,1,0,2,3,0,3,2] V V V underlying22 AH CR (by decide) V V V ⟨V,V,V,V,V,V,V,V,V,trivial⟩ Y λr1 g2 ac ag=>?_);refine Cp 1 ac ag V λa6 al am ap=>?_;obtain⟨a7,aq,av⟩:=bs K;refine B7 (PZ am aq) V V N5 ap ?_;rintro _ a8 a9 aw ⟨ay,az,_,rfl,rfl,a0⟩ a1;refine C 2 V (Cp 2 a0 a1 V λbb a2 a3 a4=>?_);obtain rfl:=oi av;exact A2 func30 V V (Z ((al.Ad aw).Ad a2) V ⟨ay,az,V,V,a3⟩ a4)
def V8(fu_:Nat)(p0:List Int)(p1:List Int)(K:Int):Option (Br Int ((Bool)⊕(Unit))):= Option.bind (if K<(p0.length:Int) then(some (decide (K<(p1.length:Int)))) else(some false)) λO=> if O=true then((ix p0 K).bind λU=> (ix p1 K).bind λY=> if U≠Y then(some (.done (Sum.inl false))) else((Av (K+1)).bind λZ=> some (.more Z))) else(some (.done (Sum.inr ())))
def f29(fu_:Nat)(p0:List Int)(p1:List Int):Option Bool:= Option.bind (iter (V8 fu_ p0 p1) fu_ 0) λK=> Sum.elim (λr=>some r) (λO=> some (decide ((p0.length:Int)=(p1.length:Int)))) K
theorem P0{a1:Aq}{c2:Nat}{O:Aq}{U:Nat}{p0:List Int}{p1:List Int}(a6:Ao rI E a1 c2 p0)(a7:Ao rI E O U p1){fu_:Nat}{r:Bool}(aq:f29 fu_ p0 p1=some r):AT J 28 [sV a1 p0 c2,sV O p1 U] E [] (λw E' B'=>w= .bool r/\B'= []):=by
 refine Bp func28 λQ c4 cs H a8 av=>?_;unfold f29 at aq;obtain⟨aw,a9,ay⟩:=bs aq;refine C 9 V (Bx (λL s=>∃(az:Unit) (a0:LH),aw=Sum.inr az/\Jm E H a0 [] [(0,sV a1 p0 c2),(1,sV O p1 U)] L s) ?_ ?_)
 .rintro _ _ ⟨az,a0,rfl,rfl,rfl,bb,be⟩;have bi:=elim_inr ay;refine C 3 V (JL.ln underlying22 V V V ?_);refine C 1 V (JL.ln underlying22 V V V ?_);refine C 3 V ?_;obtain rfl:=oi bi;exact A2 func28 V V (av bb V ⟨V,V⟩ be)
 .intro bn;refine JL.block (Em a9 (λac=> []) (λac=> [(0,sV a1 p0 c2),(1,sV O p1 U),(5,iV ac)]) AN a8 ?_);rintro ac al Y a2 a3 ⟨c5,ag⟩ bo;have a4:=ag;unfold V8 at a4;refine C 5 V (JL.ln underlying22 V V V ?_);obtain⟨bv,bw,bx⟩:=bs a4;refine C 2 V (Ib [] (λL s=>∃(am:LH),Jm al H am [] [(0,sV a1 p0 c2),(1,sV O p1 U),(5,iV ac),(15,.bool bv)] L s) ?_ ?_)
  .rintro _ _ ⟨am,rfl,rfl,Z,ap⟩;refine JL.done (Ct bx (λbz b0=>?_) (λbz b1=>?_))
   .refine C 4 V (Fl 8 λK=>?_);refine A7 K V [0,1] V ?_;obtain⟨c6,b2,b3⟩:=bs b0;refine Fo 2 (a6.M (Y.Ad Z)) b2 K underlying22 AH ?_;rintro c7 c8 _ rfl b4;refine Eu 3 K 0 b4 Ba V V V V (A7 K V [4,5] V ?_);obtain⟨c9,b5,b6⟩:=bs b3;refine Fo 6 (a7.M (Y.Ad Z)) b5 K underlying22 AH ?_;rintro dd ea _ rfl ca;refine Eu 7 K 0 ca Ba V V V V (CZ [8] ?_);refine C 2 V (A1 b6 (λcc ce=>?_) (λcc ci=>?_))
    .refine C 4 V ?_;obtain rfl:=oi ce;obtain rfl:=a3 _ ag;have co:=elim_inl ay;obtain rfl:=oi co;exact A2 func28 V V (av (Y.Ad Z) V ⟨V,V⟩ ap)
    .obtain⟨cp,ct,cw⟩:=bs ci;refine C 4 V (Bv ct V V V ?_);refine C 2 V ?_;obtain rfl:=oi cw;exact bo cp (Y.Ad Z) ap V ag
   .refine JL.exit V ?_;obtain rfl:=oi b1;have cy:aw=(Sum.inr ()):=(a3 _ ag).symm;exact AF (bn _ _ ⟨(),am,cy,V,V,(Y.Ad Z),ap⟩) V
  .intro a5;refine IY 10 bw (λc0 c1=>?_) (λc0 c3=>?_)
   .refine C 2 V (JL.ln underlying22 V V V ?_);refine C 2 V ?_;obtain rfl:=oi c1;exact AF (a5 _ _ ⟨al,V,V,AN,a2⟩) V
   .refine C 5 V ?_;obtain rfl:=oi c3;exact AF (a5 _ _ ⟨al,V,V,AN,a2⟩) V
def VE(fu_:Nat)(p0:AG)(p1:AG)(K:Int):Option (Br Int ((Bool)⊕(Unit))):= Option.bind (if K<(p0.length:Int) then(some (decide (K<(p1.length:Int)))) else(some false)) λO=> if O=true then((ix p0 K).bind λU=> (ix p1 K).bind λY=> if U≠Y then(some (.done (Sum.inl false))) else((Av (K+1)).bind λZ=> some (.more Z))) else(some (.done (Sum.inr ())))
def f26(fu_:Nat)(p0:AG)(p1:AG):Option Bool:= Option.bind (iter (VE fu_ p0 p1) fu_ 0) λK=> Sum.elim (λr=>some r) (λO=> some (decide ((p0.length:Int)=(p1.length:Int)))) K
theorem WM{a1:Aq}{c2:Nat}{O:Aq}{U:Nat}{p0:AG}{p1:AG}(a8:Ao Az E a1 c2 p0)(a9:Ao Az E O U p1){fu_:Nat}{r:Bool}(aw:f26 fu_ p0 p1=some r):AT J 29 [sV a1 p0 c2,sV O p1 U] E [] (λw E' B'=>w= .bool r/\B'= []):=by
 refine Bp func29 λQ c6 cs H bb ay=>?_;unfold f26 at aw;obtain⟨az,be,a0⟩:=bs aw;refine C 9 V (Bx (λL s=>∃(a2:Unit) (a3:LH),az=Sum.inr a2/\Jm E H a3 [] [(0,sV a1 p0 c2),(1,sV O p1 U)] L s) ?_ ?_)
 .rintro _ _ ⟨a2,a3,rfl,rfl,rfl,bi,bn⟩;have bo:=elim_inr a0;refine C 3 V (JL.ln underlying26 V V V ?_);refine C 1 V (JL.ln underlying26 V V V ?_);refine C 3 V ?_;obtain rfl:=oi bo;exact A2 func29 V V (ay bi V ⟨V,V⟩ bn)
 .intro bv;refine JL.block (Em be (λam=> []) (λam=> [(0,sV a1 p0 c2),(1,sV O p1 U),(5,iV am)]) AN bb ?_);rintro am aq Y a4 a5 ⟨c7,ap⟩ bw;have a6:=ap;unfold VE at a6;refine C 5 V (JL.ln underlying26 V V V ?_);obtain⟨bx,bz,b0⟩:=bs a6;refine C 2 V (Ib [] (λL s=>∃(Z:LH),Jm aq H Z [] [(0,sV a1 p0 c2),(1,sV O p1 U),(5,iV am),(15,.bool bx)] L s) ?_ ?_)
  .rintro _ _ ⟨Z,rfl,rfl,ac,av⟩;refine JL.done (Ct b0 (λb1 b2=>?_) (λb1 b3=>?_))
   .refine C 4 V (Fl 8 λK=>?_);refine A7 K V [0,1] V ?_;obtain⟨ag,b4,b5⟩:=bs b2;refine Fo 2 (a8.M (Y.Ad ac)) b4 K underlying26 Bt ?_;rintro c8 c9 _ ⟨_,_,rfl,rfl,⟨_,_,rfl,rfl,rfl⟩⟩ b6;refine Jq 3 K b6 DX Bt V V V (A7 K V [4,5] V ?_);obtain⟨al,ca,cc⟩:=bs b5;refine Fo 6 (a9.M (Y.Ad ac)) ca K underlying26 Bt ?_;rintro dd ea _ ⟨_,_,rfl,rfl,⟨_,_,rfl,rfl,rfl⟩⟩ ce;refine Jq 7 K ce DX Bt V V V (CZ [8] ?_);refine An (v:= .bool (decide (ag≠al))) V (λρ h=>Rx (E:=Z) (E':=Z) (ws:= [iV ag.1,iV ag.2.1,iV ag.2.2]) (ws':= [iV al.1,iV al.2.1,iV al.2.2]) (a:=ag) (b:=al) jc (by decide) (by decide+kernel) ⟨_,_,V,V,⟨_,_,V,V,V⟩⟩ ⟨_,_,V,V,⟨_,_,V,V,V⟩⟩ (h _ _ V) (h _ _ V)) (JL.done ?_);refine A1 cc (λci co=>?_) (λci cp=>?_)
    .refine C 4 V ?_;obtain rfl:=oi co;obtain rfl:=a5 _ ap;have ct:=elim_inl a0;obtain rfl:=oi ct;exact A2 func29 V V (ay (Y.Ad ac) V ⟨V,V⟩ av)
    .obtain⟨cw,cy,c0⟩:=bs cp;refine C 4 V (Bv cy V V V ?_);refine C 2 V ?_;obtain rfl:=oi c0;exact bw cw (Y.Ad ac) av V ap
   .refine JL.exit V ?_;obtain rfl:=oi b3;have c1:az=(Sum.inr ()):=(a5 _ ap).symm;exact AF (bv _ _ ⟨(),Z,c1,V,V,(Y.Ad ac),av⟩) V
  .intro a7;refine IY 10 bz (λc3 c4=>?_) (λc3 c5=>?_)
   .refine C 2 V (JL.ln underlying26 V V V ?_);refine C 2 V ?_;obtain rfl:=oi c4;exact AF (a7 _ _ ⟨aq,V,V,AN,a4⟩) V
   .refine C 5 V ?_;obtain rfl:=oi c5;exact AF (a7 _ _ ⟨aq,V,V,AN,a4⟩) V
def f18(fu_:Nat):Option Bool:= (f63 fu_).bind λx1=> (f43 fu_ x1).bind λO=> (f63 fu_).bind λag=> (f33 fu_ ag).bind λU=> (f63 fu_).bind λal=> (f22 fu_ al).bind λY=> (f63 fu_).bind λam=> (f24 fu_ am).bind λZ=> (f64 fu_).bind λap=> (f39 fu_ ap).bind λac=> (f65 fu_).bind λaq=> (f27 fu_ aq).bind λK=> Option.bind (if O.2=0 then(some (decide (U.2=0))) else(some false)) λav=> Option.bind (if av=true then(some (decide (Y.2=0))) else(some false)) λaw=> Option.bind (if aw=true then(some (decide (Z.2=0))) else(some false)) λay=> Option.bind (if ay=true then(some (decide (ac.2=0))) else(some false)) λaz=> Option.bind (if az=true then(some (decide (K.2.2=0))) else(some false)) λa0=> Option.bind (if a0=true then(some (decide (Z.1=16))) else(some false)) λa1=> Option.bind (if a1=true then((f29 fu_ O.1 ([(-6),1,3,2]:List Int)).bind λa2=> some a2) else(some false)) λa3=> Option.bind (if a3=true then((f29 fu_ U.1 ([1,2,3]:List Int)).bind λa4=> some a4) else(some false)) λa5=> Option.bind (if a5=true then((f66 fu_).bind λa6=> (f26 fu_ Y.1 a6).bind λa7=> some a7) else(some false)) λa8=> Option.bind (if a8=true then((f29 fu_ ac.1 ([0]:List Int)).bind λa9=> some a9) else(some false)) λbb=> Option.bind (if bb=true then((f67 fu_ ([0,2,6,2,3,3,3,1,1]:List Int)).bind λbe=> (f26 fu_ K.1 be).bind λbi=> some bi) else(some false)) λbn=> Option.bind (if bn=true then((f29 fu_ K.2.1 ([0,1,2]:List Int)).bind λbo=> some bo) else(some false)) λbv=> some bv
theorem WR{E:LH}{fu_:Nat}{r:Bool}(b2:f18 fu_=some r):AT (GY Tryz.prog) 9 [] E [] (λw E' B'=>w= .bool r/\B'= []):=by
 refine Bp func9 λQ k9 cs H eo ep=>?_;unfold f18 at b2;obtain⟨x1,er,eu⟩:=bs b2;refine C 6 V (B7 (PS er) V V N8 eo ?_);rintro _ la _ ew ⟨lb,ld,lf,lg,rfl,rfl,ex,ey⟩ eA;obtain⟨a6,eC,eN⟩:=bs eu;refine B7 (iB ex ey eC) V V (A5 func21 V) eA ?_;rintro _ lh _ e0 ⟨a7,a8,rfl,rfl,e1⟩ e3;obtain⟨li,e4,e5⟩:=bs eN;refine C 8 V (B7 (PS e4) V V N8 e3 ?_);rintro _ lj _ b3 ⟨ll,lm,lq,lr,rfl,rfl,e6,e7⟩ e8;refine BQ (S':= [[],[],[],[]]) V e8 λff=>?_;obtain⟨av,fk,fl⟩:=bs e5;refine B7 (iz e6 e7 fk) V V (A5 func23 V) ff ?_;rintro _ ls _ b4 ⟨aw,ay,rfl,rfl,fm⟩ fo;obtain⟨lu,fs,fv⟩:=bs fl;refine C 8 V (B7 (PS fs) V V N8 fo ?_);rintro _ lw _ bz ⟨lx,lz,lA,lB,rfl,rfl,fw,fN⟩ gc;obtain⟨ag,ge,gg⟩:=bs fv;refine B7 (iU fw fN ge) V V (A5 func24 V) gc ?_;rintro _ lC _ b0 ⟨ap,aq,rfl,rfl,gh⟩ gt;refine BQ (S':= [[],[],[],[],[],[],[]]) V gt λgE=>?_;obtain⟨lD,gO,g0⟩:=bs gg;refine C 8 V (B7 (PS gO) V V N8 gE ?_);rintro _ lE _ bn ⟨lF,lG,lH,lI,rfl,rfl,g1,g3⟩ g4;obtain⟨az,g5,g6⟩:=bs g0;refine CC (iL g1 g3 g5) V V (A5 func25 V) g4 λlJ bo g7=>?_;obtain⟨lK,g8,ha⟩:=bs g6;refine C 8 V (B7 (iQ g8) V V (A5 func26 V) g7 ?_);rintro _ lL _ bv ⟨lM,lN,lO,lP,rfl,rfl,hb,hc⟩ hd;refine BQ (S':= [[],[],[],[],[],[],[],[],[],[]]) V hd λhe=>?_;obtain⟨O,hf,hg⟩:=bs ha;refine B7 (WN hb hc hf) V V (A5 func6 V) he ?_;rintro _ lQ _ bw ⟨al,am,rfl,rfl,hj⟩ hk;obtain⟨lR,hl,hm⟩:=bs hg;refine C 8 V (B7 (iH hl) V V (A5 func27 V) hk ?_);rintro _ lS _ bb ⟨lT,lU,lV,lW,rfl,rfl,hn,ho⟩ hp;obtain⟨K,hq,hr⟩:=bs hm;refine B7 (WC hn ho hq) V V (A5 func12 V) hp ?_;rintro _ lX _ be ⟨Z,ac,U,Y,rfl,rfl,hs,ht⟩ hu;refine BQ (S':= [[],[],[],[],[],[],[],[],[],[],[],[],[]]) V hu λb5=>?_;obtain⟨hv,hw,hx⟩:=bs hr;refine C 13 V (Gj 6 52 [] [(1,sV a7 a6.1 a8),(3,sV aw av.1 ay),(5,sV ap ag.1 aq),(6,iV ag.2),(7,iV az.1),(8,iV az.2),(9,sV al O.1 am),(10,iV O.2),(11,sV Z K.1 ac),(12,sV U K.2.1 Y),(13,iV K.2.2),(50,.bool hv)] (λlY a0 b6=>?_) (λca=>?_))
 .obtain⟨hy,hz,hA⟩:=bs hx;refine C 1 V (Gj 10 48 [] [(1,sV a7 a6.1 a8),(3,sV aw av.1 ay),(5,sV ap ag.1 aq),(7,iV az.1),(8,iV az.2),(9,sV al O.1 am),(10,iV O.2),(11,sV Z K.1 ac),(12,sV U K.2.1 Y),(13,iV K.2.2),(54,.bool hy)] (λlZ a1 cc=>?_) (λce=>?_))
  .obtain⟨hB,hC,hD⟩:=bs hA;refine C 1 V (Gj 14 44 [] [(1,sV a7 a6.1 a8),(3,sV aw av.1 ay),(5,sV ap ag.1 aq),(7,iV az.1),(9,sV al O.1 am),(10,iV O.2),(11,sV Z K.1 ac),(12,sV U K.2.1 Y),(13,iV K.2.2),(58,.bool hB)] (λl3 a2 ci=>?_) (λco=>?_))
   .obtain⟨hE,hF,hG⟩:=bs hD;refine C 1 V (Gj 18 40 [] [(1,sV a7 a6.1 a8),(3,sV aw av.1 ay),(5,sV ap ag.1 aq),(7,iV az.1),(9,sV al O.1 am),(11,sV Z K.1 ac),(12,sV U K.2.1 Y),(13,iV K.2.2),(62,.bool hE)] (λl4 a3 cp=>?_) (λct=>?_))
    .obtain⟨hH,hI,hK⟩:=bs hG;refine C 1 V (Gj 22 36 [] [(1,sV a7 a6.1 a8),(3,sV aw av.1 ay),(5,sV ap ag.1 aq),(7,iV az.1),(9,sV al O.1 am),(11,sV Z K.1 ac),(12,sV U K.2.1 Y),(66,.bool hH)] (λl5 a4 cw=>?_) (λcy=>?_))
     .obtain⟨hL,hM,hN⟩:=bs hK;refine C 1 V (Gj 26 32 [] [(1,sV a7 a6.1 a8),(3,sV aw av.1 ay),(5,sV ap ag.1 aq),(9,sV al O.1 am),(11,sV Z K.1 ac),(12,sV U K.2.1 Y),(70,.bool hL)] (λl6 a5 c0=>?_) (λc1=>?_))
      .obtain⟨hO,hP,hQ⟩:=bs hN;refine C 1 V (Gj 31 27 [] [(3,sV aw av.1 ay),(5,sV ap ag.1 aq),(9,sV al O.1 am),(11,sV Z K.1 ac),(12,sV U K.2.1 Y),(75,.bool hO)] (λl7 a9 c2=>?_) (λc3=>?_))
       .obtain⟨hR,hS,hT⟩:=bs hQ;refine C 1 V (Gj 36 22 [] [(5,sV ap ag.1 aq),(9,sV al O.1 am),(11,sV Z K.1 ac),(12,sV U K.2.1 Y),(80,.bool hR)] (λl8 bi c4=>?_) (λc5=>?_))
        .obtain⟨hU,hV,hW⟩:=bs hT;refine C 1 V (Gj 41 17 [] [(9,sV al O.1 am),(11,sV Z K.1 ac),(12,sV U K.2.1 Y),(85,.bool hU)] (λl9 bx c6=>?_) (λc7=>?_))
         .obtain⟨hX,hY,h0⟩:=bs hW;refine C 1 V (Gj 46 12 [] [(11,sV Z K.1 ac),(12,sV U K.2.1 Y),(90,.bool hX)] (λma b1 c8=>?_) (λc9=>?_))
          .obtain⟨h1,h2,h3⟩:=bs h0;refine C 1 V (Gj 52 6 [] [(12,sV U K.2.1 Y),(96,.bool h1)] (λmb dd ea=>?_) (λeb=>?_))
           .obtain⟨h4,h5,h6⟩:=bs h3;refine C 1 V (Gj 57 1 [] [(101,.bool h4)] (λmc h7 h8=>?_) (λec=>?_))
            .refine C 2 V ?_;obtain rfl:=oi h6;exact A2 func9 V V (ep (((((((((((((((((((((((ew.Ad e0).Ad b3).Ad b4).Ad bz).Ad b0).Ad bn).Ad bo).Ad bv).Ad bw).Ad bb).Ad be).Ad a0).Ad a1).Ad a2).Ad a3).Ad a4).Ad a5).Ad a9).Ad bi).Ad bx).Ad b1).Ad dd).Ad h7) V ⟨V,V⟩ h8)
            .refine FQ 97 h5 (λh9 ia=>?_) (λh9 ih=>?_)
             .refine C 1 V (Gh (pp:=rI) [iV 0,iV 1,iV 2] [0,1,2] V V V underlying22 AH CR (by decide) V V V ⟨V,V,V,trivial⟩ ea λmd me ii io=>?_);refine Cp 0 ii io V λmf ed i0 i1=>?_;obtain⟨mg,i3,i4⟩:=bs ia;refine CC (P0 (ht.M (((((((((((a0.Ad a1).Ad a2).Ad a3).Ad a4).Ad a5).Ad a9).Ad bi).Ad bx).Ad b1).Ad dd).Ad ed)) i0 i3) V V N4 i1 λmh i5 i6=>BQ (S':= [[],[]]) V i6 λi7=>C 1 V ?_;obtain rfl:=oi i4;exact ec (ed.Ad i5) i7 V
             .refine C 4 V ?_;obtain rfl:=oi ih;exact ec AN ea V
           .refine FQ 91 h2 (λi8 i9=>?_) (λi8 jg=>?_)
            .refine C 1 V (Gh (pp:=rI) [iV 0,iV 2,iV 6,iV 2,iV 3,iV 3,iV 3,iV 1,iV 1] [0,2,6,2,3,3,3,1,1] V V V underlying22 AH CR (by decide) V V V ⟨V,V,V,V,V,V,V,V,V,trivial⟩ c8 λmi mj jj jp=>?_);refine Cp 0 jj jp V λmm ee jt jy=>?_;obtain⟨mo,jO,jP⟩:=bs i9;refine B7 (PZ jt jO) V V N5 jy ?_;rintro _ mp jQ ef ⟨mq,mr,_,rfl,rfl,jR⟩ jS;refine BQ (S':= [[],jQ]) V jS λjT=>Cp 1 jR jT V λms eg jU jV=>?_;obtain⟨mv,jW,jX⟩:=bs jP;refine CC (WM (hs.M ((((((((((((a0.Ad a1).Ad a2).Ad a3).Ad a4).Ad a5).Ad a9).Ad bi).Ad bx).Ad b1).Ad ee).Ad ef).Ad eg)) jU jW) V V (A5 func29 V) jV λmw jY jZ=>C 1 V ?_;obtain rfl:=oi jX;exact eb (((ee.Ad ef).Ad eg).Ad jY) jZ V
            .refine C 5 V ?_;obtain rfl:=oi jg;exact eb AN c8 V
          .refine FQ 86 hY (λj0 j1=>?_) (λj0 j2=>?_)
           .refine C 1 V (Gh (pp:=rI) [iV 0] [0] V V V underlying22 AH CR (by decide) V V V ⟨V,trivial⟩ c6 λmy mz j3 j4=>?_);refine Cp 0 j3 j4 V λmB ej j5 j6=>?_;obtain⟨mC,j7,j8⟩:=bs j1;refine CC (P0 (hj.M (((((((((((bb.Ad be).Ad a0).Ad a1).Ad a2).Ad a3).Ad a4).Ad a5).Ad a9).Ad bi).Ad bx).Ad ej)) j5 j7) V V N4 j6 λmD j9 kb=>BQ (S':= [[],[]]) V kb λkc=>C 1 V ?_;obtain rfl:=oi j8;exact c9 (ej.Ad j9) kc V
           .refine C 4 V ?_;obtain rfl:=oi j2;exact c9 AN c6 V
         .refine FQ 81 hV (λke kf=>?_) (λke kg=>?_)
          .obtain⟨mE,kh,ki⟩:=bs kf;refine C 1 V (B7 (iW kh) V V (A5 func30 V) c4 ?_);rintro _ mF _ ek ⟨mG,mH,rfl,rfl,kj⟩ kl;obtain⟨mI,km,kn⟩:=bs ki;refine CC (WM (gh.M ((((((((((((((bn.Ad bo).Ad bv).Ad bw).Ad bb).Ad be).Ad a0).Ad a1).Ad a2).Ad a3).Ad a4).Ad a5).Ad a9).Ad bi).Ad ek)) kj km) V V (A5 func29 V) kl λmJ ko kp=>C 1 V ?_;obtain rfl:=oi kn;exact c7 (ek.Ad ko) kp V
          .refine C 4 V ?_;obtain rfl:=oi kg;exact c7 AN c4 V
        .refine FQ 76 hS (λkq kr=>?_) (λkq ks=>?_)
         .refine C 1 V (Gh (pp:=rI) [iV 1,iV 2,iV 3] [1,2,3] V V V underlying22 AH CR (by decide) V V V ⟨V,V,V,trivial⟩ c2 λmK mL kt ku=>?_);refine Cp 0 kt ku V λmM el kv kx=>?_;obtain⟨mO,ky,kz⟩:=bs kr;refine CC (P0 (fm.M (((((((((((((((bz.Ad b0).Ad bn).Ad bo).Ad bv).Ad bw).Ad bb).Ad be).Ad a0).Ad a1).Ad a2).Ad a3).Ad a4).Ad a5).Ad a9).Ad el)) kv ky) V V N4 kx λmP kA kB=>BQ (S':= [[],[]]) V kB λkC=>C 1 V ?_;obtain rfl:=oi kz;exact c5 (el.Ad kA) kC V
         .refine C 4 V ?_;obtain rfl:=oi ks;exact c5 AN c2 V
       .refine FQ 71 hP (λkD kF=>?_) (λkD kG=>?_)
        .refine C 1 V (Gh (pp:=rI) [iV (-6),iV 1,iV 3,iV 2] [(-6),1,3,2] V V V underlying22 AH CR (by decide) V V V ⟨V,V,V,V,trivial⟩ c0 λmQ mR kI kJ=>?_);refine Cp 0 kI kJ V λmS em kK kL=>?_;obtain⟨mT,kM,kN⟩:=bs kF;refine CC (P0 (e1.M ((((((((((((((((b3.Ad b4).Ad bz).Ad b0).Ad bn).Ad bo).Ad bv).Ad bw).Ad bb).Ad be).Ad a0).Ad a1).Ad a2).Ad a3).Ad a4).Ad a5).Ad em)) kK kM) V V N4 kL λmU kO kP=>BQ (S':= [[],[]]) V kP λkQ=>C 1 V ?_;obtain rfl:=oi kN;exact c3 (em.Ad kO) kQ V
        .refine C 4 V ?_;obtain rfl:=oi kG;exact c3 AN c0 V
      .refine FQ 67 hM (λkR kS=>?_) (λkR kT=>?_)
       .refine C 3 V ?_;obtain rfl:=oi kS;exact c1 AN cw V
       .refine C 3 V ?_;obtain rfl:=oi kT;exact c1 AN cw V
     .refine FQ 63 hI (λkU kV=>?_) (λkU kW=>?_)
      .refine C 3 V ?_;obtain rfl:=oi kV;exact cy AN cp V
      .refine C 3 V ?_;obtain rfl:=oi kW;exact cy AN cp V
    .refine FQ 59 hF (λkX kY=>?_) (λkX kZ=>?_)
     .refine C 3 V ?_;obtain rfl:=oi kY;exact ct AN ci V
     .refine C 3 V ?_;obtain rfl:=oi kZ;exact ct AN ci V
   .refine FQ 55 hC (λk0 k1=>?_) (λk0 k2=>?_)
    .refine C 3 V ?_;obtain rfl:=oi k1;exact co AN cc V
    .refine C 3 V ?_;obtain rfl:=oi k2;exact co AN cc V
  .refine FQ 51 hz (λk3 k4=>?_) (λk3 k5=>?_)
   .refine C 3 V ?_;obtain rfl:=oi k4;exact ce AN b6 V
   .refine C 3 V ?_;obtain rfl:=oi k5;exact ce AN b6 V
 .refine IY 47 hw (λk6 k7=>?_) (λk6 k8=>?_)
  .refine C 3 V ?_;obtain rfl:=oi k7;exact ca AN b5 V
  .refine C 3 V ?_;obtain rfl:=oi k8;exact ca AN b5 V
variable {E:LH}
def f20(fu_:Nat)(p0:List Int):Option ((Cd)):= some (p0,0,2685821657736338717)
theorem iT{a1:Aq}{c2:Nat}{p0:List Int}(Z:Ao rI E a1 c2 p0){fu_:Nat}{r:(Cd)}(K:f20 fu_ p0=some r):AT J 4 [sV a1 p0 c2] E [] (λw E' B'=>∃(O:Nat) (U:Aq) (Y:Nat),w= Al O 0/\B'= [(O,.cells #[sV U r.1 Y,iV r.2.1,.int .u64 ((r.2.2:Nat):Int)] 43 (0,0))]/\Ao rI E' U Y r.1):=by
 refine Bp func4 λQ ap cs H ac ag=>?_;unfold f20 at K;refine C 7 V (An (v:= .agg #[sV a1 p0 c2,iV 0,.int .u64 ((2685821657736338717:Nat):Int)]) V (λρ h=>C4 [(0,1),(1,1),(2,1)] h (Dx type43) underlying43 ⟨V,AX type22,V,AX type3,V,AX type41,trivial⟩ V V) ?_);refine JS.box (v:= .agg #[sV a1 p0 c2,iV 0,.int .u64 ((2685821657736338717:Nat):Int)]) V V V ac V λal am=>C 2 V ?_;obtain rfl:=oi K;exact A2 func4 V V (ag AN V ⟨al,a1,c2,V,(by first | rfl | simp | (simp [Value.cells])),Z⟩ am)
def f92(fu_:Nat)(p0:Int)(p1:Int)(p2:Int):Option Bool:= Option.bind (if p1<=p0 then(some (decide (p0<=p2))) else(some false)) λx1=> some x1
def f88(fu_:Nat)(p0:Int)(p1:Int×Int×Int)(p2:Int):Option Int:= (Av (p0 - 1)).bind λK=> (f92 fu_ p1.1 0 K).bind λO=> Option.bind (if(!O)=true then(some true) else((Av (p0 - 1)).bind λU=> (f92 fu_ p1.2.1 0 U).bind λY=> some (!Y))) λZ=> if Z=true then(some 3) else(if p1.1=p1.2.1 then(some 8) else((f92 fu_ p1.2.2 1 p2).bind λac=> if(!ac)=true then(some 1) else(some 0)))
def Nn(fu_:Nat)(p0:Bh)(O:Int)(K:Int):Option (Br Int ((Int)⊕(Unit))):= (ix p0.1 O).bind λU=> if K<(U.length:Int) then((ix p0.1 O).bind λY=> (ix Y K).bind λZ=> (f92 fu_ Z 1 9).bind λac=> if(!ac)=true then(some (.done (Sum.inl 1))) else((Av (K+1)).bind λag=> some (.more ag))) else(some (.done (Sum.inr ())))
def No(fu_:Nat)(p0:Bh)(K:Int):Option (Br Int ((Int)⊕(Unit))):= if K<(p0.1.length:Int) then((ix p0.1 K).bind λO=> if 3<(O.length:Int) then(some (.done (Sum.inl 6))) else(Option.bind (iter (Nn fu_ p0 K) fu_ 0) λU=> Sum.elim (λr=>some (.done (Sum.inl r))) (λZ=> (Av (K+1)).bind λY=> some (.more Y)) U)) else(some (.done (Sum.inr ())))
def R1(fu_:Nat)(p0:Bh)(K:Int):Option (Br Int ((Int)⊕(Unit))):= if K<(p0.2.length:Int) then((ix p0.2 K).bind λU=> (f88 fu_ (p0.1.length:Int) U 9).bind λO=> if O≠0 then(some (.done (Sum.inl O))) else((Av (K+1)).bind λY=> some (.more Y))) else(some (.done (Sum.inr ())))
def f48(fu_:Nat)(p0:Bh):Option Int:= if(p0.1.length:Int)<2 then(some 7) else(if 5<(p0.1.length:Int) then(some 6) else(Option.bind (iter (No fu_ p0) fu_ 0) λK=> Sum.elim (λr=>some r) (λU=> if 8<(p0.2.length:Int) then(some 6) else(Option.bind (iter (R1 fu_ p0) fu_ 0) λO=> Sum.elim (λr=>some r) (λY=> some 0) O)) K))
variable {E:LH}
def f83(fu_:Nat)(p0:Cd):Option (Nat×(Cd)):= (Av (p0.2.1+1)).bind λO=> Option.bind (if O<=(p0.1.length:Int) then((Av (O - 1)).bind λU=> (ix p0.1 U).bind λY=> some (((((Cv O)*11400714819323198485) % 2 ^ 64) ^^^ (((Cv Y)*14029467366897019727) % 2 ^ 64)) % 2 ^ 64)) else(some (((Cv O)*11400714819323198485) % 2 ^ 64))) λK=> some (((((((((((p0.2.2 ^^^ K) % 2 ^ 64)*18397679294719823053) % 2 ^ 64) ^^^ (((((p0.2.2 ^^^ K) % 2 ^ 64)*18397679294719823053) % 2 ^ 64)>>>33)) % 2 ^ 64)*14181476777654086739) % 2 ^ 64) ^^^ (((((((((p0.2.2 ^^^ K) % 2 ^ 64)*18397679294719823053) % 2 ^ 64) ^^^ (((((p0.2.2 ^^^ K) % 2 ^ 64)*18397679294719823053) % 2 ^ 64)>>>33)) % 2 ^ 64)*14181476777654086739) % 2 ^ 64)>>>29)) % 2 ^ 64)>>>11,(p0.1,O,(((((p0.2.2 ^^^ K) % 2 ^ 64)*18397679294719823053) % 2 ^ 64) ^^^ (((((p0.2.2 ^^^ K) % 2 ^ 64)*18397679294719823053) % 2 ^ 64)>>>33)) % 2 ^ 64))
theorem ju{bk:Nat}{a1:Aq}{c2:Nat}{p0:Cd}(al:Ao rI E a1 c2 p0.1){fu_:Nat}{r:Nat×(Cd)}(am:f83 fu_ p0=some r):AT J 39 [Al bk 0] E [(bk,.cells #[sV a1 p0.1 c2,iV p0.2.1,.int .u64 ((p0.2.2:Nat):Int)] 43 (0,0))] (λw E' B'=>∃(ap:Aq) (aq:Nat),w= .int .u64 ((r.1:Nat):Int)/\B'= [(bk,.cells #[sV ap r.2.1 aq,iV r.2.2.1,.int .u64 ((r.2.2.2:Nat):Int)] 43 (0,0))]/\Ao rI E' ap aq r.2.1):=by
 refine Bp func39 λQ bv cs H av a2=>?_;unfold f83 at am;refine C 8 V (JL.fd underlying43 AH V V V ?_);refine An (v:=iV p0.2.1) V (λρ h=>Yl.load Ba (h _ _ V) (B5 (j:=0) (off:=1) av V V)) ?_;obtain⟨Y,a3,a4⟩:=bs am;refine Bv a3 V V V (C 1 V ?_);refine JL.fd underlying43 AH V V V (JS.sx 0 av AH λU=>?_);refine C 5 V (JL.fd underlying43 AH V V V ?_);refine An (v:=iV Y) V (λρ h=>Yl.load Ba (h _ _ V) (B5 (j:=0) (off:=1) U V V)) (An (v:= .int .u64 ((Cv Y:Nat):Int)) V (λρ h=>Yl.Cv underlying3 underlying41 (h _ _ V)) ?_);refine An (v:= .int .u64 ((((Cv Y)*11400714819323198485) % 2 ^ 64:Nat):Int)) V (λρ h=>OJ (h _ _ V) (h _ _ V)) (C 4 V ?_);refine Et 9 [bk] ⟨⟨0,_,V⟩,trivial⟩ U λK=>A7 K V [0,1] V (JG.fd 2 K underlying43 AH V V V V ?_);refine HL 3 K 1 0 U Ba ?_;refine A7 K V [4,5] V (JG.fd 6 K underlying43 GV V V V V ?_);refine HL 7 K 0 0 U Kl ?_;refine AQ 8 K V V (λρ h s' Z=>Yl.len V underlying22 (h _ _ V)) (CZ [9] ?_);obtain⟨O,a5,a6⟩:=bs a4;refine C 2 V (ES [bX bk #[sV a1 p0.1 c2,iV Y,.int .u64 ((p0.2.2:Nat):Int)] 43] [(0,Al bk 0),(3,.int .u64 ((O:Nat):Int))] (λbw aw ay=>?_) (λaz=>?_))
 .refine C 5 V (JL.fd underlying43 Kq V V V ?_);refine An (v:= .int .u64 ((p0.2.2:Nat):Int)) V (λρ h=>Yl.load N2 (h _ _ V) (B5 (j:=0) (off:=2) ay V V)) (C 1 V ?_);refine An (v:= .int .u64 (((p0.2.2 ^^^ O) % 2 ^ 64:Nat):Int)) V (λρ h=>Ll (h _ _ V) (h _ _ V)) (An (v:= .int .u64 (((((p0.2.2 ^^^ O) % 2 ^ 64)*18397679294719823053) % 2 ^ 64:Nat):Int)) V (λρ h=>OJ (h _ _ V) (h _ _ V)) ?_);refine C 1 V (JL.fd underlying43 Kq V V V ?_);refine JS.sx 0 ay Kq λac=>?_;refine C 2 V (Et 11 [bk] ⟨⟨0,_,V⟩,trivial⟩ ac λK=>?_);refine A7 K V [0,1,2] V (JG.fd 3 K underlying43 Kq V V V V ?_);refine HL 4 K 2 0 ac N2 ?_;refine A7 K V [5,6] V (JG.fd 7 K underlying43 Kq V V V V ?_);refine HL 8 K 2 0 ac N2 ?_;refine AQ (v:= .int .u64 ((((((p0.2.2 ^^^ O) % 2 ^ 64)*18397679294719823053) % 2 ^ 64)>>>33:Nat):Int)) 9 K V V (λρ h s' Z=>Li 33 (h _ _ V) (h _ _ V) (by decide)) (AQ (v:= .int .u64 (((((((p0.2.2 ^^^ O) % 2 ^ 64)*18397679294719823053) % 2 ^ 64) ^^^ (((((p0.2.2 ^^^ O) % 2 ^ 64)*18397679294719823053) % 2 ^ 64)>>>33)) % 2 ^ 64:Nat):Int)) 10 K V V (λρ h s' Z=>Ll (h _ _ V) (h _ _ V)) ?_);refine CZ [11,12,13] (C 1 V ?_);refine JL.fd underlying43 Kq V V V (JS.sx 0 ac Kq λa0=>?_);refine C 5 V (JL.fd underlying43 Kq V V V ?_);refine An (v:= .int .u64 (((((((p0.2.2 ^^^ O) % 2 ^ 64)*18397679294719823053) % 2 ^ 64) ^^^ (((((p0.2.2 ^^^ O) % 2 ^ 64)*18397679294719823053) % 2 ^ 64)>>>33)) % 2 ^ 64:Nat):Int)) V (λρ h=>Yl.load N2 (h _ _ V) (B5 (j:=0) (off:=2) a0 V V)) (An (v:= .int .u64 (((((((((p0.2.2 ^^^ O) % 2 ^ 64)*18397679294719823053) % 2 ^ 64) ^^^ (((((p0.2.2 ^^^ O) % 2 ^ 64)*18397679294719823053) % 2 ^ 64)>>>33)) % 2 ^ 64)*14181476777654086739) % 2 ^ 64:Nat):Int)) V (λρ h=>OJ (h _ _ V) (h _ _ V)) ?_);refine C 6 V (An (v:= .int .u64 ((((((((((p0.2.2 ^^^ O) % 2 ^ 64)*18397679294719823053) % 2 ^ 64) ^^^ (((((p0.2.2 ^^^ O) % 2 ^ 64)*18397679294719823053) % 2 ^ 64)>>>33)) % 2 ^ 64)*14181476777654086739) % 2 ^ 64)>>>29:Nat):Int)) V (λρ h=>Li 29 (h _ _ V) (h _ _ V) (by decide)) ?_);refine An (v:= .int .u64 (((((((((((p0.2.2 ^^^ O) % 2 ^ 64)*18397679294719823053) % 2 ^ 64) ^^^ (((((p0.2.2 ^^^ O) % 2 ^ 64)*18397679294719823053) % 2 ^ 64)>>>33)) % 2 ^ 64)*14181476777654086739) % 2 ^ 64) ^^^ (((((((((p0.2.2 ^^^ O) % 2 ^ 64)*18397679294719823053) % 2 ^ 64) ^^^ (((((p0.2.2 ^^^ O) % 2 ^ 64)*18397679294719823053) % 2 ^ 64)>>>33)) % 2 ^ 64)*14181476777654086739) % 2 ^ 64)>>>29)) % 2 ^ 64:Nat):Int)) V (λρ h=>Ll (h _ _ V) (h _ _ V)) (An (v:= .int .u64 ((((((((((((p0.2.2 ^^^ O) % 2 ^ 64)*18397679294719823053) % 2 ^ 64) ^^^ (((((p0.2.2 ^^^ O) % 2 ^ 64)*18397679294719823053) % 2 ^ 64)>>>33)) % 2 ^ 64)*14181476777654086739) % 2 ^ 64) ^^^ (((((((((p0.2.2 ^^^ O) % 2 ^ 64)*18397679294719823053) % 2 ^ 64) ^^^ (((((p0.2.2 ^^^ O) % 2 ^ 64)*18397679294719823053) % 2 ^ 64)>>>33)) % 2 ^ 64)*14181476777654086739) % 2 ^ 64)>>>29)) % 2 ^ 64)>>>11:Nat):Int)) V (λρ h=>Li 11 (h _ _ V) (h _ _ V) (by decide)) ?_);refine C 2 V ?_;obtain rfl:=oi a6;exact A2 func39 V V (a2 aw V ⟨a1,c2,V,V,(al.M aw)⟩ a0)
 .refine A1 a5 (λa7 a8=>?_) (λa7 a9=>?_)
  .refine Et 14 [bk] ⟨⟨0,_,V⟩,trivial⟩ U λK=>A7 K V [0,1,2] V (JG.fd 3 K underlying43 GV V V V V ?_);refine HL 4 K 0 0 U Kl ?_;refine A7 K V [5,6] V (JG.fd 7 K underlying43 AH V V V V ?_);refine HL 8 K 1 0 U Ba ?_;obtain⟨bx,bb,be⟩:=bs a8;refine AQ 9 K V V (λρ h s' Z=>El (h _ _ V) (h _ _ V) bb) ?_;obtain⟨ag,bi,bn⟩:=bs be;refine Fo 10 al bi K underlying22 AH ?_;rintro bz b0 _ rfl bo;refine JG.lp 11 K 0 bo U ⟨⟨0,_,V⟩,trivial⟩ Ba ?_;refine AQ (v:= .int .u64 ((Cv ag:Nat):Int)) 12 K V V (λρ h s' Z=>Yl.Cv underlying3 underlying41 (h _ _ V)) (AQ (v:= .int .u64 ((((Cv ag)*14029467366897019727) % 2 ^ 64:Nat):Int)) 13 K V V (λρ h s' Z=>OJ (h _ _ V) (h _ _ V)) ?_);refine CZ [14,15] (An (v:= .int .u64 ((((((Cv Y)*11400714819323198485) % 2 ^ 64) ^^^ (((Cv ag)*14029467366897019727) % 2 ^ 64)) % 2 ^ 64:Nat):Int)) V (λρ h=>Ll (h _ _ V) (h _ _ V)) ?_);refine C 2 V ?_;obtain rfl:=oi bn;exact az AN U V
  .refine JL.skip ?_;obtain rfl:=oi a9;exact az AN U V
def f36(fu_:Nat)(p0:Cd)(p1:Int):Option (Int×(Cd)):= (f83 fu_ p0).bind λK=> if p1<1 then(some (0,K.2)) else((PH K.1 ((Cv p1+1) % 2 ^ 64)).bind λO=> some (JE O,K.2))
theorem KJ{bk:Nat}{a1:Aq}{c2:Nat}{p0:Cd}{p1:Int}(aq:Ao rI E a1 c2 p0.1){fu_:Nat}{r:Int×(Cd)}(K:f36 fu_ p0 p1=some r):AT J 15 [Al bk 0,iV p1] E [(bk,.cells #[sV a1 p0.1 c2,iV p0.2.1,.int .u64 ((p0.2.2:Nat):Int)] 43 (0,0))] (λw E' B'=>∃(O:Aq) (U:Nat),w=iV r.1/\B'= [(bk,.cells #[sV O r.2.1 U,iV r.2.2.1,.int .u64 ((r.2.2.2:Nat):Int)] 43 (0,0))]/\Ao rI E' O U r.2.1):=by
 refine Bp func15 λQ a5 cs H av Y=>?_;unfold f36 at K;obtain⟨a6,aw,ay⟩:=bs K;refine C 7 V (Cc 0 (ju aq aw) V V (A5 func39 V) av V ?_);rintro _ a7 _ Z ⟨ac,ag,rfl,rfl,al⟩ am;refine C 8 V (A1 ay (λaz a0=>?_) (λaz a2=>?_))
 .refine C 4 V ?_;obtain rfl:=oi a0;exact A2 func15 V V (Y Z V ⟨ac,ag,V,V,al⟩ am)
 .refine C 5 V (An (v:= .int .u64 ((Cv p1:Nat):Int)) V (λρ h=>Yl.Cv underlying3 underlying41 (h _ _ V)) ?_);refine An (v:= .int .u64 (((Cv p1+1) % 2 ^ 64:Nat):Int)) V (λρ h=>cJ (h _ _ V) (h _ _ V)) ?_;obtain⟨ap,a3,a4⟩:=bs a2;refine An (v:= .int .u64 ((ap:Nat):Int)) V (λρ h=>aN (h _ _ V) (h _ _ V) a3) (An (v:=iV (JE ap)) V (λρ h=>Wl underlying41 underlying3 (h _ _ V)) ?_);refine C 2 V ?_;obtain rfl:=oi a4;exact A2 func15 V V (Y Z V ⟨ac,ag,V,V,al⟩ am)
def f37(fu_:Nat)(p0:Cd)(p1:Int)(p2:Int):Option (Int×(Cd)):= (Av (p2 - p1)).bind λO=> (f36 fu_ p0 O).bind λK=> (Av (p1+K.1)).bind λU=> some (U,K.2)
theorem Sb{bk:Nat}{a1:Aq}{c2:Nat}{p0:Cd}{p1:Int}{p2:Int}(Y:Ao rI E a1 c2 p0.1){fu_:Nat}{r:Int×(Cd)}(K:f37 fu_ p0 p1 p2=some r):AT J 13 [Al bk 0,iV p1,iV p2] E [(bk,.cells #[sV a1 p0.1 c2,iV p0.2.1,.int .u64 ((p0.2.2:Nat):Int)] 43 (0,0))] (λw E' B'=>∃(O:Aq) (U:Nat),w=iV r.1/\B'= [(bk,.cells #[sV O r.2.1 U,iV r.2.2.1,.int .u64 ((r.2.2.2:Nat):Int)] 43 (0,0))]/\Ao rI E' O U r.2.1):=by
 refine Bp func13 λQ a3 cs H Z ac=>?_;unfold f37 at K;obtain⟨a4,ag,al⟩:=bs K;refine C 10 V (BV ag V V V ?_);obtain⟨a5,am,ap⟩:=bs al;refine Cc 0 (KJ Y am) V V Km Z V ?_;rintro _ a6 _ aq ⟨av,aw,rfl,rfl,ay⟩ az;obtain⟨a7,a0,a2⟩:=bs ap;refine Bv a0 V V V (C 2 V ?_);obtain rfl:=oi a2;exact A2 func13 V V (ac aq V ⟨av,aw,V,V,ay⟩ az)
def f32(fu_:Nat)(p0:Cd)(p1:Int):Option (Bool×(Cd)):= (Av (p1 - 1)).bind λO=> (f36 fu_ p0 O).bind λK=> some (decide (K.1=0),K.2)
theorem iY{bk:Nat}{a1:Aq}{c2:Nat}{p0:Cd}{p1:Int}(Y:Ao rI E a1 c2 p0.1){fu_:Nat}{r:Bool×(Cd)}(K:f32 fu_ p0 p1=some r):AT J 14 [Al bk 0,iV p1] E [(bk,.cells #[sV a1 p0.1 c2,iV p0.2.1,.int .u64 ((p0.2.2:Nat):Int)] 43 (0,0))] (λw E' B'=>∃(O:Aq) (U:Nat),w= .bool r.1/\B'= [(bk,.cells #[sV O r.2.1 U,iV r.2.2.1,.int .u64 ((r.2.2.2:Nat):Int)] 43 (0,0))]/\Ao rI E' O U r.2.1):=by
 refine Bp func14 λQ a0 cs H Z ac=>?_;unfold f32 at K;obtain⟨a2,ag,al⟩:=bs K;refine C 8 V (BV ag V V V ?_);obtain⟨a3,am,ap⟩:=bs al;refine Cc 0 (KJ Y am) V V Km Z V ?_;rintro _ a4 _ aq ⟨av,aw,rfl,rfl,ay⟩ az;refine C 3 V ?_;obtain rfl:=oi ap;exact A2 func14 V V (ac aq V ⟨av,aw,V,V,ay⟩ az)
def f81(fu_:Nat)(p0:Cd)(p1:List Int):Option (Int×(Cd)):= (Av ((p1.length:Int) - 1)).bind λO=> (f36 fu_ p0 O).bind λK=> (ix p1 K.1).bind λU=> some (U,K.2)
theorem WU{bk:Nat}{a1:Aq}{c2:Nat}{K:Aq}{O:Nat}{p0:Cd}{p1:List Int}(ag:Ao rI E a1 c2 p0.1)(al:Ao rI E K O p1){fu_:Nat}{r:Int×(Cd)}(U:f81 fu_ p0 p1=some r):AT J 16 [Al bk 0,sV K p1 O] E [(bk,.cells #[sV a1 p0.1 c2,iV p0.2.1,.int .u64 ((p0.2.2:Nat):Int)] 43 (0,0))] (λw E' B'=>∃(Y:Aq) (Z:Nat),w=iV r.1/\B'= [(bk,.cells #[sV Y r.2.1 Z,iV r.2.2.1,.int .u64 ((r.2.2.2:Nat):Int)] 43 (0,0))]/\Ao rI E' Y Z r.2.1):=by
 refine Bp func16 λQ a7 cs H am ap=>?_;unfold f81 at U;refine C 9 V (JL.ln underlying22 V V V ?_);obtain⟨a8,aq,av⟩:=bs U;refine BV aq V V V ?_;obtain⟨a9,aw,ay⟩:=bs av;refine Cc 0 (KJ ag aw) V V Km am V ?_;rintro _ bb _ ac ⟨az,a0,rfl,rfl,a2⟩ a3;obtain⟨be,a4,a5⟩:=bs ay;refine JS.ix (al.M ac) a4 underlying22 AH ?_;rintro bi bn _ rfl a6;refine Dh 0 a6 Ba V V V (C 2 V ?_);obtain rfl:=oi a5;exact A2 func16 V V (ap ac V ⟨az,a0,V,V,a2⟩ a3)
def f40(fu_:Nat)(p0:Cd)(p1:Int):Option (Dq×(Cd)):= (Av (p1 - 1)).bind λZ=> (f36 fu_ p0 Z).bind λK=> (f37 fu_ K.2 1 9).bind λO=> (f81 fu_ O.2 ([1,2,2,3,O.1]:List Int)).bind λU=> (Av (p1 - 1)).bind λac=> (f37 fu_ U.2 1 ac).bind λY=> (Av (K.1+Y.1)).bind λag=> (P2 ag p1).bind λal=> some ((K.1,al,U.1),Y.2)
theorem Wy{bk:Nat}{a1:Aq}{c2:Nat}{p0:Cd}{p1:Int}(ay:Ao rI E a1 c2 p0.1){fu_:Nat}{r:Dq×(Cd)}(ac:f40 fu_ p0 p1=some r):AT J 17 [Al bk 0,iV p1] E [(bk,.cells #[sV a1 p0.1 c2,iV p0.2.1,.int .u64 ((p0.2.2:Nat):Int)] 43 (0,0))] (λw E' B'=>∃(ag:Aq) (al:Nat),w= .agg #[iV r.1.1,iV r.1.2.1,iV r.1.2.2]/\B'= [(bk,.cells #[sV ag r.2.1 al,iV r.2.2.1,.int .u64 ((r.2.2.2:Nat):Int)] 43 (0,0))]/\Ao rI E' ag al r.2.1):=by
 refine Bp func17 λQ c9 cs H az a0=>?_;unfold f40 at ac;refine C 2 V (B2 az BR λdd a2=>?_);obtain⟨ea,a3,a4⟩:=bs ac;refine C 5 V (BV a3 V V V ?_);obtain⟨O,a5,a6⟩:=bs a4;refine Cc 0 (KJ ay a5) V V Km a2 V ?_;rintro _ eb _ a7 ⟨ec,ed,rfl,rfl,a8⟩ a9;obtain⟨am,bb,be⟩:=bs a6;refine C 2 V (Cc 0 (Sb a8 bb) V V Qn a9 V ?_);rintro _ ee _ bi ⟨ef,eg,rfl,rfl,bn⟩ bo;refine Gh (pp:=rI) [iV 1,iV 2,iV 2,iV 3,iV am.1] [1,2,2,3,am.1] V V V underlying22 AH CR (by decide) V V V ⟨V,V,V,V,V,trivial⟩ bo λej ek bv bw=>Cp 2 bv bw V λel ap bx bz=>?_;obtain⟨U,b0,b1⟩:=bs be;refine Cc 0 (WU (bn.M ap) bx b0) V V (A5 func16 V) bz V ?_;rintro _ em _ b2 ⟨eo,ep,rfl,rfl,b3⟩ b4;refine An (v:= .agg #[iV O.1,iV 0,iV U.1]) V (λρ h=>C4 [(0,1),(1,1),(2,1)] h BR underlying49 ⟨V,AX type3,V,AX type3,V,AX type3,trivial⟩ V V) (B2 b4 BR λaq b5=>?_);refine JS.sx 3 b5 Bt λZ=>?_;refine C 2 V (Et 8 [aq] ⟨⟨3,_,V⟩,trivial⟩ Z λK=>?_);refine JG.fd 0 K underlying49 AH V V V V (HL 1 K 0 3 Z Ba ?_);refine A7 K V [2,3] V ?_;obtain⟨b6,ca,cc⟩:=bs b1;refine AQ 4 K V V (λρ h s' ce=>El (h _ _ V) (h _ _ V) ca) (Dj 7 K V V ?_);obtain⟨er,ci,co⟩:=bs cc;refine Om (i:=5) (vs:= [Al bk 0,iV 1,iV b6]) 0 (by exact λx cp=>HH.mem (bks:= [aq]) (by exact⟨⟨3,_,rfl⟩,trivial⟩) x (by simpa [AD] using cp)) (Sb b3 ci) (by decide+kernel) V V V Qn V Z V ?_;rintro _ eu _ ct ⟨cw,cy,rfl,rfl,c0⟩ c1;obtain⟨ew,c3,c4⟩:=bs co;refine AQ 6 K V V (λρ h s' ce=>Dy (h _ _ V) (h _ _ V) c3) (CZ [8,9,10] ?_);obtain⟨Y,c5,c6⟩:=bs c4;refine An (v:=iV Y) V (λρ h=>dg (h _ _ V) (h _ _ V) c5) (JL.fd underlying49 AH V V V ?_);refine JS.sx 3 c1 AH λav=>?_;refine C 3 V (An V (λρ h=>IN (vs:= [iV O.1,iV Y,iV U.1]) DX Bt (h _ _ V) (Hy (off:=0) 3 av V V)) ?_);refine JS.sx 1 av Bt λc7=>?_;refine JL.done (JS.drop 3 c7 V λaw=>?_);obtain rfl:=oi c6;refine JL.ret (v:= .agg #[iV O.1,iV Y,iV U.1]) V V (BK.list func17 V (vs:= [.agg #[iV O.1,iV Y,iV U.1]]) ⟨⟨_,V,Ld.many (vs:= [iV O.1,iV Y,iV U.1]) DX Bt (Hy (off:=0) 1 aw V V)⟩,trivial⟩) (EO 1 aw V λc8=>?_);exact a0 ((((a7.Ad bi).Ad ap).Ad b2).Ad ct) V ⟨cw,cy,V,V,c0⟩ c8
end Pal
namespace Pal
open Go Go.Conc
variable {P:Program}{J:Judge P}{Q:Gs_}{b:Frame}{n:Nat}{ds:Ld_}{ops:Ao_}{cs:Lf_}{fuel:Nat}{D:Nat->Bool}{listed:Array Bool}{L:Env}{s:St}{E' H:LH}{S:List Seg}
variable {d:Option Tmp}{y:Operand}{t u ty e:TypeId}{p:String}{af:Ae_}{g:On_}{v:Value}{i:Nat}{kd:IntKind}
section
variable {k:Li_}{m:Nat}{E:LH}
variable {x:Operand}
theorem Take.VV{f:FuncId}{args:Array Operand}{ats:Array TypeId}{vs:Lv_}{seg:Seg}{R:Value->LH->Seg->Prop}(j:Nat)(O:Au E H S)(ap:AT J f vs E seg R)
  (aq:ops[i]? =some ⟨d,.call ⟨.value (.func f),args,ats⟩,ty,p,af,g⟩) (hw:AY L ops ⟨d,.call ⟨.value (.func f),args,ats⟩,ty,p,af,g⟩=some true) (av:Bu n d=true) (hb:Ec P f=true) (aw:evs L args.toList=some vs) (U:S[j]? =some seg)
  (ay:∀v E' seg',Le E E'->R v E' seg'->Au E' H (S.set j seg')->AZ J Q b n ds ops k cs m DR fuel (Bm listed i) (AB L d v) (Ak E' H (S.set j seg'))):
  Take J Q b n ds ops k cs m DR fuel listed L (Ak E H S) i:=by
 have Y:S.flatten.Perm (seg++(S.set j []).flatten):=(EG (seg':=seg) U).1.trans List.perm_append_comm;have Z:Nd E H (seg++(S.set j []).flatten):=Nd.perm O Y;have az:Ak E H S=mk E (Bq (S.set j []).flatten H) seg:=by
  rw [show Ak E H S=mk E H S.flatten from rfl,Fs O Y];unfold mk;rw [F0]
 have ac:=EW.LG (ap (Bq (S.set j []).flatten H) (Nd.front Z)) (by rintro v s' ⟨E',B',_,_,_,rfl⟩;rfl);rw [← az] at ac;refine⟨_,aq,by simp [Ey],av,hw,λρ ag=>?_⟩;have a0:args.map ρ=vs.toArray:=by
  rw [← Gf ag aw];apply Array.ext';simp
 have a1:ρ (.func f)= .func (.func f) #[] #[]:=ag _ _ V;simp only [execOp,resolve,bind,Sem.bind,Deferred.ofValue,a1,pure,invoke];have e: #[]++args.map ρ++ #[]=vs.toArray:=by rw [a0];simp
 rw [e];refine JN hb ?_;rw [L3];refine⟨_,ac,?_⟩;rintro v be ⟨⟨E',B',hle,a2,a3,rfl⟩,w,a4⟩;have e2:mk E' (Bq (S.set j []).flatten H) B'=mk E' H (B'++(S.set j []).flatten):=by unfold mk;rw [F0]
 have a5:Nd E H (S.set j []).flatten:=by
  have:=Z;rw [Nd.iff] at this ⊢;rw [List.map_append,List.nodup_append] at this;exact⟨this.1.2.1,λq a6=>this.2 q (List.mem_append_right _ a6)⟩
 have a7:Nd E' H (S.set j []).flatten:=a5.grow λx K=>by
  have a8:=a4.d x K;have a9:Bq B' (Bq (S.set j []).flatten H) x=none:=a8;exact(H7 a9).1
 have al:Nd E' H (B'++(S.set j []).flatten):=Nd.glue a3 a7;have am:(B'++(S.set j []).flatten).Perm (S.set j B').flatten:=List.perm_append_comm.trans (EG U).2.symm;have bb:Au E' H (S.set j B'):=Nd.perm al am;rw [e2,Fs al am];exact⟨V,λx o K=>hle _ _ K,ay v E' B' hle a2 bb⟩
end
open Go.Proofs Go.Proofs.Tryz
variable {J:Judge Tryz.prog}{E:LH}
def PE(fu_:Nat)(Y:Bool×(Cd))(K:(List Int)×Int×Nat×(List Int)×Int):Option (Br ((List Int)×Int×Nat×(List Int)×Int) ((List Int)×Cd)):= if 0<K.2.2.2.2 then(Option.bind (if Y.1=true then((room K.2.2.2.1 1).bind λZ=> some (Z,K.1,K.2.1,K.2.2.1)) else((f81 fu_ (K.1,K.2.1,K.2.2.1) ([1,1,2,2,3,5]:List Int)).bind λO=> (room K.2.2.2.1 O.1).bind λac=> some (ac,O.2.1,O.2.2.1,O.2.2.2))) λU=> (Av (K.2.2.2.2 - 1)).bind λag=> some (.more (U.2.1,U.2.2.1,U.2.2.2,U.1,ag))) else(some (.done (K.2.2.2.1,K.1,K.2.1,K.2.2.1)))
def PD(fu_:Nat)(Y:Int×(Cd))(Z:Bool×(Cd))(K:BC×(List Int)×Int×Nat×Int):Option (Br (BC×(List Int)×Int×Nat×Int) ((List Int)×Int×Nat×BC)):= if K.2.2.2.2<Y.1 then((f36 fu_ (K.2.1,K.2.2.1,K.2.2.2.1) 3).bind λO=> Option.bind (iter (PE fu_ Z) fu_ (O.2.1,O.2.2.1,O.2.2.2,[],O.1)) λU=> (room K.1 U.1).bind λac=> (Av (K.2.2.2.2+1)).bind λag=> some (.more (ac,U.2.1,U.2.2.1,U.2.2.2,ag))) else(some (.done (K.2.1,K.2.2.1,K.2.2.2.1,K.1)))
def Pm(fu_:Nat)(U:Int×(Cd))(K:AG×(List Int)×Int×Nat×Int):Option (Br (AG×(List Int)×Int×Nat×Int) ((List Int)×Int×Nat×AG)):= if 0<K.2.2.2.2 then((f40 fu_ (K.2.1,K.2.2.1,K.2.2.2.1) U.1).bind λO=> (EK K.1 ([O.1]:AG)).bind λY=> (Av (K.2.2.2.2 - 1)).bind λZ=> some (.more (Y,O.2.1,O.2.2.1,O.2.2.2,Z))) else(some (.done (K.2.1,K.2.2.1,K.2.2.2.1,K.1)))
def f31(fu_:Nat)(p0:Cd)(p1:Int)(p2:Int):Option (Bh×(Cd)):= (f37 fu_ p0 2 p1).bind λZ=> (f32 fu_ Z.2 3).bind λK=> Option.bind (iter (PD fu_ Z K) fu_ ([],K.2.1,K.2.2.1,K.2.2.2,0)) λO=> (f36 fu_ (O.1,O.2.1,O.2.2.1) p2).bind λU=> Option.bind (iter (Pm fu_ Z) fu_ ([],U.2.1,U.2.2.1,U.2.2.2,U.1)) λY=> some ((O.2.2.2,Y.2.2.2),(Y.1,Y.2.1,Y.2.2.1))
theorem jb{bk:Nat}{a1:Aq}{c2:Nat}{p0:Cd}{p1:Int}{p2:Int}(hs:Ao rI E a1 c2 p0.1){fu_:Nat}{r:Bh×(Cd)}(e4:f31 fu_ p0 p1 p2=some r):AT J 5 [Al bk 0,iV p1,iV p2] E [(bk,.cells #[sV a1 p0.1 c2,iV p0.2.1,.int .u64 ((p0.2.2:Nat):Int)] 43 (0,0))] (λw E' B'=>∃(e5:Aq) (e6:Nat) (e7:Aq) (e8:Nat) (ff:Aq) (fk:Nat),w= .agg #[sV e5 r.1.1 e6,sV e7 r.1.2 e8]/\B'= [(bk,.cells #[sV ff r.2.1 fk,iV r.2.2.1,.int .u64 ((r.2.2.2:Nat):Int)] 43 (0,0))]/\Ao (rL rI) E' e5 e6 r.1.1/\Ao Az E' e7 e8 r.1.2/\Ao rI E' ff fk r.2.1):=by
 refine Bp func5 λQ lR cs H ht hu=>?_;unfold f31 at e4;refine C 2 V (B2 ht Kn λO hv=>?_);refine C 3 V (B2 hv Kn λU hw=>?_);obtain⟨az,hx,hy⟩:=bs e4;refine C 5 V (Cc 0 (Sb hs hx) V V Qn hw V ?_);rintro _ lS _ hz ⟨hA,hB,rfl,rfl,hC⟩ hD;refine BQ (S':= [[(bk,.cells #[sV hA az.2.1 hB,iV az.2.2.1,.int .u64 ((az.2.2.2:Nat):Int)] 43 (0,0))],[(O,.cells #[nS,nS] 28 (0,0))],[(U,.cells #[nS,nS] 28 (0,0))]]) V hD λhE=>?_;obtain⟨b5,hF,hG⟩:=bs hy;refine C 5 V (Cc 0 (iY hC hF) V V (A5 func14 V) hE V ?_);rintro _ ea _ hH ⟨hI,hK,rfl,rfl,hL⟩ hM;obtain⟨Y,hN,hO⟩:=bs hG;refine C 7 V (Bx (λL s=>∃(b6:LH) (eb:Aq) (ec:Nat) (ac:Aq) (ag:Nat) (ay:Seg),Jn ea H b6 [bX bk #[sV eb Y.1 ec,iV Y.2.1,.int .u64 ((Y.2.2.1:Nat):Int)] 43,bX O #[nS,nS] 28,bX U #[sV ac Y.2.2.2 ag,nS] 28,ay] [(0,Al bk 0),(2,iV p2),(6,Al O 0),(7,Al U 0),(8,iV az.1)] L s (Ao rI b6 eb ec Y.1/\OL 22 (rL rI) b6 ac ag ay Y.2.2.2)) ?_ ?_)
 .rintro _ _ ⟨b6,eb,ec,ac,ag,ay,rfl,rfl,hP,hQ,hR,hS⟩;obtain⟨lT,hT,hU⟩:=bs hO;refine C 5 V (Cc 0 (KJ hR hT) V V Km hQ V ?_);rintro _ ed _ fl ⟨hV,hW,rfl,rfl,hX⟩ hY;obtain⟨al,h0,h1⟩:=bs hU;refine C 2 V (Bx (λL s=>∃(ca:LH) (bv:Aq) (bw:Nat) (a2:Aq) (a3:Nat) (cc:Seg),Jn ed H ca [bX bk #[sV bv al.1 bw,iV al.2.1,.int .u64 ((al.2.2.1:Nat):Int)] 43,bX O #[nS,nS] 28,bX U #[sV ac Y.2.2.2 ag,sV a2 al.2.2.2 a3] 28,ay,cc] [(6,Al O 0),(7,Al U 0)] L s (Ao rI ca bv bw al.1/\OL 49 Az ca a2 a3 cc al.2.2.2)) ?_ ?_)
  .rintro _ _ ⟨ca,bv,bw,a2,a3,cc,rfl,rfl,fm,fo,h2,h3⟩;refine C 2 V (An V (λρ h=>IN (vs:= [sV ac Y.2.2.2 ag,sV a2 al.2.2.2 a3]) Fq De (h _ _ V) (Hy (off:=0) 2 fo V V)) ?_);refine JS.sx 1 fo De λh4=>?_;refine BQ (S':= [[(bk,.cells #[sV bv al.1 bw,iV al.2.1,.int .u64 ((al.2.2.1:Nat):Int)] 43 (0,0))],[(O,.cells #[sV ac Y.2.2.2 ag,sV a2 al.2.2.2 a3] 28 (0,0))],[(U,.cells #[sV ac Y.2.2.2 ag,sV a2 al.2.2.2 a3] 28 (0,0))],ay,cc]) V h4 λh5=>JL.done (Cp 3 (hS.M (fl.Ad fm)) h5 V λlU ee h6 h7=>?_);refine Cp 4 (h3.M ee) h7 V λlV ef h8 h9=>JS.drop 2 h9 V λfs=>?_;obtain rfl:=oi h1;refine JL.ret (v:= .agg #[sV ac Y.2.2.2 ag,sV a2 al.2.2.2 a3]) V V (BK.list func5 V (vs:= [.agg #[sV ac Y.2.2.2 ag,sV a2 al.2.2.2 a3]]) ⟨⟨_,V,Ld.many (vs:= [sV ac Y.2.2.2 ag,sV a2 al.2.2.2 a3]) Fq De (Hy (off:=0) 1 fs V V)⟩,trivial⟩) (EO 1 fs V λia=>?_);exact hu ((((((hz.Ad hH).Ad hP).Ad fl).Ad fm).Ad ee).Ad ef) V ⟨ac,ag,a2,a3,bv,bw,V,V,(h6.M ef),h8,(h2.M (ee.Ad ef))⟩ ia
  .intro ih;refine JL.block (Cn h0 (λL s ap=>∃(bx:LH) (a4:Aq) (a5:Nat) (a7:Seg) (ce:Aq) (ci:Nat),Jn ed H bx [bX bk #[sV ce ap.2.1 ci,iV ap.2.2.1,.int .u64 ((ap.2.2.2.1:Nat):Int)] 43,bX O #[nS,nS] 28,bX U #[sV ac Y.2.2.2 ag,sV a4 ap.1 a5] 28,ay,a7] [(0,Al bk 0),(6,Al O 0),(7,Al U 0),(8,iV az.1),(13,iV ap.2.2.2.2)] L s (OL 49 Az bx a4 a5 a7 ap.1/\Ao rI bx ce ci ap.2.1)) ⟨ed,none,0,[],hV,hW,V,V,AN,hY,OL.nil,hX⟩ ?_);rintro _ _ ap ⟨bx,a4,a5,a7,ce,ci,rfl,rfl,co,cp,ct,eg⟩ ii ⟨lW,bz⟩ ej;have fv:=bz;unfold Pm at fv;refine C 6 V (A1 fv (λio i0=>?_) (λio i1=>?_))
   .refine C 3 V (Fl 6 λfw=>?_);refine JG.fd 0 fw underlying28 GU V V V V (A7 fw V [2,3] V ?_);obtain⟨K,fN,ek⟩:=bs i0;refine Gz (i:=1) (j:=4) V (by decide+kernel) ?_ ?_
    .refine Take.y0 (v:= sV a4 ap.1 a5) V V V (λρ h=>Yl.load IE (h _ _ V) (B5 (j:=2) cp V V)) (JG.one (i:=4) V (by decide+kernel) ?_);refine Take.VV (vs:= [Al bk 0,iV az.1]) 0 cp (Wy eg fN) V V V (A5 func17 V) V V ?_;rintro _ lX _ gc ⟨el,em,rfl,rfl,i3⟩ i4;refine JG.one (i:=5) V (by decide+kernel) (Take.Fx (pp:=Az) [.agg #[iV K.1.1,iV K.1.2.1,iV K.1.2.2]] ([K.1]:AG) i4 V V V underlying26 Bt BR (by decide) V V V ⟨⟨_,_,V,V,⟨_,_,V,V,V⟩⟩,trivial⟩ λlY i5 i6 i7=>?_);refine CZ [6,7,8] (BQ (S':= [[(bk,.cells #[sV el K.2.1 em,iV K.2.2.1,.int .u64 ((K.2.2.2:Nat):Int)] 43 (0,0))],[(O,.cells #[nS,nS] 28 (0,0))],[(U,.cells #[sV ac Y.2.2.2 ag,sV a4 ap.1 a5] 28 (0,0))],ay,a7,i5]) V i7 λi8=>?_);refine Cp 5 i6 i8 V λi9 eo jg jj=>?_;obtain⟨ge,jp,jt⟩:=bs ek;refine KA (pp:=Az) 4 jp V V V V V V V underlying26 underlying26 Bt (DF type49) BR V (by decide) (by decide) (ct.M (gc.Ad eo)) jg jj V λgg gh gt jy jO=>JL.fd underlying28 GU V V V (JS.sx 2 jO GU λjP=>?_);refine BQ (S':= [[(bk,.cells #[sV el K.2.1 em,iV K.2.2.1,.int .u64 ((K.2.2.2:Nat):Int)] 43 (0,0))],[(O,.cells #[nS,nS] 28 (0,0))],[(U,.cells #[sV ac Y.2.2.2 ag,sV gg ge gh] 28 (0,0))],ay,gt,[]]) V jP λjQ=>?_;obtain⟨jR,jS,jT⟩:=bs jt;refine C 4 V (BV jS V V V ?_);refine C 2 V ?_;obtain rfl:=oi jT;exact AF (ej _ _ (ge,K.2.1,K.2.2.1,K.2.2.2,jR) ⟨i9,gg,gh,gt,el,em,V,V,((co.Ad gc).Ad eo),jQ,jy,(i3.M eo)⟩ bz) V
    .refine Take.VV (vs:= [Al bk 0,iV az.1]) 0 cp (Wy eg fN) V V V (A5 func17 V) V V ?_;rintro _ lZ _ cw ⟨be,bi,rfl,rfl,gE⟩ ep;refine Gz (i:=1) (j:=5) V (by decide+kernel) ?_ ?_
     .refine Take.y0 (v:= sV a4 ap.1 a5) V V V (λρ h=>Yl.load IE (h _ _ V) (B5 (j:=2) ep V V)) (JG.one (i:=5) V (by decide+kernel) ?_);refine Take.Fx (pp:=Az) [.agg #[iV K.1.1,iV K.1.2.1,iV K.1.2.2]] ([K.1]:AG) ep V V V underlying26 Bt BR (by decide) V V V ⟨⟨_,_,V,V,⟨_,_,V,V,V⟩⟩,trivial⟩ λl3 jU jV jW=>CZ [6,7,8] (BQ (S':= [[(bk,.cells #[sV be K.2.1 bi,iV K.2.2.1,.int .u64 ((K.2.2.2:Nat):Int)] 43 (0,0))],[(O,.cells #[nS,nS] 28 (0,0))],[(U,.cells #[sV ac Y.2.2.2 ag,sV a4 ap.1 a5] 28 (0,0))],ay,a7,jU]) V jW λjX=>?_);refine Cp 5 jV jX V λjY er jZ j0=>?_;obtain⟨gO,j1,j2⟩:=bs ek;refine KA (pp:=Az) 4 j1 V V V V V V V underlying26 underlying26 Bt (DF type49) BR V (by decide) (by decide) (ct.M (cw.Ad er)) jZ j0 V λg0 g1 g3 j3 j4=>JL.fd underlying28 GU V V V (JS.sx 2 j4 GU λj5=>?_);refine BQ (S':= [[(bk,.cells #[sV be K.2.1 bi,iV K.2.2.1,.int .u64 ((K.2.2.2:Nat):Int)] 43 (0,0))],[(O,.cells #[nS,nS] 28 (0,0))],[(U,.cells #[sV ac Y.2.2.2 ag,sV g0 gO g1] 28 (0,0))],ay,g3,[]]) V j5 λj6=>?_;obtain⟨j7,j8,j9⟩:=bs j2;refine C 4 V (BV j8 V V V ?_);refine C 2 V ?_;obtain rfl:=oi j9;exact AF (ej _ _ (gO,K.2.1,K.2.2.1,K.2.2.2,j7) ⟨jY,g0,g1,g3,be,bi,V,V,((co.Ad cw).Ad er),j6,j3,(gE.M er)⟩ bz) V
     .refine Take.Fx (pp:=Az) [.agg #[iV K.1.1,iV K.1.2.1,iV K.1.2.2]] ([K.1]:AG) ep V V V underlying26 Bt BR (by decide) V V V ⟨⟨_,_,V,V,⟨_,_,V,V,V⟩⟩,trivial⟩ λl4 kb kc g4=>JG.one (i:=1) V (by decide+kernel) (Take.y0 (v:= sV a4 ap.1 a5) V V V (λρ h=>Yl.load IE (h _ _ V) (B5 (j:=2) g4 V V)) ?_);refine CZ [6,7,8] (BQ (S':= [[(bk,.cells #[sV be K.2.1 bi,iV K.2.2.1,.int .u64 ((K.2.2.2:Nat):Int)] 43 (0,0))],[(O,.cells #[nS,nS] 28 (0,0))],[(U,.cells #[sV ac Y.2.2.2 ag,sV a4 ap.1 a5] 28 (0,0))],ay,a7,kb]) V g4 λke=>?_);refine Cp 5 kc ke V λkf eu kg kh=>?_;obtain⟨g5,ki,kj⟩:=bs ek;refine KA (pp:=Az) 4 ki V V V V V V V underlying26 underlying26 Bt (DF type49) BR V (by decide) (by decide) (ct.M (cw.Ad eu)) kg kh V λg6 g7 g8 kl km=>JL.fd underlying28 GU V V V (JS.sx 2 km GU λkn=>?_);refine BQ (S':= [[(bk,.cells #[sV be K.2.1 bi,iV K.2.2.1,.int .u64 ((K.2.2.2:Nat):Int)] 43 (0,0))],[(O,.cells #[nS,nS] 28 (0,0))],[(U,.cells #[sV ac Y.2.2.2 ag,sV g6 g5 g7] 28 (0,0))],ay,g8,[]]) V kn λko=>?_;obtain⟨kp,kq,kr⟩:=bs kj;refine C 4 V (BV kq V V V ?_);refine C 2 V ?_;obtain rfl:=oi kr;exact AF (ej _ _ (g5,K.2.1,K.2.2.1,K.2.2.2,kp) ⟨kf,g6,g7,g8,be,bi,V,V,((co.Ad cw).Ad eu),ko,kl,(gE.M eu)⟩ bz) V
   .refine JL.exit V ?_;obtain rfl:=oi i1;obtain rfl:=ii _ bz;exact AF (ih _ _ ⟨bx,ce,ci,a4,a5,a7,V,V,co,cp,eg,ct⟩) V
 .intro ks;refine JL.block (Cn hN (λL s Z=>∃(b0:LH) (aq:Aq) (av:Nat) (a0:Seg) (cy:Aq) (c0:Nat),Jn ea H b0 [bX bk #[sV cy Z.2.1 c0,iV Z.2.2.1,.int .u64 ((Z.2.2.2.1:Nat):Int)] 43,bX O #[nS,nS] 28,bX U #[sV aq Z.1 av,nS] 28,a0] [(0,Al bk 0),(2,iV p2),(6,Al O 0),(7,Al U 0),(8,iV az.1),(9,.bool b5.1),(10,iV Z.2.2.2.2)] L s (OL 22 (rL rI) b0 aq av a0 Z.1/\Ao rI b0 cy c0 Z.2.1)) ⟨ea,none,0,[],hI,hK,V,V,AN,hM,OL.nil,hL⟩ ?_);rintro _ _ Z ⟨b0,aq,av,a0,cy,c0,rfl,rfl,ha,hb,hc,hd⟩ kt ⟨l5,ew⟩ ku;have he:=ew;unfold PD at he;refine C 7 V (A1 he (λkv kx=>?_) (λkv ky=>?_))
  .obtain⟨l6,kz,kA⟩:=bs kx;refine C 11 V (Cc 0 (KJ hd kz) V V Km hb V ?_);rintro _ ex _ hf ⟨kB,kC,rfl,rfl,kD⟩ kF;obtain⟨aw,kG,kI⟩:=bs kA;refine C 2 V (Bx (λL s=>∃(c1:LH) (c3:Aq) (c4:Nat) (ey:Seg) (b1:Aq) (b2:Nat),Jn ex H c1 [bX bk #[sV b1 aw.2.1 b2,iV aw.2.2.1,.int .u64 ((aw.2.2.2:Nat):Int)] 43,bX O #[nS,nS] 28,bX U #[sV aq Z.1 av,nS] 28,a0,ey] [(0,Al bk 0),(2,iV p2),(6,Al O 0),(7,Al U 0),(8,iV az.1),(9,.bool b5.1),(10,iV Z.2.2.2.2),(11,sV c3 aw.1 c4)] L s (OL 3 rI c1 c3 c4 ey aw.1/\Ao rI c1 b1 b2 aw.2.1)) ?_ ?_)
   .rintro _ _ ⟨c1,c3,c4,ey,b1,b2,rfl,rfl,hg,hj,kJ,kK⟩;refine JL.region (JL.fd underlying28 FC V V V ?_);refine An (v:= sV aq Z.1 av) V (λρ h=>Yl.load FK (h _ _ V) (B5 (j:=2) (off:=0) hj V V)) (C 1 V ?_);refine Cp 4 kJ hj V λkL eA kM kN=>BQ (S':= [[(bk,.cells #[sV b1 aw.2.1 b2,iV aw.2.2.1,.int .u64 ((aw.2.2.2:Nat):Int)] 43 (0,0))],[(O,.cells #[nS,nS] 28 (0,0))],[(U,.cells #[sV aq Z.1 av,nS] 28 (0,0))],a0,[]]) V kN λkO=>?_;obtain⟨kP,kQ,kR⟩:=bs kI;refine JS.app (pp:=(rL rI)) (v:= sV c3 aw.1 c4) (a:=aq) (c:=av) 3 kQ V V V V (λ_=>V) V (λ_=>V) V V V underlying25 underlying25 underlying25 GV (DF type22) ML V (by decide) (by decide) (by decide) (by decide) (hc.M ((hf.Ad hg).Ad eA)) ⟨_,_,V,kM⟩ kO V λl7 kS kT kU kV kW=>JL.fd underlying28 FC V V V (JS.sx 2 kW FC λkX=>?_);obtain⟨kY,kZ,k0⟩:=bs kR;refine C 4 V (Bv kZ V V V ?_);refine C 2 V ?_;obtain rfl:=oi k0;exact AF (ku _ _ (kP,aw.2.1,aw.2.2.1,aw.2.2.2,kY) ⟨kL,kS,kT,kU,b1,b2,V,V,(((ha.Ad hf).Ad hg).Ad eA),kX,kV,(kK.M eA)⟩ ew) V
   .intro k1;refine JL.block (Cn kG (λL s am=>∃(a8:LH) (a9:Aq) (bb:Nat) (bn:Aq) (bo:Nat) (b3:Seg),Jn ex H a8 [bX bk #[sV a9 am.1 bb,iV am.2.1,.int .u64 ((am.2.2.1:Nat):Int)] 43,bX O #[nS,nS] 28,bX U #[sV aq Z.1 av,nS] 28,a0,b3] [(0,Al bk 0),(2,iV p2),(6,Al O 0),(7,Al U 0),(8,iV az.1),(9,.bool b5.1),(10,iV Z.2.2.2.2),(11,sV bn am.2.2.2.1 bo),(12,iV am.2.2.2.2)] L s (Ao rI a8 a9 bb am.1/\OL 3 rI a8 bn bo b3 am.2.2.2.1)) ⟨ex,kB,kC,none,0,[],V,V,AN,kF,kD,OL.nil⟩ ?_);rintro _ _ am ⟨a8,a9,bb,bn,bo,b3,rfl,rfl,hk,eC,eN,e0⟩ k2 ⟨l8,e1⟩ k3;have hl:=e1;unfold PE at hl;refine C 6 V (A1 hl (λk4 k5=>?_) (λk4 k6=>?_))
    .obtain⟨a6,k7,k8⟩:=bs k5;refine C 7 V (Bx (λL s=>∃(b4:LH) (c5:Aq) (c6:Nat) (c7:Seg) (c8:Aq) (c9:Nat),Jn a8 H b4 [bX bk #[sV c8 a6.2.1 c9,iV a6.2.2.1,.int .u64 ((a6.2.2.2:Nat):Int)] 43,bX O #[nS,nS] 28,bX U #[sV aq Z.1 av,nS] 28,a0,c7] [(0,Al bk 0),(2,iV p2),(6,Al O 0),(7,Al U 0),(8,iV az.1),(9,.bool b5.1),(10,iV Z.2.2.2.2),(11,sV c5 a6.1 c6),(12,iV am.2.2.2.2)] L s (OL 3 rI b4 c5 c6 c7 a6.1/\Ao rI b4 c8 c9 a6.2.1)) ?_ ?_)
     .rintro _ _ ⟨b4,c5,c6,c7,c8,c9,rfl,rfl,k9,la,lb,ld⟩;obtain⟨lf,lg,lh⟩:=bs k8;refine C 3 V (BV lg V V V ?_);refine C 2 V ?_;obtain rfl:=oi lh;exact AF (k3 _ _ (a6.2.1,a6.2.2.1,a6.2.2.2,a6.1,lf) ⟨b4,c8,c9,c5,c6,c7,V,V,(hk.Ad k9),la,ld,lb⟩ e1) V
     .intro hm;refine Ct k7 (λli lj=>?_) (λli ll=>?_)
      .obtain⟨l9,lm,lq⟩:=bs lj;refine C 2 V (JS.app (pp:=rI) (v:=iV 1) (a:=bn) (c:=bo) 4 lm V V V V (λ_=>V) V (λ_=>V) V V V underlying22 underlying22 underlying22 AH (DF type3) CR V (by decide) (by decide) (by decide) (by decide) e0 V eC V λma lr ls hn lu lw=>?_);refine BQ (S':= [[(bk,.cells #[sV a9 am.1 bb,iV am.2.1,.int .u64 ((am.2.2.1:Nat):Int)] 43 (0,0))],[(O,.cells #[nS,nS] 28 (0,0))],[(U,.cells #[sV aq Z.1 av,nS] 28 (0,0))],a0,hn]) V lw λlx=>C 2 V ?_;obtain rfl:=oi lq;exact AF (hm _ _ ⟨a8,lr,ls,hn,a9,bb,V,V,AN,lx,lu,eN⟩) V
      .refine C 3 V (Gh (pp:=rI) [iV 1,iV 1,iV 2,iV 2,iV 3,iV 5] [1,1,2,2,3,5] V V V underlying22 AH CR (by decide) V V V ⟨V,V,V,V,V,V,trivial⟩ eC λmb lz lA lB=>?_);refine BQ (S':= [[(bk,.cells #[sV a9 am.1 bb,iV am.2.1,.int .u64 ((am.2.2.1:Nat):Int)] 43 (0,0))],[(O,.cells #[nS,nS] 28 (0,0))],[(U,.cells #[sV aq Z.1 av,nS] 28 (0,0))],a0,b3,lz]) V lB λlC=>Cp 5 lA lC V λmc e3 lD lE=>?_;obtain⟨dd,lF,lG⟩:=bs ll;refine Cc 0 (WU (eN.M e3) lD lF) V V (A5 func16 V) lE V ?_;rintro _ lH _ ho ⟨hp,hq,rfl,rfl,lI⟩ lJ;obtain⟨md,lK,lL⟩:=bs lG;refine JS.app (pp:=rI) (v:=iV dd.1) (a:=bn) (c:=bo) 4 lK V V V V (λ_=>V) V (λ_=>V) V V V underlying22 underlying22 underlying22 AH (DF type3) CR V (by decide) (by decide) (by decide) (by decide) (e0.M (e3.Ad ho)) V lJ V λme lM lN hr lO lP=>BQ (S':= [[(bk,.cells #[sV hp dd.2.1 hq,iV dd.2.2.1,.int .u64 ((dd.2.2.2:Nat):Int)] 43 (0,0))],[(O,.cells #[nS,nS] 28 (0,0))],[(U,.cells #[sV aq Z.1 av,nS] 28 (0,0))],a0,hr,[]]) V lP λlQ=>C 2 V ?_;obtain rfl:=oi lL;exact AF (hm _ _ ⟨lH,lM,lN,hr,hp,hq,V,V,(e3.Ad ho),lQ,lO,lI⟩) V
    .refine JL.exit V ?_;obtain rfl:=oi k6;obtain rfl:=k2 _ e1;exact AF (k1 _ _ ⟨a8,bn,bo,b3,a9,bb,V,V,hk,eC,e0,eN⟩) V
  .refine JL.exit V ?_;obtain rfl:=oi ky;obtain rfl:=kt _ ew;exact AF (ks _ _ ⟨b0,cy,c0,aq,av,a0,V,V,ha,hb,hd,hc⟩) V
variable {J:Judge Tryz.prog}{E:LH}
variable {J:Judge Tryz.prog}{E:LH}
variable {J:Judge Tryz.prog}{E:LH}
def Nl(fu_:Nat)(p0:Bh)(K:(List Int)×Int):Option (Br ((List Int)×Int) ((List Int))):= if K.2<(p0.2.length:Int) then((ix p0.2 K.2).bind λO=> (ix K.1 O.1).bind λal=> (ix K.1 O.1).bind λU=> (Av (U - O.2.2)).bind λY=> (ix K.1 O.2.1).bind λZ=> (Av (Z+O.2.2)).bind λac=> (Av (K.2+1)).bind λag=> some (.more (((K.1.set (Int.toNat O.1) Y).set (Int.toNat O.2.1) ac),ag))) else(some (.done K.1))
def f55(fu_:Nat)(p0:Bh):Option ((List Int)):= (Ip (p0.1.length:Int) (0:Int)).bind λK=> Option.bind (iter (Nl fu_ p0) fu_ (K,0)) λO=> some O
theorem iO{a1:Aq}{c2:Nat}{be:Aq}{bi:Nat}{p0:Bh}(fk:Ao (rL rI) E a1 c2 p0.1)(b5:Ao Az E be bi p0.2){fu_:Nat}{r:(List Int)}(bn:f55 fu_ p0=some r):AT J 7 [.agg #[sV a1 p0.1 c2,sV be p0.2 bi]] E [] (λw E' B'=>∃(bo:Aq) (bv:Nat),w= sV bo r bv/\B'= []/\Ao rI E' bo bv r):=by
 refine Bp func7 λQ fl cs H b6 ca=>?_;unfold f55 at bn;refine C 2 V (DG b6 λbw a4 bx a5 cc=>?_);refine C 4 V (Cb 0 a5 underlying28 FC FK ?_);refine JL.ln underlying25 V V V ?_;obtain⟨ce,ci,co⟩:=bs bn;refine JS.make (pp:=rI) ci V V V V V underlying22 AH (DF type3) (by decide) CR (by decide) V cc λcp ct cw cy=>?_;obtain⟨bz,c0,c1⟩:=bs co;refine C 7 V (Bx (λL s=>∃(a6:LH) (aq:Aq) (av:Nat) (a7:Seg),Jn a4 H a6 [a7] [(3,sV aq bz av)] L s (OL 3 rI a6 aq av a7 bz)) ?_ ?_)
 .rintro _ _ ⟨a6,aq,av,a7,rfl,rfl,c3,c4,c5⟩;refine C 5 V (Cp 0 c5 c4 V λfm c6 c7 c8=>?_);obtain rfl:=oi c1;exact A2 func7 V V (ca ((bx.Ad c3).Ad c6) V ⟨aq,av,V,V,c7⟩ c8)
 .intro c9;refine JL.block (Cn c0 (λL s Y=>∃(aw:LH) (ay:Aq) (ac:Nat) (az:Seg),Jn a4 H aw [az] [(1,Al bw 0),(3,sV ay Y.1 ac),(4,iV Y.2)] L s (OL 3 rI aw ay ac az Y.1)) ⟨a4,(A8 cp),ce.length,ct,V,V,AN,cy,cw⟩ ?_);rintro _ _ Y ⟨aw,ay,ac,az,rfl,rfl,ap,b0,b1⟩ dd ⟨fo,a8⟩ ea;have b2:=a8;unfold Nl at b2;refine C 4 V (Cb 1 (a5.M ap) underlying28 GU IE ?_);refine JL.ln underlying26 V V V (C 2 V ?_);refine A1 b2 (λeb ec=>?_) (λeb ed=>?_)
  .refine C 5 V (Cb 1 (a5.M ap) underlying28 GU IE ?_);obtain⟨O,ee,ef⟩:=bs ec;refine C 1 V (JS.ix (b5.M (bx.Ad ap)) ee underlying26 Bt ?_);rintro fs fv _ ⟨_,_,rfl,rfl,⟨_,_,rfl,rfl,rfl⟩⟩ eg;refine Cf eg DX Bt V V (B2 b0 BR λU ej=>?_);refine JS.sx 1 ej Bt λek=>?_;refine Df 1 ek V λel b3 ag a9=>?_;obtain⟨fw,em,eo⟩:=bs ef;refine JL.done ?_;obtain⟨a0,f82,ep,Z⟩:=WL.of (b1.M b3) em;obtain⟨rfl,rfl⟩:=ep;refine FO [23,25] [a0] [] mixed V (AO 0 V V ?_);refine C6 (v:= Al U 0) 1 true V V (λρ h s' K=>Ft (a:=⟨U,0,none⟩) 0 0 underlying49 AH V V V (h _ _ V)) (Hf (v:=iV O.1) 2 V (by decide+kernel) V V V (λρ h s' K=>Yl.load Ba (h _ _ V) (At.GC (j:=0) ag K V)) ?_);refine AO 3 V V (C6 (v:= Al U 1) 4 true V V (λρ h s' K=>Ft (a:=⟨U,0,none⟩) 0 1 underlying49 AH V V V (h _ _ V)) ?_);refine Hf (v:=iV O.2.1) 5 V (by decide+kernel) V V V (λρ h s' K=>Yl.load Ba (h _ _ V) (At.GC (j:=1) ag K V)) (AO 6 V V ?_);refine C6 (v:= Al U 0) 7 true V V (λρ h s' K=>Ft (a:=⟨U,0,none⟩) 0 0 underlying49 AH V V V (h _ _ V)) (Hf (v:=iV O.1) 8 V (by decide+kernel) V V V (λρ h s' K=>Yl.load Ba (h _ _ V) (At.GC (j:=0) ag K V)) ?_);obtain⟨er,a2,eu⟩:=bs eo;obtain⟨_,rfl,ew⟩:=WL.at Z a2;refine JB.ix 9 Z.2 a2 underlying22 AH ?_;refine JB.val (v:=iV er) 10 false V (by decide+kernel) V V V (λρ h s' K=>have K:=K V;Yl.load Ba (h _ _ V) (BM 0 a9 V (by simp [AD]) K (ew 0 _ V))) (C6 (v:= Al U 2) 11 true V V (λρ h s' K=>Ft (a:=⟨U,0,none⟩) 0 2 underlying49 AH V V V (h _ _ V)) ?_);refine Hf (v:=iV O.2.2) 12 V (by decide+kernel) V V V (λρ h s' K=>Yl.load Ba (h _ _ V) (At.GC (j:=2) ag K V)) ?_;obtain⟨al,ex,ey⟩:=bs eu;refine C6 13 true V V (λρ h s' K=>El (h _ _ V) (h _ _ V) ex) (AO 14 V V ?_);refine C6 (v:= Al U 1) 15 true V V (λρ h s' K=>Ft (a:=⟨U,0,none⟩) 0 1 underlying49 AH V V V (h _ _ V)) (Hf (v:=iV O.2.1) 16 V (by decide+kernel) V V V (λρ h s' K=>Yl.load Ba (h _ _ V) (At.GC (j:=1) ag K V)) ?_);obtain⟨eA,a3,eC⟩:=bs ey;obtain⟨_,rfl,eN⟩:=WL.at Z a3;refine JB.ix 17 Z.2 a3 underlying22 AH ?_;refine JB.val (v:=iV eA) 18 false V (by decide+kernel) V V V (λρ h s' K=>have K:=K V;Yl.load Ba (h _ _ V) (BM 0 a9 V (by simp [AD]) K (eN 0 _ V))) (C6 (v:= Al U 2) 19 true V V (λρ h s' K=>Ft (a:=⟨U,0,none⟩) 0 2 underlying49 AH V V V (h _ _ V)) ?_);refine Hf (v:=iV O.2.2) 20 V (by decide+kernel) V V V (λρ h s' K=>Yl.load Ba (h _ _ V) (At.GC (j:=2) ag K V)) ?_;obtain⟨am,e0,e1⟩:=bs eC;refine C6 21 true V V (λρ h s' K=>Dy (h _ _ V) (h _ _ V) e0) (JB.ix 22 Z.2 a2 underlying22 AH ?_);have b4:=WL.put (x':=al) (ws':= [iV al]) Z Z.2 a2 V;refine JB.sx 23 0 a9 AH trivial b4.2 λe3=>?_;refine JB.ix 24 Z.2 a3 underlying22 AH ?_;have bb:=WL.put (x':=am) (ws':= [iV am]) b4.1 Z.2 a3 V;refine JB.sx 25 0 e3 AH trivial bb.2 λe4=>?_;refine JB.fin (by decide+kernel) ?_;have e5:=(bb.1).1;have e6:(((Y.1.set (Int.toNat O.1) al).set (Int.toNat O.2.1) am)).length=Y.1.length:=(bb.1).2;refine EH (L':= [(1,Al bw 0),(3,.slice (A8 a0) (((Y.1.set (Int.toNat O.1) al).set (Int.toNat O.2.1) am)).length ac),(4,iV Y.2)]) ⟨V,by rw [e6];rfl,V,trivial⟩ ?_;obtain⟨e7,e8,ff⟩:=bs e1;refine C 3 V (Bv e8 V V V ?_);refine C 2 V ?_;obtain rfl:=oi ff;exact AF (ea _ _ (((Y.1.set (Int.toNat O.1) al).set (Int.toNat O.2.1) am),e7) ⟨el,(A8 a0),ac,[(a0,.cells (A9 (A9 f82 (Int.toNat (O.1)*1) [iV al]) (Int.toNat (O.2.1)*1) [iV am]) 3 (0,0))],V,V,(ap.Ad b3),e4,e5⟩ a8) V
  .refine JL.exit V ?_;obtain rfl:=oi ed;obtain rfl:=dd _ a8;exact AF (c9 _ _ ⟨aw,ay,ac,az,V,V,ap,b0,b1⟩) V
end Pal
namespace Pal
open Go Go.Conc
def MB(t:TypeId)(v:Value):Option Int->Prop
 | none=>v= .nilIface
 | some c=>v= .iface t (.agg #[iV c])
variable {P:Program}{s:St}{ρ:Operand->Value}{y z:Operand}{d:Option Tmp}{t u ty e:TypeId}{p:String}{af:Ae_}{g:On_}{v v':Value}
section
variable {x:Operand}
theorem Yb{ms:Array (String×TypeId)}{K:TypeId}{o:Option Int}{n:Nat}(O:P.underlying t=some (.interface ms))(he:MB K v o){Q:Bool->St->Prop}{X:Halt->St->Prop}(k:Q o.isNone s):lp P (Op.equalIn (n+1) t v .nilIface) s Q X:=by
 unfold Op.equalIn;refine Ay _ _ (Cx O ?_);cases o with
 | none=>obtain rfl:v= .nilIface:=he;exact k
 | some q=>obtain rfl:v= .iface K (.agg #[iV q]):=he;exact k
theorem TA{ms:Array (String×TypeId)}{K:TypeId}{o:Option Int}(O:P.underlying t=some (.interface ms))(he:MB K v o)(U:ρ x=v)(Y:ρ (.const .nilIface)= .nilIface):Yl P ⟨d,.binOp .eql t x (.const .nilIface) u,ty,p,af,g⟩ ρ s (.bool o.isNone):=by
 refine FM (sm:=do eqGuard .eql t x (.const .nilIface) (ρ x) (ρ (.const .nilIface));binOp .eql t (ρ x) (ρ (.const .nilIface))) V ?_
 rw [U,Y];have Z:lp P (eqGuard .eql t x (.const .nilIface) v .nilIface) s (λ_ s'=>s'=s) (λ_ _=>False):=by
  cases o with
  | none=>obtain rfl:v= .nilIface:=he;simp [eqGuard,lp,pure]
  | some q=>obtain rfl:v= .iface K (.agg #[iV q]):=he;simp [eqGuard,lp,pure]
 refine Ay _ _ (Er _ Z ?_ (λ_ _ h=>h));rintro _ _ rfl;have hb:binOp .eql t v .nilIface=(do pure (.bool (← Op.equal t v .nilIface))):=by
  cases o with
  | none=>obtain rfl:v= .nilIface:=he;rfl
  | some q=>obtain rfl:v= .iface K (.agg #[iV q]):=he;rfl
 rw [hb];refine Ay (x:=Op.equal t v .nilIface) _ ?_;unfold Op.equal Op.maxDepth;refine Yb O he ?_;refine⟨?_,V⟩
 rfl
end
end Pal
set_option autoImplicit false
open Go
namespace Pal
theorem Ao.WY{P:Program}{E:LH}{α:Type}{pp:Rp α}{a:Option Addr}{c:Nat}{xs:List α}{xv:α}{K:Int}(U:Ao pp E a c xs)(O:ix xs K=some xv):
  ∃bk o ws,pp.r E ws xv/\At E bk o ws/\∀{s:St} {ρ:Operand->Value} {x y:Operand} {d:Option Tmp} {t ty e:TypeId} {p:String} {af:Ae_} {g:On_} {kd:IntKind},
   P.underlying t=some (.slice e)->By P e=some pp.n->ρ x= .slice a xs.length c->ρ y= .int kd K->Yl P ⟨d,.indexAddr t x y,ty,p,af,g⟩ ρ s (.pointer (some ⟨bk,o,none⟩)):=by
 obtain⟨K,rfl,O⟩:=Gi O;have Y:K<xs.length:=(List.getElem?_eq_some_iff.1 O).1;obtain⟨av,⟨rfl,_⟩ | ⟨bk,off,rfl,Z⟩⟩:=U
 .simp at Y
 obtain⟨ws,ac,ag⟩:=Z K xv O;refine⟨bk,off+K*pp.n,ws,ac,ag,λ{s ρ x y d t ty e p af g kd} al am ap aq=>?_⟩;have:=MY (P:=P) (s:=s) (d:=d) (ty:=ty) (p:=p) (af:=af) (g:=g) al am ap aq ⟨by omega,by omega⟩;rw [Ek rfl] at this;simpa using this
open Go Go.Conc Go.Proofs
variable {J:Judge Tryz.prog}{E:LH}
def OZ(fu_:Nat)(p0:List Int)(K:Int×Int):Option (Br (Int×Int) (Int)):=
 if K.2<((p0).length:Int) then(
  (ix p0 (K.2)).bind λO=>
  (Av (K.1+O)).bind λU=>
  (Av (K.2+1)).bind λY=>
  some (.more (U,Y))
 ) else(
  some (.done K.1)
 )
def NJ(fu_:Nat)(p0:List Int):Option (Int):=
 Option.bind (iter (OZ fu_ p0) fu_ (0,0)) λK=>
 some K
theorem gl{a1:Aq}{c2:Nat}{p0:List Int}(ag:Ao rI E a1 c2 (p0)){fu_:Nat}{r:Int}(Y:NJ fu_ p0=some r):AT J 8 [.slice a1 (p0).length c2] E [] (λw E' B'=>w=iV r/\B'= []):=by
 refine Bp Tryz.func8 λQ bv cs H al am=>?_;unfold NJ at Y;obtain⟨ap,aq,av⟩:=bs Y;refine C 13 V (ES [] [(3,iV ap)] (λbw aw ay=>?_) (λaz=>?_))
 .refine C 5 V ?_;obtain rfl:=oi av;exact A2 Tryz.func8 V V (am aw V ⟨V,V⟩ ay)
 .refine JL.block (Em aq (λK=> []) (λK=> [(0,.slice a1 (p0).length c2),(3,iV K.1),(4,iV K.2)]) (Le.refl _) al ?_);rintro K bx O Z a0 ⟨bz,U⟩ a2;have ac:=U;unfold OZ at ac;refine C 5 V (JL.ln Tryz.underlying22 V V V ?_);refine C 2 V (A1 ac (λa3 a4=>?_) (λa3 a5=>?_))
  .obtain⟨b0,a6,a7⟩:=bs a4;refine C 7 V (JS.ix (ag.M O) a6 Tryz.underlying22 AH ?_);rintro b1 b2 _ rfl a8;refine Dh 0 a8 Ba V V V ?_;obtain⟨a9,bb,be⟩:=bs a7;refine Bv bb V V V ?_;obtain⟨bi,bn,bo⟩:=bs be;refine C 5 V (Bv bn V V V ?_);refine C 2 V ?_;obtain rfl:=oi bo;exact a2 (a9,bi) O Z V U
  .refine JL.exit V ?_;obtain rfl:=oi a5;obtain rfl:=a0 _ U;exact az O Z V
def Nz(fu_:Nat)(p0:Nat)(p1:Int)(p2:Int):Option (Nat):=
 (f106 fu_ p1 p2).bind λx1=>
 (PW p0 x1).bind λK=>
 some K
theorem fW{p0:Nat}{p1:Int}{p2:Int}{fu_:Nat}{r:Nat}(K:Nz fu_ p0 p1 p2=some r):AT J 50 [.int .u32 ((p0:Nat):Int),iV p1,iV p2] E [] (λw E' B'=>w= .int .u32 ((r:Nat):Int)/\B'= []):=by
 refine Bp Tryz.func50 λQ aq cs H O U=>?_;unfold Nz at K;obtain⟨x1,Y,Z⟩:=bs K;refine C 9 V (CC (VZ Y) V V (A5 Tryz.func70 V) O λav ac ag=>?_);obtain⟨al,am,ap⟩:=bs Z;refine An (v:= .int .u32 ((al:Nat):Int)) V (λρ h=>ZH (h _ _ V) (h _ _ V) am) (C 2 V ?_);obtain rfl:=oi ap;exact A2 Tryz.func50 V V (U ac V ⟨V,V⟩ ag)
def OR(fu_:Nat)(p0:Bh)(p1:AG)(K:(List Int)×Nat×Int):Option (Br ((List Int)×Nat×Int) (((Option Int))⊕((List Int)))):=
 if K.2.2<((p1).length:Int) then(
  (ix p1 (K.2.2)).bind λO=>
  (f86 fu_ O ((p0.1).length:Int) 72).bind λU=>
  if U≠0 then(
   some (.done (Sum.inl (some (U))))
  ) else(
   (f136 fu_ K.2.1 O.1 O.2.1).bind λY=>
   if Y=true then(
    some (.done (Sum.inl (some (4))))
   ) else(
    (Nz fu_ K.2.1 O.1 O.2.1).bind λZ=>
    (Mx fu_ K.1 O).bind λac=>
    (Av (K.2.2+1)).bind λag=>
    some (.more (ac,Z,ag))
   )
  )
 ) else(
  some (.done (Sum.inr K.1))
 )
def NF(fu_:Nat)(p0:Bh)(p1:AG):Option ((Option Int)):=
 if 8<((p1).length:Int) then(
  some (some (6))
 ) else(
  (f84 fu_ p0).bind λK=>
  Option.bind (iter (OR fu_ p0 p1) fu_ (K,0,0)) λO=>
  Sum.elim (λr=>some r) (λU=>
  if U≠(List.replicate 5 (0:Int)) then(
   some (some (9))
  ) else(
   some none
  )
  ) O
 )
theorem dW{a1:Aq}{c2:Nat}{b1:Aq}{b2:Nat}{bb:Aq}{be:Nat}{p0:Bh}{p1:AG}(cy:Ao (rL rI) E a1 c2 (p0.1))(c0:Ao Az E b1 b2 (p0.2))(c1:Ao Az E bb be (p1)){fu_:Nat}{r:(Option Int)}(b3:NF fu_ p0 p1=some r):AT J 33 [.agg #[.slice a1 (p0.1).length c2,.slice b1 (p0.2).length b2],.slice bb (p1).length be] E [] (λw E' B'=>∃(b4:Value),w=b4/\B'= []/\MB 96 b4 (r)):=by
 refine Bp Tryz.func33 λQ g1 cs H c3 aw=>?_;unfold NF at b3;refine C 2 V (DG c3 λc4 g3 U b5 b6=>?_);refine C 6 V (JL.ln Tryz.underlying26 V V V ?_);refine C 2 V (A1 b3 (λc5 c6=>?_) (λc5 c7=>?_))
 .refine C 2 V (An (v:= .agg #[iV 6]) V (λρ h=>C4 [(0,1)] h LZ Tryz.underlying96 ⟨V,AX Tryz.type30,trivial⟩ V V) ?_);refine An (v:= .iface 96 (.agg #[iV 6])) V (λρ h=>JR Tryz.underlying96 (λ_ h=>by cases h) (h _ _ V)) (C 2 V ?_);obtain rfl:=oi c6;exact A2 Tryz.func33 V V (aw U V ⟨.iface 96 (.agg #[iV 6]),V,V,V⟩ b6)
 .refine C 7 V (Cf b5 FL DY V V ?_);obtain⟨g4,c8,c9⟩:=bs c7;refine B7 (PG (cy.M U) (c0.M U) c8) V V N6 b6 ?_;rintro _ ay _ al ⟨bi,rfl,rfl,az⟩ dd;refine B2 dd Ko λa0 ea=>?_;refine Hb (v:= .agg bi.toArray) (l:= []) (ws:=(List.replicate 5 (iV 0):Lv_)) (us:=bi) (o:=0) 3 V V V ea V V V (by rw [B6 (kk:=5) (pp:=rI) az];exact AX Tryz.type56) ((rA 5 rI).one az) V (by rw [B6 (kk:=5) (pp:=rI) az,B6 (kk:=5) (pp:=rI) (Gg (E:=ay) (pp:=rI) rfl)];omega) λca=>?_;rw [Ji (by rw [B6 (kk:=5) (pp:=rI) az,B6 (kk:=5) (pp:=rI) (Gg (E:=ay) (pp:=rI) rfl)])] at ca ⊢;refine C 5 V (JL.ln Tryz.underlying26 V V V ?_);obtain⟨cc,eb,bn⟩:=bs c9;refine C 2 V (Bx (λL s=>∃(a2:(List Int)) (am:LH) (a3:Lv_),cc=Sum.inr a2/\Jn ay H am [[(a0,.cells (([]:Lv_)++a3).toArray 56 (0,0))]] [(6,.pointer (some ⟨a0,0,none⟩))] L s ((rA 5 rI).r am a3 (a2))) ?_ ?_)
  .rintro _ _ ⟨a2,am,a3,rfl,rfl,rfl,ce,bo,ci⟩;have ec:=elim_inr bn;refine C 3 V (An (v:= .agg a3.toArray) V (λρ h=>HA (kk:=5) (pp:=rI) ci H2 IF (h _ _ V) (GX (l:= []) 0 bo V)) ?_);refine An (v:= .agg (List.replicate 5 (iV 0):Lv_).toArray) V (λρ h=>Ub Tryz.underlying56 Ko AH V) (An (v:= .bool (decide (a2≠(List.replicate 5 (0:Int))))) V (λρ h=>Rx (E:=am) (E':=am) (ws:=a3) (ws':=(List.replicate 5 (iV 0):Lv_)) (a:=a2) (b:=(List.replicate 5 (0:Int))) Vz (by decide) (by decide+kernel) ci (Gg (E:=am) (pp:=rI) V) (h _ _ V) (h _ _ V)) ?_);refine JL.done (A1 ec (λed ee=>?_) (λed ef=>?_))
   .refine C 2 V (An (v:= .agg #[iV 9]) V (λρ h=>C4 [(0,1)] h LZ Tryz.underlying96 ⟨V,AX Tryz.type30,trivial⟩ V V) ?_);refine An (v:= .iface 96 (.agg #[iV 9])) V (λρ h=>JR Tryz.underlying96 (λ_ h=>by cases h) (h _ _ V)) (C 2 V ?_);refine JS.drop 0 bo V λeg=>?_;obtain rfl:=oi ee;exact A2 Tryz.func33 V V (aw ((U.trans al).trans ce) V ⟨.iface 96 (.agg #[iV 9]),V,V,V⟩ eg)
   .refine C 5 V (JS.drop 0 bo V λej=>?_);obtain rfl:=oi ef;exact A2 Tryz.func33 V V (aw ((U.trans al).trans ce) V ⟨.nilIface,V,V,V⟩ ej)
  .intro ek;refine JL.block (Cn eb (λL s Z=>∃(a8:LH) (ap:Lv_),Jn ay H a8 [[(a0,.cells (([]:Lv_)++ap).toArray 56 (0,0))]] [(2,.pointer (some ⟨c4,0,none⟩)),(5,.int .u32 ((Z.2.1:Nat):Int)),(6,.pointer (some ⟨a0,0,none⟩)),(17,.slice bb (p1).length be),(18,iV ((p1).length:Int)),(19,iV Z.2.2)] L s ((rA 5 rI).r a8 ap (Z.1))) ⟨ay,bi,V,V,(Le.refl _),ca,az⟩ ?_);rintro _ _ Z ⟨a8,ap,rfl,rfl,aq,co,a4⟩ bv ⟨g5,a5⟩ el;have cp:=a5;unfold OR at cp;refine C 5 V (A1 cp (λem eo=>?_) (λem ep=>?_))
   .obtain⟨a6,er,eu⟩:=bs eo;refine C 5 V (JS.ix (c1.M ((U.trans al).trans aq)) er Tryz.underlying26 Bt ?_);rintro g6 g7 _ ⟨_,_,rfl,rfl,⟨_,_,rfl,rfl,rfl⟩⟩ ew;refine Cf ew DX Bt V V (B2 co BR λg8 ex=>?_);refine JS.sx 1 ex Bt λey=>?_;refine Df 1 ey V λha Y av eA=>C 4 V (Cf av DX Bt V V ?_);refine JL.fd Tryz.underlying52 De V V V (Cb 0 (b5.M ((al.trans aq).trans Y)) Tryz.underlying28 FC FK ?_);refine JL.ln Tryz.underlying25 V V V ?_;obtain⟨bw,eC,eN⟩:=bs eu;refine CC (Wt eC) V V (A5 Tryz.func48 V) eA λhb K ct=>C 7 V (A1 eN (λe0 e1=>?_) (λe0 e3=>?_))
    .refine C 3 V (An (v:= .agg #[iV bw]) V (λρ h=>C4 [(0,1)] h LZ Tryz.underlying96 ⟨V,AX Tryz.type30,trivial⟩ V V) ?_);refine An (v:= .iface 96 (.agg #[iV bw])) V (λρ h=>JR Tryz.underlying96 (λ_ h=>by cases h) (h _ _ V)) (C 2 V ?_);refine JS.drop 0 ct V λe4=>?_;obtain rfl:=oi e1;obtain rfl:=bv _ a5;have e5:=elim_inl bn;obtain rfl:=oi e5;exact A2 Tryz.func33 V V (aw ((((U.trans al).trans aq).trans Y).trans K) V ⟨.iface 96 (.agg #[iV bw]),V,V,V⟩ e4)
    .refine C 5 V (Cb 0 (av.M K) Tryz.underlying49 AH Ba ?_);refine Cb 1 (av.M K) Tryz.underlying49 AH Ba ?_;obtain⟨hc,e6,e7⟩:=bs e3;refine CC (Wn e6) V V (A5 Tryz.func49 V) ct λhd O ac=>JL.done (Ct e7 (λe8 ff=>?_) (λe8 fk=>?_))
     .refine C 2 V (An (v:= .agg #[iV 4]) V (λρ h=>C4 [(0,1)] h LZ Tryz.underlying96 ⟨V,AX Tryz.type30,trivial⟩ V V) ?_);refine An (v:= .iface 96 (.agg #[iV 4])) V (λρ h=>JR Tryz.underlying96 (λ_ h=>by cases h) (h _ _ V)) (C 2 V ?_);refine JS.drop 0 ac V λfl=>?_;obtain rfl:=oi ff;obtain rfl:=bv _ a5;have fm:=elim_inl bn;obtain rfl:=oi fm;exact A2 Tryz.func33 V V (aw (((((U.trans al).trans aq).trans Y).trans K).trans O) V ⟨.iface 96 (.agg #[iV 4]),V,V,V⟩ fl)
     .refine JL.skip (Et 8 [a0] ⟨⟨0,_,V⟩,trivial⟩ ac λag=>?_);refine Dj 0 ag V V (JG.fd 1 ag Tryz.underlying49 AH V V V V ?_);refine JG.lp 2 ag 0 (av.M (K.trans O)) ac ⟨⟨0,_,V⟩,trivial⟩ Ba ?_;refine JG.fd 3 ag Tryz.underlying49 AH V V V V (JG.lp 4 ag 1 (av.M (K.trans O)) ac ⟨⟨0,_,V⟩,trivial⟩ Ba ?_);refine AQ (v:= .agg ap.toArray) 6 ag V V (λρ h s' bx=>HA (kk:=5) (pp:=rI) (Rp.M _ ((Y.trans K).trans O) a4) H2 IF (h _ _ V) (Ug (l:= []) 0 ac V (by simp [AD]) bx)) (AQ 7 ag V V (λρ h s' bx=>IN (vs:= [iV a6.1,iV a6.2.1,iV a6.2.2]) DX Bt (h _ _ V) (At.RS (av.M (K.trans O)) (Wq ac bx ⟨⟨0,_,V⟩,trivial⟩))) ?_);obtain⟨fo,fs,fv⟩:=bs fk;refine ab (i:=5) ⟨⟨0,_,V⟩,trivial⟩ (vs:= [.int .u32 ((Z.2.1:Nat):Int),iV a6.1,iV a6.2.1]) (fW fs) (by decide+kernel) V V V (A5 Tryz.func50 V) V ac ?_;rintro _ he _ a9 ⟨rfl,rfl⟩ fw;refine CZ [8,9,10] ?_;obtain⟨fN,gc,ge⟩:=bs fv;refine B7 (Ih (Rp.M _ (((Y.trans K).trans O).trans a9) a4) gc) V V H4 fw ?_;rintro _ gg _ bz ⟨b0,rfl,rfl,a7⟩ gh;refine C 1 V (Hb (v:= .agg b0.toArray) (l:= []) (ws:=ap) (us:=b0) (o:=0) 0 V V V gh V V V (by rw [B6 (kk:=5) (pp:=rI) a7];exact AX Tryz.type56) ((rA 5 rI).one a7) V (by rw [B6 (kk:=5) (pp:=rI) a7,B6 (kk:=5) (pp:=rI) (Rp.M _ ((((Y.trans K).trans O).trans a9).trans bz) a4)];omega) λcw=>?_);rw [Ji (by rw [B6 (kk:=5) (pp:=rI) a7,B6 (kk:=5) (pp:=rI) (Rp.M _ ((((Y.trans K).trans O).trans a9).trans bz) a4)])] at cw ⊢;obtain⟨gt,gE,gO⟩:=bs ge;refine C 3 V (Bv gE V V V ?_);refine C 2 V ?_;obtain rfl:=oi gO;exact AF (el _ _ (fN,fo,gt) ⟨gg,b0,V,V,(((((aq.trans Y).trans K).trans O).trans a9).trans bz),cw,a7⟩ a5) V
   .refine JL.exit V ?_;obtain rfl:=oi ep;have g0:cc=(Sum.inr Z.1):=(bv _ a5).symm;exact AF (ek _ _ ⟨Z.1,a8,ap,g0,V,V,aq,co,a4⟩) V
def Sv(fu_:Nat):Option (Bool):=
 some false
theorem fT{O:Value}{fu_:Nat}{r:Bool}(K:Sv fu_=some r):AT J 47 [.nilIface,O] E [] (λw E' B'=>w= .bool r/\B'= []):=by
 refine Bp Tryz.func47 λQ Z cs H U Y=>?_;unfold Sv at K;refine C 8 V ?_;refine An (v:= .bool true) V (λρ h=>TA Tryz.underlying69 (show MB 0 .nilIface none from V) (h _ _ V) (h _ _ V)) (C 6 V ?_);obtain rfl:=oi K;exact A2 Tryz.func47 V V (Y (Le.refl _) V ⟨V,V⟩ U)
def Sq(fu_:Nat):Option (Int):=
 (Sv fu_).bind λK=>
 if K=true then(
  some 0
 ) else(
  some 0
 )
theorem gb{fu_:Nat}{r:Int}(O:Sq fu_=some r):AT J 32 [.nilIface] E [] (λw E' B'=>w=iV r/\B'= []):=by
 refine Bp Tryz.func32 λQ ay cs H Z U=>?_;unfold Sq at O;refine C 6 V (B2 Z LZ λr1 ac=>?_);refine C 5 V (An (v:=(.iface 98 (.pointer (some ⟨r1,0,none⟩)))) V (λρ h=>JR Tryz.underlying98 (λ_ h=>by cases h) (h _ _ V)) ?_);obtain⟨az,ag,al⟩:=bs O;refine CC (fT ag) V V (A5 Tryz.func47 V) ac λa0 Y K=>JL.done (Ct al (λam ap=>?_) (λam aq=>?_))
 .refine C 2 V (JL.fd Tryz.underlying96 (AX Tryz.type30) V V V ?_);refine An (v:=iV 0) V (λρ h=>Yl.load (CB Tryz.underlying30) (h _ _ V) (B5 (j:=1) (off:=0) K V V)) (C 2 V ?_);refine JS.drop 1 K V λav=>?_;obtain rfl:=oi ap;exact A2 Tryz.func32 V V (U Y V ⟨V,V⟩ av)
 .refine C 5 V (JS.drop 1 K V λaw=>?_);obtain rfl:=oi aq;exact A2 Tryz.func32 V V (U Y V ⟨V,V⟩ aw)
open Go.Extern
def RO(b:Frame)(n:Nat):Nat->Li_->Env->Li_×Env
 | 0,k,L=>(k,L)
 | m+1,k,L=>match PX b n L k with
  | some (k',L')=>RO b n m k' L'
  | none=>(k,L)
theorem zm{P:Program}{J:Judge P}{Q:Gs_}{b:Frame}{n:Nat}{ds:Ld_}{cs:Lf_}{s:St}:∀(m:Nat) {L L':Env} {k k':Li_},RO b n m k L=(k',L')->JL J Q b n L' ds k' cs s->JL J Q b n L ds k cs s
 | 0,L,L',k,k',h,K=>by cases h;exact K
 | m+1,L,L',k,k',h,K=>by
  unfold RO at h
  split at h
  .rename_i e;exact Vv e (zm m h K)
  .cases h;exact K
theorem Ud{E H:LH}{S:List Seg}{r:Nat}{o:Obj}(K:Au E H S)(O:(Ak E H S).E r=none)(U:(Ak E H S).H r=none):Au E H (S++ [[(r,o)]])/\(Ak E H S).upd r o=Ak E H (S++ [[(r,o)]]):=by
 obtain⟨a,b⟩:=Kv O U o K;obtain⟨c,d⟩:=FN a;exact⟨d,b.trans c⟩
theorem fG{s:St}{X:Halt->St->Prop}{Q:Value->St->Prop}{o:Operand}(p:Addr):lp Tryz.prog (do eqGuard .eql 20 o (.const .nilIface) (.iface 98 (.pointer (some p))) .nilIface;binOp .eql 20 (.iface 98 (.pointer (some p))) .nilIface) s Q X=Q (.bool false) s:=by kernel_rfl
theorem bj{s:St}{ρ:Operand->Value}{d:Option Tmp}{x:Operand}{u ty:TypeId}{p:String}{af:Ae_}{g:On_}{a:Addr}(K:ρ x= .iface 98 (.pointer (some a)))(O:ρ (.const .nilIface)= .nilIface):Yl Tryz.prog ⟨d,.binOp .eql 20 x (.const .nilIface) u,ty,p,af,g⟩ ρ s (.bool false):=by
 refine FM (sm:=do eqGuard .eql 20 x (.const .nilIface) (ρ x) (ρ (.const .nilIface));binOp .eql 20 (ρ x) (ρ (.const .nilIface))) V ?_
 rw [K,O];exact(fG a).mpr ⟨V,V⟩
theorem W7(z:Sem Value)(f:TypeId->Addr->Nat->Nat->Sem Value)(v:Value):ReflectliteValue.method z f #[v]=Sem.bind (ReflectliteValue.parts v) (λx=>match x with | none=>z | some (t,a,K)=>f t a K (K % 32)):=rfl
theorem YY{s:St}{X:Halt->St->Prop}{Q:Value->St->Prop}(a p:Addr)(K:s.cell? a=some (.pointer (some p)))(h:Q (.bool false) s):lp Tryz.prog (ReflectliteValue.method (ReflectliteValue.valueError "reflectlite.Value.IsNil" 0) ReflectliteValue.isNil #[.agg #[Fy 98,.pointer (some a),.int .u64 150]]) s Q X:=by
 rw [W7];refine Ay (x:=ReflectliteValue.parts _) _ ((TZ a).mpr ?_);show lp Tryz.prog (Sem.bind (loadVar 98 a) _) s Q X;exact Ay (x:=loadVar 98 a) _ ((Uu a).mpr ⟨V,_,K,h⟩)
theorem ZF{s:St}{X:Halt->St->Prop}{Q:Value->St->Prop}(a p:Addr)(K:s.cell? a=some (.pointer (some p)))(h:Q (.agg #[Fy 96,.pointer (some p),.int .u64 409]) s):lp Tryz.prog (ReflectliteValue.method (ReflectliteValue.valueError "reflectlite.Value.Elem" 0) ReflectliteValue.elem #[.agg #[Fy 98,.pointer (some a),.int .u64 150]]) s Q X:=by
 rw [W7];refine Ay (x:=ReflectliteValue.parts _) _ ((TZ a).mpr ?_);show lp Tryz.prog (Sem.bind (loadVar 98 a) _) s Q X;refine Ay (x:=loadVar 98 a) _ ((Uu a).mpr ⟨V,_,K,?_⟩);refine Ay (x:=Rtype.elem? 98) _ (dt.mpr ?_);exact(fb p).mpr h
theorem jK(v x:Value):ReflectliteValue.set #[v,x]=(do
  let (some (dst,a,K),some (src,b,_)):=(← ReflectliteValue.parts v,← ReflectliteValue.parts x)
   | unsupported (.noEntry "extern/(internal/reflectlite.Value).Set.zeroValue")
  if K / ReflectliteValue.flagAddr % 2==0 then unsupported (.noEntry "extern/(internal/reflectlite.Value).Set.unaddressable")
  let val ← loadVar src b
  if ← Rtype.directlyAssignable dst src then storeVar dst a val
  else if ← Rtype.implements dst src then
   if(← Rtype.kind src)==20 then
    match val with
    | .nilIface=>unsupported (.noEntry "extern/reflectlite: a nil value of one interface type handed on as a value of another")
    | _=>storeVar dst a val
   else storeVar dst a (.iface src val)
  else panicString ("reflectlite.Set: value of type " ++(← Rtype.spelt src)++ " is not assignable to type " ++(← Rtype.spelt dst))
  pure (.tuple #[])):=rfl
theorem b8{E H:LH}{S:List Seg}{X:Halt->St->Prop}{Q:Value->St->Prop}{bk r:Nat}{u:Value}{c:Int}(j:Nat)(U:Au E H S)(K:S[j]? =some [(bk,.cells #[u] 96 (0,0))])(Y:At E r 0 [iV c])(h:Au E H (S.set j [(bk,.cells #[iV c] 96 (0,0))])->Q (.tuple #[]) (Ak E H (S.set j [(bk,.cells #[iV c] 96 (0,0))]))):
  lp Tryz.prog (ReflectliteValue.set #[.agg #[Fy 96,.pointer (some ⟨bk,0,none⟩),.int .u64 409],.agg #[Fy 96,.pointer (some ⟨r,0,none⟩),.int .u64 153]]) (Ak E H S) Q X:=by
 rw [jK];refine Ay (x:=ReflectliteValue.parts _) _ ((X8 _).mpr ?_);refine Ay (x:=ReflectliteValue.parts _) _ ((Zu _).mpr ?_);refine Ay (x:=loadVar 96 _) _ ((bf _).mpr ⟨V,_,At.J6 (j:=0) Y V,?_⟩);refine Ay (x:=Rtype.directlyAssignable 96 96) _ (dS.mpr ?_);refine Ay (x:=storeVar 96 _ _) _ ?_;obtain⟨Z,ac⟩:=Hg U K;rw [Z];refine Qs (pl:=(S.set j []).flatten.length) (AX Tryz.type96) (by simp [Value.cells,C5]) ac (c:= #[u]) (e:=96) (by simp) (by simp [Value.cells]) λO=>?_;have ag:((S.set j []).flatten++ [(bk,Obj.cells #[u] 96 (0,0))]).set (S.set j []).flatten.length (bk,.cells (A9 #[u] 0 (Value.agg #[iV c]).cells.toList) 96 (0,0))=(S.set j []).flatten++ [(bk,.cells #[iV c] 96 (0,0))]:=Jl _ _ _ _;rw [ag] at O ⊢;obtain⟨al,am⟩:=Jp (seg':= [(bk,.cells #[iV c] 96 (0,0))]) K O;rw [al];exact h am
variable {J:Judge Tryz.prog}{E:LH}
theorem iy{c:Int}{bk r:Nat}{u:Value}(O:At E r 0 [.pointer (some ⟨bk,0,none⟩)]):AT J 69 [.iface 96 (.agg #[iV c]),.iface 98 (.pointer (some ⟨bk,0,none⟩)),.agg #[Fy 98,.pointer (some ⟨r,0,none⟩),.int .u64 150],Kg 96] E [(bk,.cells #[u] 96 (0,0))] (λv E' B'=>v= .bool true/\B'= [(bk,.cells #[iV c] 96 (0,0))]):=by
 refine Mn Tryz.func69 V V λQ a0 cs H U Y=>zm 60 V (JS.box (v:= .agg #[Fy 98,.pointer (some ⟨r,0,none⟩),.int .u64 150]) V V V U V λr2 Z=>?_);refine Df 1 Z V λa1 K ac ag=>zm 60 V (II ?_);refine zm 60 V (Lw fH V V V V ?_);refine(Yg _).mpr ?_;refine zm 60 V (Nu gU (jf _) V V V V V ?_);refine cT.mpr (zm 60 V ?_);refine Cf ac NY MM V V (Lw fg V V V V ?_);refine ZF ⟨r,0,none⟩ ⟨bk,0,none⟩ (At.J6 (j:=0) (O.M K) V) (zm 60 V ?_);refine Lw VH V V V V ?_;refine(XP c).mpr ⟨V,λr3 al am=>?_⟩;obtain⟨ap,aq⟩:=Ud (o:= .cells #[iV c] 96 (0,0)) ag al am;rw [aq];refine Df 2 ap V λa2 av aw ay=>Lw gX V V V V (b8 0 ay V aw λaz=>?_);refine zm 60 V (A2 Tryz.func69 V V ?_);exact Y _ _ _ _ (K.trans av) V ⟨V,V⟩ az
theorem gH{c:Int}{bk:Nat}{u:Value}(Z:At E 0 0 [Kg 69]):AT J 47 [.iface 96 (.agg #[iV c]),.iface 98 (.pointer (some ⟨bk,0,none⟩))] E [(bk,.cells #[u] 96 (0,0))] (λv E' B'=>v= .bool true/\B'= [(bk,.cells #[iV c] 96 (0,0))]):=by
 refine Mn Tryz.func47 V V λQ a2 cs H ac ag=>zm 60 V ?_;refine An (v:= .bool false) V (λρ h=>TA Tryz.underlying69 (show MB 96 (.iface 96 (.agg #[iV c])) (some c) from V) (h _ _ V) (h _ _ V)) (zm 60 V ?_);refine An V (λρ h=>bj (h _ _ V) (h _ _ V)) (zm 60 V ?_);refine Lw VH V V V V ?_;refine(XC _).mpr ⟨V,λr al am=>?_⟩;obtain⟨ap,aq⟩:=Ud (o:= .cells #[.pointer (some ⟨bk,0,none⟩)] 98 (0,0)) ac al am;rw [aq];refine JS.alloc V V V ap (Dx Tryz.type138) λr2 av=>WV (v:= .agg #[Fy 98,.pointer (some ⟨r,0,none⟩),.int .u64 150]) (off:=0) 2 av MM V V V V λaw=>zm 60 V (Df 1 aw V λa3 U Y ay=>?_);refine Df 2 ay V λa4 K O az=>Cf O NY MM V V (Lw eW V V V V ?_);refine(Z8 _).mpr ?_;refine zm 60 V (Nu VU (Wo _) V V V V V ?_);refine aY.mpr (zm 60 V ?_);refine Cf (O) NY MM V V (Lw fz V V V V ?_);refine YY ⟨r,0,none⟩ ⟨bk,0,none⟩ (At.J6 (j:=0) (Y.M K) V) (zm 60 V ?_);refine Nu gB (gp _) V V V V V (ao.mpr ?_);refine zm 60 V (Nu VU (Wo _) V V V V V ?_);refine aj.mpr (zm 60 V ?_);refine Dh 0 (Z.M (U.trans K)) (CB Tryz.underlying141) V V V (Nu eV (gq _) V V V V V ?_);refine ZV.mpr (zm 60 V ?_);refine An (v:= .bool (!true)) V (λρ h=>Yl.not (h _ _ V)) (zm 60 V ?_);refine Cf (O) NY MM V V (zm 60 V ?_);refine Cc 0 (iy (Y.M K)) V V (A5 Tryz.func69 V) az V ?_;rintro _ a5 _ a0 ⟨rfl,rfl⟩ a1;refine zm 60 V (A2 Tryz.func47 V V ?_);exact ag _ _ _ _ ((U.trans K).trans a0) V ⟨V,V⟩ a1
theorem aH{c:Int}(K:At E 0 0 [Kg 69]):AT J 32 [.iface 96 (.agg #[iV c])] E [] (λv E' B'=>v=iV c/\B'= []):=by
 refine Mn Tryz.func32 V V λQ ap cs H O U=>zm 60 V (JS.alloc V V V O LZ λr1 Y=>?_);refine zm 60 V (An V (λρ h=>JR Tryz.underlying98 (λms e=>by cases e) (h _ _ V)) ?_);refine Cc 1 (gH (u:=iV 0) K) V V (A5 Tryz.func47 V) Y V ?_;rintro _ aq _ Z ⟨rfl,rfl⟩ ac;refine Df 1 ac V λav ag al am=>zm 60 V (JL.fd Tryz.underlying96 (AX Tryz.type30) V V V ?_);refine Dh 0 al (CB Tryz.underlying30) V V V (zm 60 V ?_);exact A2 Tryz.func32 V V (U _ _ _ _ (Z.trans ag) V ⟨V,V⟩ am)
abbrev GE(E:LH):Prop:=At E 0 0 [Kg 69]
def WH(fuel:Nat)(p0:Option Int):Option Int:=match p0 with
 | none=>Sq fuel
 | some q=>some q
theorem dx{v:Value}{p0:Option Int}(O:GE E)(h:MB 96 v p0){fuel:Nat}{r:Int}(K:WH fuel p0=some r):AT J 32 [v] E [] (λw E' B'=>w=iV r/\B'= []):=by
 match p0,h with
 | none,h=>obtain rfl:v= .nilIface:=h;exact gb K
 | some c,h=>
  obtain rfl:v= .iface 96 (.agg #[iV c]):=h;cases K;exact aH O
end Pal
namespace Pal
open Go Go.Conc Go.Proofs Go.ChangeShapes Go.WideShapes Go.ChangeAt Go.RowKit
open Go.Proofs.YthpiiodagmcpmaaGreatDoor
theorem Tryz.own:ownKnob Tryz.prog.godebug=none:=by kernel_rfl
theorem Tryz.laidOut:laidOutB Tryz.prog=true:=by kernel_rfl
theorem Tryz.fA:Tryz.prog.cellsOf 3=1:=by kernel_rfl
theorem XD{R:Value->St->Prop}{W w':World}{v:Value}(h:After Tryz.prog R W (GM W) v w'):(∃s,R v s)/\Below W.heap.size W {w' with os:=W.os}/\Go.ConcM.OsLater W.os w'.os:=by
 obtain⟨s,Y,Z,ac,ag,al,am⟩:=h;have hb:∀k,k<W.heap.size->w'.heap[k]? =W.heap[k]? :=λk O=>by
  have K:(GM W).E k=some W.heap[k]:=Array.getElem?_eq_getElem O;have U:=Z.e k _ (ac k _ K);rw [U,Array.getElem?_eq_getElem O]
 refine⟨⟨s,Y⟩,⟨V,ag,am,?_,hb⟩,al⟩;show W.heap.size<=w'.heap.size;rcases Nat.eq_zero_or_pos W.heap.size with ap | ap
 .omega
 .have K:=hb (W.heap.size - 1) (by omega);have aq:W.heap[W.heap.size - 1]? =some W.heap[W.heap.size - 1]:=Array.getElem?_eq_getElem (by omega);rw [aq] at K;have U:=(Array.getElem?_eq_some_iff.1 K).1;omega
theorem TL(a:Addr):a.add 0=a:=by unfold Addr.add;rw [if_pos rfl]
variable {H:Type}{enc:TypeId×Value->H}{W:World}{fuel:Nat}{cs:Lv_}
section
variable {x:DataW H×List MemPlace}
theorem Z4{b off:Nat}{v:Value}(h:W.cell? ⟨b,off,none⟩=some v):At (GM W).E b off [v]:=by
 unfold World.cell? at h;split at h
 .rename_i c e f hW;simp only [Option.isSome_none,Bool.false_eq_true,if_false] at h;refine⟨c,e,f,hW,λj w K=>?_⟩
  match j,K with
  | 0,K=>simp at K;subst K;simpa using h
  | j+1,K=>simp at K
 .cases h
theorem Yv{b off:Nat}(O:0<cs.length)(h:∀j,j<cs.length->W.cell? ⟨b,off+j,none⟩=cs[j]?):At (GM W).E b off cs:=by
 have U:=h 0 O;rw [List.getElem?_eq_getElem O] at U;obtain⟨f,e,fr,Y,_⟩:=Z4 U;have hW:W.heap[b]? =some (.cells f e fr):=Y;refine⟨f,e,fr,Y,λj w Z=>?_⟩;have ac:=(List.getElem?_eq_some_iff.1 Z).1;have K:=h j ac;rw [Z] at K;unfold World.cell? at K;simp only [hW] at K;simpa using K
theorem dX{α:Type}{p:Rp α}{t e:TypeId}(a1:Tryz.prog.underlying t=some (.slice e))(a2:Tryz.prog.cellsOf e=p.n)(a3:0<p.n)
  (a4:∀n cs x,DataW.trod enc Tryz.prog W 0 (λ_=>true) true n e cs=some x->∃v,p.r (GM W).E cs v)
  (a5:DataW.trod enc Tryz.prog W 0 (λ_=>true) true fuel t cs=some x):∃(a:Option Addr) (c:Nat) (aq:List α),cs= [.slice a aq.length c]/\Ao p (GM W).E a c aq:=by
 rcases DataW.trod_slice a1 a5 with⟨ac,a6⟩ | ⟨a,len,cap,elems,rest,n,_,ac,a6,_,a7,_,hlen,av,aw,_⟩
 .exact⟨none,0,[],ac,Ao.nil⟩
 .rw [a2] at av aw;rcases Nat.eq_zero_or_pos cap with ay | ay
  .have:len=0:=by omega
   subst this;subst ay;exact⟨some a,0,[],ac,Nat.le_refl _,.inl ⟨V,λ_ _=> .inr V⟩⟩
  .have az:∀i,i<len->∃vs y,vs.length=p.n/\(∀j,j<p.n->W.cell? ((a.add (i*p.n)).add j)=vs[j]?)/\DataW.trod enc Tryz.prog W 0 (λ_=>true) true n e vs=some y:=λi hi=>by
    have K:=av i hi;rw [List.getElem?_eq_getElem (by omega)] at K;obtain⟨vs,al,Y⟩:=Option.bind_eq_some_iff.1 K;obtain⟨_,O,am⟩:=World.cells?_some al;exact⟨vs,_,O,am,Y⟩
   have ap:a.spot=none:=by
    have key:∀vs:Lv_,vs.length=p.n->(∀j,j<p.n->W.cell? ((a.add (0*p.n)).add j)=vs[j]?)->a.spot=none:=λvs ag U=>by
     have:=U 0 a3;rw [List.getElem?_eq_getElem (by omega),TL,Nat.zero_mul,TL] at this;exact World.cell?_spot this
    rcases Nat.eq_zero_or_pos len with K | K
    .obtain⟨al,Y⟩:=aw V;have O:=Y 0 (by omega);rw [List.getElem?_eq_getElem (by omega)] at O;obtain⟨vs,am,_⟩:=Option.bind_eq_some_iff.1 O;obtain⟨_,ag,U⟩:=World.cells?_some am;rw [K] at U;exact key vs ag U
    .obtain⟨vs,y,ag,U,_⟩:=az 0 K;exact key vs ag U
   have a0:∀i:Fin len,∃z:α,∃vs,p.r (GM W).E vs z/\At (GM W).E a.block (a.off+i*p.n) vs:=λi=>by
    obtain⟨vs,y,al,Y,O⟩:=az i i.2;obtain⟨z,Z⟩:=a4 _ _ _ O;refine⟨z,vs,Z,Yv (by omega) λj a8=>?_⟩;have:=Y j (by omega);rw [Ek ap,Ek rfl] at this;exact this
   refine⟨some a,cap,List.ofFn λi=>Classical.choose (a0 i),by simpa using ac,by simpa using a7,.inr ⟨a.block,a.off,?_,λi z Z=>?_⟩⟩
   .obtain⟨b,o,s⟩:=a;simp only at ap;subst ap;rfl
   .have hi:i<len:=by have:=(List.getElem?_eq_some_iff.1 Z).1;simpa using this
    simp [hi] at Z;have:=Classical.choose_spec (a0 ⟨i,hi⟩);rw [Z] at this;exact this
theorem dA(h:DataW.trod enc Tryz.prog W 0 (λ_=>true) true fuel 3 cs=some x):∃z:Int,cs= [iV z]:=by
 obtain⟨n1,K,_⟩:=DataW.trod_int Tryz.underlying3 h;exact⟨n1,K⟩
theorem ai(O:DataW.trod enc Tryz.prog W 0 (λ_=>true) true fuel 22 cs=some x):∃(a:Option Addr) (c:Nat) (K:List Int),cs= [.slice a K.length c]/\Ao rI (GM W).E a c K:=
 dX (p:=rI) Tryz.underlying22 Tryz.fA Nat.one_pos (λn cs x h=>by
  obtain⟨z,rfl⟩:=dA h
  exact⟨z,rfl⟩) O
theorem aS{v:Value}{O:Nat}{d:DataW H}{p:List MemPlace}(U:Value.okWide Tryz.prog W .any O 22 v)(hd:DataW.Trod enc Tryz.prog W 0 (λ_=>true) true 22 v d p):
  ∃(a:Option Addr) (c:Nat) (K:List Int),v= .slice a K.length c/\Ao rI (GM W).E a c K:=by
 obtain⟨Z,len,cap,rfl⟩:=okWide_slice Tryz.underlying22 U;obtain⟨fuel,Y⟩:=hd;obtain⟨a,c,K,e,g⟩:=ai Y;simp [Value.cells] at e;obtain⟨rfl,rfl,rfl⟩:=e;exact⟨_,_,_,V,g⟩
end
noncomputable def TH(os:Os):World:=
 let w0:=World.holding Tryz.prog os ⟨#[],#[],[]⟩
 {w0 with heap:=w0.heap.modify 0 fun
   | .cells _ t frozen=> .cells #[.iface 182 (.agg #[.pointer (some ⟨1,69,none⟩)])] t frozen
   | o=>o}
theorem Xl(os:Os)(args:Av_):laidMetH Tryz.prog [("errors.errorType",Rows.laid_errors_errorType)] ((TH os).forCall (λ_ _=>0) ⟨#[],args,[]⟩).memory:=
 laidMetH_of_parts (laidMet_nil _ _) (by kernel_rfl)
theorem Tryz.bP:Tryz.prog.globalNamed "errors.errorType" =some 0:=by kernel_rfl
theorem Tryz.ic:(Tryz.prog.cutTypes.find? (·.1== "internal/reflectlite.rtype")).map (·.2)=some 182:=by kernel_rfl
theorem Tryz.bO:Tryz.prog.globals.size=1:=by kernel_rfl
theorem Tryz.gC:(List.range Tryz.prog.types.size).all (λt=> !Tryz.prog.rowNamed t [101,114,114,111,114] || t==69)=true:=by kernel_rfl
theorem cr{W:World}(h:laidMetH Tryz.prog [("errors.errorType",Rows.laid_errors_errorType)] W.memory):GE (GM W).E:=by
 have U:=h.2 _ (List.mem_cons_self ..);obtain⟨name,u,ty,Y,Z,ac,ag,K⟩:=U;have al:name= [101,114,114,111,114]:=(Option.some.inj Y).symm;have e2:u=182:=Option.some.inj (Z.symm.trans Tryz.ic);subst al;subst e2;have am:ty=69:=by
  have:=List.all_eq_true.1 Tryz.gC ty (List.mem_range.2 ac);rw [ag] at this;simpa using this
 subst am;unfold World.var? at K;rw [Tryz.bP] at K;simp only [Option.bind_some] at K;split at K
 .rename_i c e f hW;simp only [Option.some.injEq] at K;subst K;refine⟨_,e,f,hW,λj w O=>?_⟩;have ap:typeHandle Tryz.prog 69= .pointer (some ⟨1,69,none⟩):=by unfold typeHandle;rw [Tryz.bO]
  rw [ap]
  match j,O with
  | 0,O=>simp at O;subst O;rfl
  | j+1,O=>simp at O
 .cases K
theorem Xu{H:Type}{enc:TypeId×Value->H}{C:Checked}{os:Os}{f:FuncId}{fn:Func}{s:ChangeSpec}{conds:List PathCond}{apart:Bool}{X:World->Av_->Prop}(w0:World)(args:Av_)(fuel:Nat)(O:w0.os=os)
  (U:(w0.forCall (λ_ _=>0) ⟨#[],args,[]⟩).variablesB C.prog=true)
  (Y:((w0.forCall (λ_ _=>0) ⟨#[],args,[]⟩).heap.toList.drop C.prog.globals.size).take ((begin C.prog (λ_ _=>0) default).world.heap.size - C.prog.globals.size)=
   (begin C.prog (λ_ _=>0) default).world.heap.toList.drop C.prog.globals.size)
  (K:Input.okWideB C.prog (w0.forCall (λ_ _=>0) ⟨#[],args,[]⟩) f ⟨#[],args,[]⟩=true)
  (Z:s.preB enc C.prog fn conds apart (w0.forCall (λ_ _=>0) ⟨#[],args,[]⟩).memory args fuel=true)
  (ac:s.sizedB enc C.prog fn apart (w0.forCall (λ_ _=>0) ⟨#[],args,[]⟩).memory args fuel=true)
  (ag:X (w0.forCall (λ_ _=>0) ⟨#[],args,[]⟩).memory args):
  ∃(w:World) (tape:Tape) (i:Input),w.os=os/\(w.forCall tape i).Shaped C.prog/\i.vars= []/\Input.okWide C.prog (w.forCall tape i) .any w.heap.size f i/\
   ((s.pre enc C.prog fn conds apart (w.forCall tape i).memory i.args/\X (w.forCall tape i).memory i.args)/\sizedMet enc C.prog fn (OpenSpec.ofChange s) apart (w.forCall tape i).memory i.args)/\({calm:=true}:Assume).holds C.prog (Go.lone (Frame.enter C.prog f i.args .normal) [] (w.forCall tape i)):=
 ⟨w0,λ_ _=>0,⟨#[],args,[]⟩,O,World.shaped_of_B U Y,(Input.okWide_of_okWideB (base:=0) K).1,(Input.okWide_of_okWideB K).2,⟨⟨ChangeSpec.pre_of_preB Z,ag⟩,sizedMet_of_sizedB ac⟩,by
  simp only [Assume.holds]
  exact⟨by simp,λ_ _ _ _=>rfl,by simp,by simp,by simp⟩⟩
end Pal
namespace Pal
open Go Go.Conc Go.Proofs
open Go.Proofs.Tryz
variable {J:Judge Tryz.prog}{E:LH}
variable {J:Judge Tryz.prog}{E:LH}
variable {J:Judge Tryz.prog}{E:LH}
variable {J:Judge Tryz.prog}{E:LH}
end Pal
namespace Pal
open Go Go.Conc
variable {P:Program}{Q:Gs_}{b:Frame}{n:Nat}{ds:Ld_}{ops:Ao_}{cs:Lf_}{fuel:Nat}{D:Nat->Bool}{listed:Array Bool}{L:Env}{s:St}{E' H:LH}{S:List Seg}
variable {d:Option Tmp}{y:Operand}{t u ty e:TypeId}{p:String}{af:Ae_}{g:On_}{v:Value}{i:Nat}{kd:IntKind}
section
variable {J:Judge P}{k:Li_}{m:Nat}{E:LH}
variable {x:Operand}
end
open Go.Proofs Go.Proofs.Tryz
variable {J:Judge Tryz.prog}{E:LH}
end Pal
namespace Pal
open Go Go.Conc
variable {P:Program}{d:Option Tmp}{t u ty e:TypeId}{p:String}{af:Ae_}{g:On_}{s:St}{ρ:Operand->Value}
section
variable {x:Operand}
end
open Go.Proofs Go.Proofs.Tryz
variable {J:Judge Tryz.prog}{E:LH}
variable {J:Judge Tryz.prog}{E:LH}
def Pp(fu_:Nat)(p1:Int)(K:(List Int)×Int×Nat×(List Int)×Int):Option (Br ((List Int)×Int×Nat×(List Int)×Int) ((List Int)×Cd)):= if K.2.2.2.2<p1 then((f36 fu_ (K.1,K.2.1,K.2.2.1) K.2.2.2.2).bind λO=> (room K.2.2.2.1 K.2.2.2.2).bind λU=> (ix U O.1).bind λY=> (ix U K.2.2.2.2).bind λac=> (ix (U.set (Int.toNat K.2.2.2.2) Y) O.1).bind λag=> (Av (K.2.2.2.2+1)).bind λZ=> some (.more (O.2.1,O.2.2.1,O.2.2.2,((U.set (Int.toNat K.2.2.2.2) Y).set (Int.toNat O.1) K.2.2.2.2),Z))) else(some (.done (K.2.2.2.1,K.1,K.2.1,K.2.2.1)))
def f49(fu_:Nat)(p0:Cd)(p1:Int):Option ((List Int)×(Cd)):= Option.bind (iter (Pp fu_ p1) fu_ (p0.1,p0.2.1,p0.2.2,[],0)) λK=> some K
theorem Wz{bk:Nat}{a1:Aq}{c2:Nat}{p0:Cd}{p1:Int}(ce:Ao rI E a1 c2 p0.1){fu_:Nat}{r:(List Int)×(Cd)}(bb:f49 fu_ p0 p1=some r):AT J 35 [Al bk 0,iV p1] E [(bk,.cells #[sV a1 p0.1 c2,iV p0.2.1,.int .u64 ((p0.2.2:Nat):Int)] 43 (0,0))] (λw E' B'=>∃(be:Aq) (bi:Nat) (bn:Aq) (bo:Nat),w= sV be r.1 bi/\B'= [(bk,.cells #[sV bn r.2.1 bo,iV r.2.2.1,.int .u64 ((r.2.2.2:Nat):Int)] 43 (0,0))]/\Ao rI E' be bi r.1/\Ao rI E' bn bo r.2.1):=by
 refine Bp func35 λQ fk cs H ci co=>?_;unfold f49 at bb;obtain⟨ag,cp,ct⟩:=bs bb;refine C 13 V (Bx (λL s=>∃(aw:LH) (ay:Aq) (az:Nat) (a6:Seg) (a0:Aq) (a2:Nat),Jn E H aw [bX bk #[sV a0 ag.2.1 a2,iV ag.2.2.1,.int .u64 ((ag.2.2.2:Nat):Int)] 43,a6] [(5,sV ay ag.1 az)] L s (OL 3 rI aw ay az a6 ag.1/\Ao rI aw a0 a2 ag.2.1)) ?_ ?_)
 .rintro _ _ ⟨aw,ay,az,a6,a0,a2,rfl,rfl,cw,cy,c0,c1⟩;refine C 5 V (Cp 1 c0 cy V λfl bv c3 c4=>?_);obtain rfl:=oi ct;exact A2 func35 V V (co (cw.Ad bv) V ⟨ay,az,a0,a2,V,V,c3,(c1.M bv)⟩ c4)
 .intro c5;refine JL.block (Cn cp (λL s K=>∃(al:LH) (a3:Aq) (a4:Nat) (am:Aq) (ap:Nat) (a5:Seg),Jn E H al [bX bk #[sV a3 K.1 a4,iV K.2.1,.int .u64 ((K.2.2.1:Nat):Int)] 43,a5] [(0,Al bk 0),(1,iV p1),(5,sV am K.2.2.2.1 ap),(6,iV K.2.2.2.2)] L s (Ao rI al a3 a4 K.1/\OL 3 rI al am ap a5 K.2.2.2.1)) ⟨E,a1,c2,none,0,[],V,V,AN,ci,ce,OL.nil⟩ ?_);rintro _ _ K ⟨al,a3,a4,am,ap,a5,rfl,rfl,bw,bx,bz,b0⟩ c6 ⟨fm,a7⟩ c7;have b1:=a7;unfold Pp at b1;refine C 7 V (A1 b1 (λc8 c9=>?_) (λc8 dd=>?_))
  .obtain⟨U,ea,eb⟩:=bs c9;refine C 7 V (Cc 0 (KJ bz ea) V V Km bx V ?_);rintro _ ec _ b2 ⟨ed,ee,rfl,rfl,ef⟩ eg;obtain⟨Y,ej,ek⟩:=bs eb;refine C 6 V (JS.app (pp:=rI) (v:=iV K.2.2.2.2) (a:=am) (c:=ap) 1 ej V V V V (λ_=>V) V (λ_=>V) V V V underlying22 underlying22 underlying22 AH (DF type3) CR V (by decide) (by decide) (by decide) (by decide) (b0.M b2) V eg V λfo Z ac fs b3 b4=>?_);obtain⟨O,el,em⟩:=bs ek;refine C 9 V (J2 1 b3 el V V V V V V underlying22 AH ?_);rintro b5 b6 f77 _ eo rfl ep fv fw fN gc;refine An (v:=iV O) V (λρ h=>Yl.load Ba (h _ _ V) (B5 (j:=1) b4 eo (ep 0 _ V))) ?_;obtain⟨ge,er,eu⟩:=bs em;refine C 1 V (J2 1 b3 er V V V V V V underlying22 AH ?_);rintro ca a8 f88 _ ew rfl gg ex ey gh gt;refine JS.store (v:=iV O) (off:=a8) 1 V V V b4 V V AH (by simp [Value.cells,C5]) ew (by have:=ex;simp only [Rp.n,rK,rN,rB,rP,rL] at this;show _+1<=_;omega) λeA=>?_;have eC:=ey O [iV O] V;have aq:(Y.set (Int.toNat K.2.2.2.2) O).length=Y.length:=List.length_set;refine EH (L':= [(0,Al bk 0),(1,iV p1),(6,iV K.2.2.2.2),(8,iV K.2.2.2.2),(9,iV p1),(10,.bool (decide (K.2.2.2.2<p1))),(13,Al bk 0),(14,iV K.2.2.2.2),(15,iV U.1),(7,iV U.1),(17,iV K.2.2.2.2),(19,.slice Z ((Y.set (Int.toNat K.2.2.2.2) O)).length ac),(5,.slice Z ((Y.set (Int.toNat K.2.2.2.2) O)).length ac),(20,.slice Z ((Y.set (Int.toNat K.2.2.2.2) O)).length ac),(21,iV K.2.2.2.2),(22,.slice Z ((Y.set (Int.toNat K.2.2.2.2) O)).length ac),(23,iV U.1),(24,.slice Z ((Y.set (Int.toNat K.2.2.2.2) O)).length ac),(25,iV U.1),(26,Al b5 b6),(27,iV O),(28,iV K.2.2.2.2),(29,Al ca a8)]) ⟨V,V,V,V,V,V,V,V,V,V,V,by rw [aq];rfl,by rw [aq];rfl,by rw [aq];rfl,V,by rw [aq];rfl,V,by rw [aq];rfl,V,V,V,V,V,trivial⟩ ?_;obtain⟨gE,eN,e0⟩:=bs eu;refine J2 1 eC eN V V V V V V underlying22 AH ?_;rintro cc a9 f102 _ e1 rfl gO e3 e4 g0 g1;refine JS.store (v:=iV K.2.2.2.2) (off:=a9) 1 V V V eA V V AH (by simp [Value.cells,C5]) e1 (by have:=e3;simp only [Rp.n,rK,rN,rB,rP,rL] at this;show _+1<=_;omega) λe5=>?_;have e6:=e4 K.2.2.2.2 [iV K.2.2.2.2] V;have av:((Y.set (Int.toNat K.2.2.2.2) O).set (Int.toNat U.1) K.2.2.2.2).length=((Y.set (Int.toNat K.2.2.2.2) O)).length:=List.length_set;refine EH (L':= [(0,Al bk 0),(1,iV p1),(6,iV K.2.2.2.2),(8,iV K.2.2.2.2),(9,iV p1),(10,.bool (decide (K.2.2.2.2<p1))),(13,Al bk 0),(14,iV K.2.2.2.2),(15,iV U.1),(7,iV U.1),(17,iV K.2.2.2.2),(19,.slice Z (((Y.set (Int.toNat K.2.2.2.2) O).set (Int.toNat U.1) K.2.2.2.2)).length ac),(5,.slice Z (((Y.set (Int.toNat K.2.2.2.2) O).set (Int.toNat U.1) K.2.2.2.2)).length ac),(20,.slice Z (((Y.set (Int.toNat K.2.2.2.2) O).set (Int.toNat U.1) K.2.2.2.2)).length ac),(21,iV K.2.2.2.2),(22,.slice Z (((Y.set (Int.toNat K.2.2.2.2) O).set (Int.toNat U.1) K.2.2.2.2)).length ac),(23,iV U.1),(24,.slice Z (((Y.set (Int.toNat K.2.2.2.2) O).set (Int.toNat U.1) K.2.2.2.2)).length ac),(25,iV U.1),(26,Al b5 b6),(27,iV O),(28,iV K.2.2.2.2),(29,Al ca a8),(30,Al cc a9)]) ⟨V,V,V,V,V,V,V,V,V,V,V,by rw [av];rfl,by rw [av];rfl,by rw [av];rfl,V,by rw [av];rfl,V,by rw [av];rfl,V,V,V,V,V,V,trivial⟩ ?_;obtain⟨e7,e8,ff⟩:=bs e0;refine C 4 V (Bv e8 V V V ?_);refine C 2 V ?_;obtain rfl:=oi ff;exact AF (c7 _ _ (U.2.1,U.2.2.1,U.2.2.2,((Y.set (Int.toNat K.2.2.2.2) O).set (Int.toNat U.1) K.2.2.2.2),e7) ⟨ec,ed,ee,Z,ac,[(cc,.cells (A9 f102 a9 [iV K.2.2.2.2]) 3 (0,0))],V,V,(bw.Ad b2),e5,ef,e6⟩ a7) V
  .refine JL.exit V ?_;obtain rfl:=oi dd;obtain rfl:=c6 _ a7;exact AF (c5 _ _ ⟨al,am,ap,a5,a3,a4,V,V,bw,bx,b0,bz⟩) V
end Pal
namespace Pal
def As{α:Type}(o:Option α)(Q:α->Prop):Prop:=∃a,o=some a/\Q a
variable {α β:Type}{Q R:α->Prop}
theorem Ap{a:α}(h:Q a):As (some a) Q:=⟨a,V,h⟩
theorem As.M{o:Option α}(h:As o R)(k:∀a,R a->Q a):As o Q:=let ⟨a,K,O⟩:=h;⟨a,K,k a O⟩
theorem AI{o:Option β}{f:β->Option α}{S:β->Prop}(h:As o S)(k:∀b,S b->As (f b) Q):As (o.bind f) Q:=by
 obtain⟨b,rfl,hb⟩:=h;obtain⟨a,K,O⟩:=k b hb;exact⟨a,K,O⟩
theorem A6{o:Option β}{f:β->Option α}{b:β}(h:o=some b)(k:As (f b) Q):As (o.bind f) Q:=by subst h;exact k
theorem As.jJ{f:Int->Option α}{x:Int}(K: -9223372036854775808<=x)(O:x<=9223372036854775807)(k:As (f x) Q):As ((Av x).bind f) Q:=A6 (if_pos ⟨K,O⟩) k
theorem IW{xs:List β}{i:Int}{m:Nat}{b:β}(h:i=(m:Int))(hb:xs[m]? =some b):ix xs i=some b:=by subst h;simpa [ix] using hb
theorem Bg{f:β->Option α}{xs:List β}{i:Int}{m:Nat}(h:i=(m:Int))(hm:m<xs.length)(k:As (f xs[m]) Q):As ((ix xs i).bind f) Q:=A6 (IW h (List.getElem?_eq_getElem hm)) k
theorem Hz{f:List β->Option α}{xs:List β}{x:β}(h:xs.length+1<=2 ^ 40)(k:As (f (xs++ [x])) Q):As ((room xs x).bind f) Q:=A6 (if_pos h) k
theorem Bw{c:Prop} [Decidable c] {x y:Option α}(K:c->As x Q)(O:¬c->As y Q):As (if c then x else y) Q:=by
 by_cases h:c
 .rw [if_pos h];exact K h
 .rw [if_neg h];exact O h
theorem BZ{c:Prop} [Decidable c] {x y:Option α}(h:c)(k:As x Q):As (if c then x else y) Q:=by rw [if_pos h];exact k
theorem BY{c:Prop} [Decidable c] {x y:Option α}(h:¬c)(k:As y Q):As (if c then x else y) Q:=by rw [if_neg h];exact k
def Br.sat{S A:Type}(I:S->Prop)(Q:A->Prop):Br S A->Prop
 | .more s=>I s
 | .done a=>Q a
theorem Fi{S:Type}{body:S->Option (Br S α)}(I:Nat->S->Prop)(round:∀m s,I m s->As (body s) (Br.sat (λs'=>∃m',m'<m/\I m' s') Q)):
  ∀{m fuel:Nat} {s:S},I m s->m<fuel->As (iter body fuel s) Q:=by
 intro m
 induction m using Nat.strongRecOn with
 | _ m O=>
  intro fuel s U ag;obtain⟨fuel,rfl⟩:∃k,fuel=k+1:=⟨fuel - 1,by omega⟩;obtain⟨st,Y,K⟩:=round m s U;unfold Pal.iter;rw [Y];cases st with
  | more s'=>
   obtain⟨m',Z,ac⟩:=K;exact O m' Z ac (by omega)
  | done a=>exact⟨a,rfl,K⟩
theorem Dm{S A:Type}{body:S->Option (Br S A)}{Q:A->Prop}{K:S}{F:Nat}(n:Nat)(I:Nat->S->Prop)(Y:I 0 K)(ac:n<F)
  (round:∀i s,i<n->I i s->As (body s) (Br.sat (I (i+1)) Q)) (last:∀s,I n s->As (body s) (λst=>∃a,st= .done a/\Q a)):As (Pal.iter body F K) Q:=by
 refine Fi (λm s=>∃i,i<=n/\m=n - i/\I i s) ?_ (m:=n - 0) ⟨0,Nat.zero_le _,V,Y⟩ (by omega);rintro m s ⟨i,hi,rfl,O⟩;rcases Nat.lt_or_ge i n with Z | ag
 .refine(round i s Z O).M ?_;intro st U;cases st with
  | more s'=>exact⟨n - (i+1),by omega,i+1,by omega,rfl,U⟩
  | done a=>exact U
 .obtain rfl:i=n:=by omega
  refine(last s O).M ?_;rintro st ⟨a,rfl,h⟩;exact h
theorem DC{α:Type}{o:Option α}{a:α}(h:As o (λx=>x=a)):o=some a:=by obtain⟨x,K,rfl⟩:=h;exact K
theorem Kx{α:Type}{Q:α->Prop}{f:Int->Option α}{x:Int}(y:Int)(h:x=y)(K: -9223372036854775808<=y)(O:y<=9223372036854775807)(k:As (f y) Q):As ((Av x).bind f) Q:=by subst h;exact As.jJ K O k
theorem As.E{α:Type}{Q:α->Prop}{f:Int->Option α}{x:Int}(y:Int)(h:x=y)(k:As (f y) Q)(K: -9223372036854775808<=y:=by omega)(O:y<=9223372036854775807:=by omega):As ((Av x).bind f) Q:=Kx y h K O k
theorem As.Qc{α β:Type}{Q:α->Prop}{f:List β->Option α}{xs ys:List β}(h:xs.length+ys.length<1000)(k:As (f (xs++ys)) Q):As ((EK xs ys).bind f) Q:=A6 (by unfold EK;rw [if_pos (by omega)]) k
abbrev Hq:=List Int×Int×Nat
def BG(k:Nat)(b:Hq):Prop:=0<=b.2.1/\b.2.1<=(k:Int)
theorem BG.M{k k':Nat}{b:Hq}(h:BG k b)(K:k<=k'):BG k' b:=⟨h.1,by have:=h.2;omega⟩
theorem fF{F k:Nat}{b:Hq}(hb:BG k b)(K:k<1000000):As (f83 F b) (λr=>r.1<2 ^ 64/\BG (k+1) r.2):=by
 obtain⟨O,U⟩:=hb;unfold f83;refine As.E (b.2.1+1) V ?_;have key:∀x:Nat,(x % 2 ^ 64)>>>11<2 ^ 64:=λx=>Nat.lt_of_le_of_lt (Nat.shiftRight_le _ _) (Nat.mod_lt _ (Nat.two_pow_pos 64));refine AI (S:=λ_=>True) ?_ ?_
 .refine Bw (λh=>?_) (λh=>?_)
  .refine As.E b.2.1 (by omega) (Bg (m:=b.2.1.toNat) (by omega) (by omega) ?_);exact Ap trivial
  .exact Ap trivial
 .intro x _;exact Ap ⟨key _,by simp only;omega,by simp only;omega⟩
theorem TC{a:Nat}(h:a<2 ^ 62):JE a=(a:Int):=by
 unfold JE;exact Ks (by omega)
theorem KB{F k:Nat}{b:Hq}{m:Int}(hb:BG k b)(O:k<1000000)(hm:m<1000000):As (f36 F b m) (λr=>0<=r.1/\(r.1<=m∨r.1=0)/\BG (k+1) r.2):=by
 unfold f36;refine AI (fF hb O) ?_;rintro⟨x,b'⟩ ⟨Z,K⟩;refine Bw (λh=>?_) (λh=>?_)
 .exact Ap ⟨by simp,.inr V,K⟩
 .have U:Cv m=m.toNat:=by unfold Cv;omega
  have e2:(Cv m+1) % 2 ^ 64=m.toNat+1:=by rw [U];omega
  have Y:x % (m.toNat+1)<m.toNat+1:=Nat.mod_lt _ (by omega);refine A6 (b:=x % (m.toNat+1)) (by rw [e2];unfold PH;rw [if_neg (by omega)]) ?_;refine Ap ?_;simp only;generalize x % (m.toNat+1)=z at Y ⊢;rw [TC (by omega)];exact⟨by omega,.inl (by omega),K⟩
theorem RJ{F k:Nat}{b:Hq}{lo hi:Int}(hb:BG k b)(O:k<1000000)(Y:0<=lo)(Z:lo<=hi)(ac:hi<1000):As (f37 F b lo hi) (λr=>lo<=r.1/\r.1<=hi/\BG (k+1) r.2):=by
 unfold f37;refine As.E (hi - lo) V (AI (KB hb O (by omega)) ?_);rintro⟨x,b'⟩ ⟨U,g2,K⟩;simp only at U g2 K ⊢;exact As.E (lo+x) V (Ap ⟨by simp only;omega,by simp only;omega,K⟩)
theorem fJ{F k:Nat}{b:Hq}{m:Int}(hb:BG k b)(K:k<1000000)(U:1<=m)(Y:m<1000):As (f32 F b m) (λr=>BG (k+1) r.2):=by
 unfold f32;refine As.E (m - 1) V (AI (KB hb K (by omega)) ?_);rintro⟨x,b'⟩ ⟨Z,g2,O⟩;exact Ap O
theorem VI{F k:Nat}{b:Hq}{l:List Int}(hb:BG k b)(U:k<1000000)(Z:0<l.length)(ac:l.length<1000):As (f81 F b l) (λr=>r.1∈l/\BG (k+1) r.2):=by
 unfold f81;refine As.E ((l.length - 1:Nat):Int) (by omega) (AI (KB hb U (by omega)) ?_);rintro⟨x,b'⟩ ⟨Y,g2,K⟩;simp only at Y g2 K ⊢;have O:x.toNat<l.length:=by omega
 exact Bg (m:=x.toNat) (by omega) O (Ap ⟨List.getElem_mem O,K⟩)
abbrev DT:=Int×Int×Int
abbrev OW:=BC×List DT
structure NV (n:Nat) (o:OW):Prop where
 l1:o.1.length<=n
 n1:∀x∈o.1,x.length<=n
 l2:o.2.length<=n
theorem Lr(F:Nat)(a lo hi:Int):f92 F a lo hi=some (decide (lo<=a/\a<=hi)):=by
 unfold f92;by_cases h:lo<=a
 .rw [if_pos h];simp [h]
 .rw [if_neg h];simp [h]
theorem aP{F:Nat}{o:OW}{i:Int}{l:List Int}(h:ix o.1 i=some l):Pl F l=Nn F o i:=by
 funext j;unfold Pl Nn;rw [h];rfl
theorem aL(F:Nat)(o:OW):Pz F o=No F o:=by
 funext i;unfold Pz No;split
 .rcases h:ix o.1 i with _ | l
  .rfl
  .simp only [Option.bind_some];rw [aP h]
 .rfl
theorem eO(F:Nat)(o:OW):f47 F o=f48 F o:=by
 unfold f47 f48;rw [aL];rfl
def VD(n:Nat)(d:DT):Prop:=0<=d.1/\d.1<(n:Int)/\0<=d.2.1/\d.2.1<(n:Int)/\d.1≠d.2.1/\1<=d.2.2/\d.2.2<=9
def CS(x:List Int):Prop:=x.length<=3/\∀c∈x,1<=c/\c<=9
structure VO (o:OW):Prop where
 n2:2<=o.1.length
 n5:o.1.length<=5
 cs:∀x∈o.1,CS x
 d8:o.2.length<=8
 ds:∀d∈o.2,VD o.1.length d
theorem VO.nv{o:OW}(h:VO o):NV 40 o:=⟨by have:=h.n5;omega,λx K=>by have:=(h.cs x K).1;omega,by have:=h.d8;omega⟩
theorem Rb{α:Type}{P:α->Prop}{l:List α}{i:Nat}(hi:i<l.length)(h:∀x∈l.take i,P x)(k:P l[i]):∀x∈l.take (i+1),P x:=by
 intro x K;rw [List.take_add_one,List.getElem?_eq_getElem hi] at K;simp only [Option.toList_some,List.mem_append,List.mem_singleton] at K;rcases K with K | rfl
 .exact h x K
 .exact k
theorem fY{F:Nat}{d:DT}{n:Nat}(Y:n<1000):As (f88 F (n:Int) d 9) (λr=>r=0↔VD n d):=by
 unfold f88;refine As.E ((n:Int) - 1) V (A6 (Lr _ _ _ _) ?_);refine AI (S:=λc=>c=true↔¬((0<=d.1/\d.1<(n:Int))/\0<=d.2.1/\d.2.1<(n:Int))) ?_ ?_
 .refine Bw (λh=>Ap ?_) (λh=>?_)
  .simp at h;simp;omega
  .refine As.E ((n:Int) - 1) V (A6 (Lr _ _ _ _) ?_);refine Ap ?_;simp at h;simp;omega
 .intro c O;refine Bw (λh=>Ap ?_) (λh=>?_)
  .have:=O.1 h;unfold VD;constructor
   .intro h;cases h
   .intro h;omega
  have Z:¬¬_:=λk=>h (O.2 k);refine Bw (λU=>Ap ?_) (λU=>?_)
  .unfold VD;constructor
   .intro h;cases h
   .intro h;omega
  refine A6 (Lr _ _ _ _) (Bw (λK=>Ap ?_) (λK=>Ap ?_))
  .simp at K;unfold VD;constructor
   .intro h;cases h
   .intro h;omega
  .simp at K;unfold VD;constructor
   .intro h;omega
   .intro h;rfl
theorem gS{F:Nat}{o:OW}(Z:100<F)(h:NV 40 o):As (f48 F o) (λr=>r=0↔VO o):=by
 unfold f48;have ac:=h.l1;have ag:=h.l2;refine Bw (λg=>Ap (iff_of_false (by decide) λv=>by have:=v.n2;omega)) (λal=>?_);refine Bw (λg=>Ap (iff_of_false (by decide) λv=>by have:=v.n5;omega)) (λg2=>?_);refine AI (S:=λq=>(∃e,q=Sum.inl e/\e≠0/\¬∀x∈o.1,CS x)∨(q=Sum.inr ()/\∀x∈o.1,CS x)) ?_ ?_
 .refine Dm o.1.length (λi s=>s=(i:Int)/\∀x∈o.1.take i,CS x) ⟨V,by simp⟩ (by omega) ?_ ?_
  .rintro i s hi ⟨rfl,K⟩;unfold No;refine BZ (by omega) (Bg (m:=i) V hi ?_);have am:=h.n1 _ (List.getElem_mem hi);refine Bw (λg=>Ap (.inl ⟨_,V,by decide,λk=>by have:=(k _ (List.getElem_mem hi)).1;omega⟩)) (λap=>?_);refine AI (S:=λq=>(q=Sum.inl 1/\¬CS o.1[i])∨(q=Sum.inr ()/\CS o.1[i])) ?_ ?_
   .refine Dm o.1[i].length (λj s=>s=(j:Int)/\∀c∈o.1[i].take j,1<=c/\c<=9) ⟨V,by simp⟩ (by omega) ?_ ?_
    .rintro j s U ⟨rfl,O⟩;unfold Nn;refine Bg (m:=i) V hi (BZ (by omega) ?_);refine Bg (m:=i) V hi (Bg (m:=j) V U ?_);refine A6 (Lr _ _ _ _) (Bw (λg=>Ap (.inl ⟨V,λk=>?_⟩)) (λg=>?_))
     .have:=k.2 _ (List.getElem_mem U);simp at g;omega
     refine As.E ((j+1:Nat):Int) (by simp) (Ap ⟨V,Rb U O ?_⟩);simpa using g
    .rintro s ⟨rfl,O⟩;unfold Nn;refine Bg (m:=i) V hi ?_;rw [List.take_length] at O;exact BY (by omega) (Ap ⟨_,V,.inr ⟨V,by omega,O⟩⟩)
   .rintro q (⟨rfl,g⟩ | ⟨rfl,g⟩)
    .rw [Sum.elim_inl];exact Ap (.inl ⟨_,V,by decide,λk=>g (k _ (List.getElem_mem hi))⟩)
    .rw [Sum.elim_inr];exact As.E ((i+1:Nat):Int) (by simp) (Ap ⟨V,Rb hi K g⟩)
  .rintro s ⟨rfl,K⟩;unfold No;rw [List.take_length] at K;exact BY (by omega) (Ap ⟨_,V,.inr ⟨V,K⟩⟩)
 .rintro q (⟨e,rfl,he,g⟩ | ⟨rfl,O⟩)
  .rw [Sum.elim_inl];exact Ap (iff_of_false he λv=>g v.cs)
  .rw [Sum.elim_inr];refine Bw (λg=>Ap (iff_of_false (by decide) λv=>by have:=v.d8;omega)) (λg2=>?_);refine AI (S:=λq=>(∃e,q=Sum.inl e/\e≠0/\¬∀d∈o.2,VD o.1.length d)∨(q=Sum.inr ()/\∀d∈o.2,VD o.1.length d)) ?_ ?_
   .refine Dm o.2.length (λi s=>s=(i:Int)/\∀d∈o.2.take i,VD o.1.length d) ⟨V,by simp⟩ (by omega) ?_ ?_
    .rintro i s hi ⟨rfl,K⟩;unfold R1;refine BZ (by omega) (Bg (m:=i) V hi ?_);refine AI (fY (by omega)) ?_;intro x Y;refine Bw (λg=>Ap (.inl ⟨_,V,g,λk=>g (Y.2 (k _ (List.getElem_mem hi)))⟩)) (λg=>?_);exact As.E ((i+1:Nat):Int) (by simp) (Ap ⟨V,Rb hi K (Y.1 (Decidable.not_not.1 g))⟩)
    .rintro s ⟨rfl,K⟩;unfold R1;rw [List.take_length] at K;exact BY (by omega) (Ap ⟨_,V,.inr ⟨V,K⟩⟩)
   .rintro q (⟨e,rfl,he,g⟩ | ⟨rfl,g⟩)
    .rw [Sum.elim_inl];exact Ap (iff_of_false he λv=>g v.ds)
    .rw [Sum.elim_inr];exact Ap (iff_of_true V ⟨by omega,by omega,O,by omega,g⟩)
theorem eR{F:Nat}{o:OW}(K:100<F)(h:NV 40 o):As (f47 F o) (λr=>r=0↔VO o):=eO F o▸gS K h
theorem jr{F:Nat}{o:OW}(K:100<F)(h:VO o):f47 F o=some 0:=by
 obtain⟨r,O,U⟩:=eR K h.nv;rw [O,U.2 h]
theorem Sj{F:Nat}{o:OW}(K:100<F)(h:VO o):f70 F o []=some (o,0):=by
 obtain⟨F,rfl⟩:∃k,F=k+1:=⟨F - 1,by omega⟩;unfold f70;rw [jr K h]
 rfl
theorem bC(a n:Int):a % n=(a - n) % n:=by
 have h:a=(a - n)+n*1:=by omega
 conv=>lhs;rw [h]
 exact Int.add_mul_emod_self_left _ _ _
theorem eQ{F k n:Nat}{b:Hq}(hb:BG k b)(av:k<900000)(aw:2<=n)(ay:n<900):As (f40 F b (n:Int)) (λr=>VD n r.1/\BG (k+4) r.2):=by
 unfold f40;refine As.E ((n:Int) - 1) V (AI (KB hb (by omega) (by omega)) ?_);rintro⟨x,az⟩ ⟨O,g2,U⟩;simp only at O g2 U ⊢;refine AI (RJ U (by omega) (by omega) (by omega) (by omega)) ?_;rintro⟨x2,a0⟩ ⟨a1,am,Y⟩;simp only at a1 am Y ⊢;refine AI (VI Y (by omega) (by simp) (by simp)) ?_;rintro⟨Z,a2⟩ ⟨ac,ag⟩;simp only at ac ag ⊢;refine As.E ((n:Int) - 1) V (AI (RJ ag (by omega) (by omega) (by omega) (by omega)) ?_);rintro⟨K,a3⟩ ⟨ap,aq,al⟩;simp only at ap aq al ⊢;refine As.E (x+K) V (A6 (b:=(x+K).tmod n) (by unfold P2;rw [if_neg (by omega)]) ?_);refine Ap ⟨?_,al⟩;have e:(x+K).tmod n=(x+K) % n:=Int.tmod_eq_emod_of_nonneg (by omega);have p3:1<=Z/\Z<=9:=by
  simp only [List.mem_cons,List.not_mem_nil,or_false] at ac;omega
 have a4:(x+K) % (n:Int)<n:=Int.emod_lt_of_pos _ (by omega);have a5:0<=(x+K) % (n:Int):=Int.emod_nonneg _ (by omega);have a6:x≠(x+K) % (n:Int):=by
  rcases Int.lt_or_le (x+K) n with h | h
  .rw [Int.emod_eq_of_lt (by omega) h];omega
  .rw [bC,Int.emod_eq_of_lt (by omega) (by omega)];omega
 refine⟨O,?_,?_,?_,?_,p3.1,p3.2⟩ <;> simp only [e] <;> omega
theorem dV{F k:Nat}{b:Hq}{pm dm:Nat}(a5:100<F)(hb:BG k b)(a6:k<1000)(a7:2<=pm)(a8:pm<=5)(hd:dm<=8):As (f31 F b pm dm) (λr=>VO r.1/\r.1.1.length<=pm/\r.1.2.length<=dm/\BG (k+100) r.2):=by
 unfold f31;refine AI (RJ hb (by omega) (by omega) (by omega) (by omega)) ?_;rintro⟨n,a9⟩ ⟨n1,n2,ay⟩;simp only at n1 n2 ay ⊢;obtain⟨n,rfl⟩:∃m:Nat,n=(m:Int):=⟨n.toNat,by omega⟩;refine AI (fJ ay (by omega) (by omega) (by omega)) ?_;rintro⟨bb,be⟩ g2;simp only at g2 ⊢;refine AI (S:=λr=>r.2.2.2.length=n/\(∀x∈r.2.2.2,CS x)/\BG (k+30) (r.1,r.2.1,r.2.2.1)) ?_ ?_
 .refine Dm n (λi s=>s.2.2.2.2=(i:Int)/\s.1.length=i/\(∀x∈s.1,CS x)/\BG (k+2+5*i) (s.2.1,s.2.2.1,s.2.2.2.1)) ⟨V,V,by simp,g2⟩ (by omega) ?_ ?_
  .rintro i ⟨ps,l,t,ag,c⟩ hi ⟨al,am,ap,K⟩;simp only at al am ap K;subst al;unfold PD;refine BZ (by simp only;omega) (AI (KB K (by omega) (by omega)) ?_);rintro⟨c,bi⟩ ⟨c1,c2,aq⟩;simp only at c1 c2 aq ⊢;obtain⟨c,rfl⟩:∃m:Nat,c=(m:Int):=⟨c.toNat,by omega⟩;refine AI (S:=λr=>CS r.1/\BG (k+2+5*i+1+c) r.2) ?_ ?_
   .refine Dm c (λj s=>s.2.2.2.2=((c - j:Nat):Int)/\s.2.2.2.1.length=j/\(∀v∈s.2.2.2.1,1<=v/\v<=9)/\BG (k+2+5*i+1+j) (s.1,s.2.1,s.2.2.1)) ⟨V,V,by simp,aq⟩ (by omega) ?_ ?_
    .rintro j ⟨l,t,ag,w,z⟩ a3 ⟨U,hw,O,K⟩;simp only at U hw O K;subst U;unfold PE;refine BZ (by simp only;omega) (AI (S:=λr=>r.1.length=j+1/\(∀v∈r.1,1<=v/\v<=9)/\BG (k+2+5*i+1+(j+1)) r.2) ?_ ?_)
     .refine Bw (λ_=>?_) (λ_=>?_)
      .refine Hz (by simp only;omega) (Ap ⟨by simp [hw],?_,K.M (by omega)⟩);intro v h;rcases List.mem_append.1 h with h | h
       .exact O v h
       .have:=List.mem_singleton.1 h;omega
      .refine AI (VI K (by omega) (by simp) (by simp)) ?_;rintro⟨v,a4⟩ ⟨az,av⟩;simp only at az av ⊢;refine Hz (by omega) (Ap ⟨by simp [hw],?_,av⟩);intro u h;rcases List.mem_append.1 h with h | h
       .exact O u h
       .have:=List.mem_singleton.1 h;subst this;simp only [List.mem_cons,List.not_mem_nil,or_false] at az;omega
     .rintro⟨w',l',bn,bo⟩ ⟨Z,aw,ac⟩;simp only at Z ac aw ⊢;exact As.E ((c - (j+1):Nat):Int) (by omega) (Ap ⟨V,Z,aw,ac⟩)
    .rintro⟨l,t,ag,w,z⟩ ⟨U,hw,O,K⟩;simp only at U hw O K;subst U;unfold PE;exact BY (by simp) (Ap ⟨_,V,⟨by simp only;omega,O⟩,K⟩)
   .rintro⟨w,a4⟩ ⟨Z,ac⟩;simp only at Z ac ⊢;refine Hz (by omega) (As.E ((i+1:Nat):Int) (by simp) ?_);refine Ap ⟨V,by simp [am],λx Y=>?_,ac.M (by omega)⟩;simp only [List.mem_append,List.mem_singleton] at Y;rcases Y with Y | rfl
    .exact ap x Y
    .exact Z
  .rintro⟨ps,l,t,ag,c⟩ ⟨al,am,ap,K⟩;simp only at al am ap K;subst al;unfold PD;exact BY (by simp) (Ap ⟨_,V,am,ap,K.M (by omega)⟩)
 .rintro⟨l,t,ag,ps⟩ ⟨p1,p2,aq⟩;simp only at p1 p2 aq ⊢;refine AI (KB aq (by omega) (by omega)) ?_;rintro⟨c,bv⟩ ⟨c1,c2,av⟩;simp only at c1 c2 av ⊢;obtain⟨c,rfl⟩:∃m:Nat,c=(m:Int):=⟨c.toNat,by omega⟩;refine AI (S:=λr=>r.2.2.2.length<=dm/\(∀d∈r.2.2.2,VD n d)/\BG (k+100) (r.1,r.2.1,r.2.2.1)) ?_ ?_
  .refine Dm c (λj s=>s.2.2.2.2=((c - j:Nat):Int)/\s.1.length=j/\(∀d∈s.1,VD n d)/\BG (k+31+4*j) (s.2.1,s.2.2.1,s.2.2.2.1)) ⟨V,V,by simp,av.M (by omega)⟩ (by omega) ?_ ?_
   .rintro j ⟨a0,l,t,ag,z⟩ a3 ⟨U,hw,O,K⟩;simp only at U hw O K;subst U;unfold Pm;refine BZ (by simp only;omega) (AI (eQ K (by omega) (by omega) (by omega)) ?_);rintro⟨d,bw⟩ ⟨a1,a2⟩;simp only at a1 a2 ⊢;refine As.Qc (by simp;omega) (As.E ((c - (j+1):Nat):Int) (by omega) ?_);refine Ap ⟨V,by simp [hw],?_,a2.M (by omega)⟩;intro x Y;rcases List.mem_append.1 Y with Y | Y
    .exact O x Y
    .cases List.mem_singleton.1 Y;exact a1
   .rintro⟨a0,l,t,ag,z⟩ ⟨U,hw,O,K⟩;simp only at U hw O K;subst U;unfold Pm;exact BY (by simp) (Ap ⟨_,V,by simp only;omega,O,K.M (by omega)⟩)
  .rintro⟨l,t,ag,a0⟩ ⟨Z,aw,ac⟩;simp only at Z ac aw ⊢;exact Ap ⟨⟨by simp only;omega,by simp only;omega,p2,by simp only;omega,by simp only;rw [p1];exact aw⟩,by simp only;omega,Z,ac⟩
abbrev PR:=Int×Int
def gN(l:List Int)(i:Nat):Int:=l.getD i 0
def FV(l:List Int)(i v:Int):List Int:=l.set i.toNat (gN l i.toNat+v)
def BN(B:Int)(l:List Int):Prop:=l.length=5/\∀x∈l,-B<=x/\x<=B
theorem KF{l:List Int}{i:Nat}(h:i<l.length):gN l i=l[i]:=by unfold gN;rw [List.getD_eq_getElem?_getD,List.getElem?_eq_getElem h];rfl
theorem BN.bd{B:Int}{l:List Int}(h:BN B l){i:Nat}(hi:i<5): -B<=gN l i/\gN l i<=B:=by
 rw [KF (by have:=h.1;omega)];exact h.2 _ (List.getElem_mem _)
theorem BN.ix{B:Int}{l:List Int}(h:BN B l){i:Int}(K:0<=i)(hi:i<5):ix l i=some (gN l i.toNat):=by
 have:=h.1;rw [KF (show i.toNat<l.length by omega)];exact IW (m:=i.toNat) (by omega) (List.getElem?_eq_getElem _)
theorem BN.M{B C:Int}{l:List Int}(h:BN B l)(O:B<=C):BN C l:=⟨h.1,λx K=>by have:=h.2 x K;omega⟩
theorem BN.add{B V:Int}{l:List Int}(h:BN B l){i v:Int}(O:0<=i)(hi:i<5)(U: -V<=v)(Y:v<=V):BN (B+V) (FV l i v):=by
 have hb:=h.bd (i:=i.toNat) (by omega);refine⟨by unfold FV;rw [List.length_set];exact h.1,λx K=>?_⟩;rcases List.mem_or_eq_of_mem_set K with K | rfl
 .have:=h.2 x K;omega
 .omega
theorem IS{l:List Int}{i v:Int}(h:l.length=5)(K:0<=i)(hi:i<5)(j:Nat):gN (FV l i v) j=gN l j+if(j:Int)=i then v else 0:=by
 unfold FV gN;rw [List.getD_eq_getElem?_getD,List.getElem?_set,List.getD_eq_getElem?_getD,List.getD_eq_getElem?_getD];by_cases e:i.toNat=j
 .rw [if_pos e,if_pos (by omega),if_pos (by omega),e];rfl
 .rw [if_neg e,if_neg (by omega),Int.add_zero]
theorem Ua{l l':List Int}(h:l.length=5)(U:l'.length=5)(k:∀j,j<5->gN l j=gN l' j):l=l':=by
 refine List.ext_getElem (by omega) λj K O=>?_;rw [← KF K,← KF O];exact k j (by omega)
def C7(l:List Int)(d:DT):List Int:=FV (FV l d.1 d.2.2) d.2.1 (-d.2.2)
def HN(l:List Int)(d:DT):List Int:=FV (FV l d.2.1 d.2.2) d.1 (-d.2.2)
def BI(o:OW):List Int:=o.2.foldl HN (List.replicate 5 0)
theorem Rc{F:Nat}{B:Int}{l:List Int}{d:DT}(h:BN B l)(a1:0<=d.1)(O:d.1<5)(U:0<=d.2.1)(Y:d.2.1<5)(p1: -B<=d.2.2)(p2:d.2.2<=B)(Z:B<=1000000000000):Mx F l d=some (C7 l d)/\BN (3*B) (C7 l d):=by
 have K:=h.add a1 O p1 p2;have g2:=K.add U Y (show -B<= -d.2.2 by omega) (by omega);have k1:=h.bd (i:=d.1.toNat) (by omega);have ac:=K.bd (i:=d.2.1.toNat) (by omega);refine⟨?_,g2.M (by omega)⟩;refine DC ?_;unfold Mx;refine A6 (h.ix a1 O) ?_;refine As.E _ V ?_;refine A6 (h.ix a1 O) ?_;refine A6 (K.ix U Y) ?_;refine As.E _ V ?_;refine A6 (K.ix U Y) ?_;exact Ap V
theorem Mk{F:Nat}{o:OW}(ac:100<F)(h:VO o):f84 F o=some (BI o)/\BN 200 (BI o):=by
 have ag:=h.n5;have al:=h.d8;have:As (f84 F o) (λr=>r=BI o/\BN 200 r):=by
  unfold f84;refine AI (S:=λr=>r=BI o/\BN 200 r) ?_ (λr U=>Ap U);refine Dm o.2.length (λi s=>s.2=(i:Int)/\s.1=(o.2.take i).foldl HN (List.replicate 5 0)/\BN (20*i) s.1) ⟨rfl,rfl,rfl,by simp⟩ (by omega) ?_ ?_
  .rintro i ⟨w,c⟩ hi ⟨K,hw,hb⟩;simp only at K hw hb;subst K;obtain⟨v1,v2,am,v4,ap,v6,aq⟩:=h.ds _ (List.getElem_mem hi);have O:=hb.add (i:=o.2[i].2.1) (v:=o.2[i].2.2) (V:=10) (by omega) (by omega) (by omega) (by omega);have g2:=O.add (i:=o.2[i].1) (v:= -o.2[i].2.2) (V:=10) (by omega) (by omega) (by omega) (by omega);have k1:=hb.bd (i:=o.2[i].2.1.toNat) (by omega);have av:=O.bd (i:=o.2[i].1.toNat) (by omega);unfold Pn;refine BZ (by simp only;omega) (Bg (m:=i) rfl hi ?_);refine A6 (hb.ix (by omega) (by omega)) (As.E _ rfl ?_);refine A6 (hb.ix (by omega) (by omega)) (A6 (O.ix (by omega) (by omega)) ?_);refine As.E _ rfl (A6 (O.ix (by omega) (by omega)) ?_);refine As.E ((i+1:Nat):Int) (by simp) (Ap ⟨rfl,?_,g2.M (by omega)⟩);simp only;rw [List.take_add_one,List.getElem?_eq_getElem hi,List.foldl_append,← hw]
   rfl
  .rintro⟨w,c⟩ ⟨K,hw,hb⟩;simp only at K hw hb;subst K;unfold Pn;rw [List.take_length] at hw;exact BY (by simp) (Ap ⟨_,rfl,hw,hb.M (by omega)⟩)
 obtain⟨r,Y,rfl,Z⟩:=this;exact⟨Y,Z⟩
theorem T4{l:List Int}{i:Nat}(hi:i<l.length):(l.take (i+1)).sum=(l.take i).sum+l[i]:=by
 rw [List.take_add_one,List.getElem?_eq_getElem hi,List.sum_append];simp only [Option.toList_some,List.sum_cons,List.sum_nil];omega
theorem RI{F:Nat}{l:List Int}(ag:100<F)(al:l.length<=20)(hb:∀x∈l,-1000<=x/\x<=1000):f85 F l=some l.sum/\ -20000<=l.sum/\l.sum<=20000:=by
 have:As (f85 F l) (λr=>r=l.sum/\ -20000<=r/\r<=20000):=by
  unfold f85;refine AI (S:=λr=>r=l.sum/\ -20000<=r/\r<=20000) ?_ (λr Y=>Ap Y);refine Dm l.length (λi s=>s.2=(i:Int)/\s.1=(l.take i).sum/\ -(1000*(i:Int))<=s.1/\s.1<=1000*(i:Int)) ⟨V,V,by simp,by simp⟩ (by omega) ?_ ?_
  .rintro i ⟨w,c⟩ hi ⟨K,hw,O,U⟩;simp only at K hw O U;subst K;have am:=hb _ (List.getElem_mem hi);unfold Ps;refine BZ (by simp only;omega) (Bg (m:=i) V hi ?_);refine As.E _ V (As.E ((i+1:Nat):Int) (by simp) ?_);refine Ap ⟨V,?_,?_,?_⟩
   .simp only;rw [T4 hi,hw]
   .simp only;omega
   .simp only;omega
  .rintro⟨w,c⟩ ⟨K,hw,O,U⟩;simp only at K hw O U;subst K;unfold Ps;rw [List.take_length] at hw;exact BY (by simp) (Ap ⟨_,V,hw,by simp only;omega,by simp only;omega⟩)
 obtain⟨r,Z,rfl,ac⟩:=this;exact⟨Z,ac⟩
def VP(n:Nat)(x:PR):Prop:=0<=x.1/\x.1<x.2/\x.2<(n:Int)
def I6(b:Nat)(k:Nat):List PR:=(List.range k).map λa:Nat=>((a:Int),(b:Int))
def ER(n:Nat):List PR:=(List.range n).flatMap λb=>I6 b b
theorem Yx(b k:Nat):I6 b (k+1)=I6 b k++ [((k:Int),(b:Int))]:=by unfold I6;rw [List.range_succ,List.map_append];rfl
theorem XN(n:Nat):ER (n+1)=ER n++I6 n n:=by unfold ER;rw [List.range_succ,List.flatMap_append];simp
theorem T7{n:Nat}{x:PR}(h:x∈ER n):VP n x:=by
 unfold ER I6 at h;obtain⟨b,hb,h⟩:=List.mem_flatMap.1 h;obtain⟨a,K,rfl⟩:=List.mem_map.1 h;have:=List.mem_range.1 hb;have:=List.mem_range.1 K;exact⟨by simp only;omega,by simp only;omega,by simp only;omega⟩
theorem UC(b k:Nat):(I6 b k).length=k:=by unfold I6;simp
theorem X9{n:Nat}(h:n<=5):(ER n).length<=10:=by
 have e:∀n,n<=5->(ER n).length<=n*2:=by
  intro n K
  match n,K with
  | 0,_ | 1,_ | 2,_ | 3,_ | 4,_ | 5,_=>decide
 have:=e n h;omega
theorem cq{F:Nat}{o:OW}(Z:100<F)(ac:o.1.length<=5):f133 F o=some (ER o.1.length):=by
 refine DC ?_;unfold f133;refine AI (S:=λr=>r=ER o.1.length) ?_ (λr Y=>Ap Y);refine Dm o.1.length (λi s=>s.2=(i:Int)/\s.1=ER i/\s.1.length<=10*i) ⟨V,V,by simp⟩ (by omega) ?_ ?_
 .rintro i ⟨w,c⟩ hi ⟨K,hw,U⟩;simp only at K hw U;subst K;unfold O7;refine BZ (by simp only;omega) (AI (S:=λr=>r=ER i++I6 i i) ?_ ?_)
  .refine Dm i (λa s=>s.2=(a:Int)/\s.1=ER i++I6 i a) ⟨V,by simp [I6,hw]⟩ (by omega) ?_ ?_
   .rintro a ⟨v,c⟩ ag ⟨K,O⟩;simp only at K O;subst K;unfold OV;refine BZ (by simp only;omega) (Hz ?_ ?_)
    .rw [O,← hw,List.length_append,UC];omega
    refine As.E ((a+1:Nat):Int) (by simp) (Ap ⟨V,?_⟩);simp only;rw [Yx,O,List.append_assoc]
   .rintro⟨v,c⟩ ⟨K,O⟩;simp only at K O;subst K;unfold OV;exact BY (by simp) (Ap ⟨_,V,O⟩)
  .rintro r rfl;refine As.E ((i+1:Nat):Int) (by simp) (Ap ⟨V,(XN i).symm,?_⟩);simp only;rw [List.length_append,UC,← hw];omega
 .rintro⟨w,c⟩ ⟨K,hw,U⟩;simp only at K hw U;subst K;unfold O7;exact BY (by simp) (Ap ⟨_,V,hw⟩)
def BP(p:Int)(x:PR):Bool:=decide (x.1=p) || decide (x.2=p)
theorem S3{α:Type}{p:α->Bool}:∀{l:List α} {a:Nat},l.countP p=1->∀O:a<l.length,p l[a]=true->l.findIdx p=a
 | x::xs,0,_,_,K=>by
  have K:p x=true:=K
  rw [List.findIdx_cons,K];rfl
 | x::xs,a+1,h,O,K=>by
  have K:p (xs[a]'(by simpa using O))=true:=K
  have Y:0<xs.countP p:=List.countP_pos_iff.2 ⟨_,List.getElem_mem _,K⟩
  by_cases U:p x=true
  .rw [List.countP_cons_of_pos U] at h;omega
  .rw [List.countP_cons_of_neg U] at h;rw [List.findIdx_cons,Bool.eq_false_iff.2 U];simp only [cond_false];rw [S3 h (by simpa using O) K]
def J7(n:Nat)(l:List PR):Option Nat:=(List.range n).find? λp=>l.countP (BP p)==1
def dP(p:Int)(x:PR)(m:Int):DT:=if 0<m then(x.1+x.2 - p,p,m) else(p,x.1+x.2 - p,-m)
def Fu(n:Nat):Nat->List PR->List Int->List DT->Option (List DT)
 | 0,_,w,out=>if w=List.replicate 5 0 then some out else none
 | k+1,l,w,out=>(J7 n l).bind λp=>
   if gN w p=0 then none else
    Fu n k (l.eraseIdx (l.findIdx (BP p))) (C7 w (dP p (l.getD (l.findIdx (BP p)) (0,0)) (gN w p))) (out++ [dP p (l.getD (l.findIdx (BP p)) (0,0)) (gN w p)])
def NG:Option (List DT)->Bool×List Int×List DT
 | none=>(true,default)
 | some out=>(false,List.replicate 5 0,out)
theorem Y0{F:Nat}{l:List PR}{p:Int}(am:100<F)(ap:l.length<=20):As (Pal.iter (M8 F l p) F (0,0,0)) (λr=>r.2=((l.countP (BP p):Nat):Int)/\(r.2=1->r.1=(l.findIdx (BP p):Nat)/\l.findIdx (BP p)<l.length)):=by
 refine Dm l.length (λi s=>s.2.2=(i:Int)/\s.2.1=(((l.take i).countP (BP p):Nat):Int)/\(s.2.1≠0->∃a,s.1=((a:Nat):Int)/\∃h:a<l.length,BP p l[a]=true)) ⟨V,by simp,by simp⟩ (by omega) ?_ ?_
 .rintro i ⟨a,m,c⟩ hi ⟨K,hm,O⟩;simp only at K hm O;subst K;have hle:(l.take i).countP (BP p)<=i:=by
   refine Nat.le_trans List.countP_le_length ?_;rw [List.length_take];omega
  unfold M8;refine BZ (by simp only;omega) (Bg (m:=i) V hi ?_);refine AI (S:=λc=>c=BP p l[i]) ?_ ?_
  .unfold BP;refine Bw (λh=>Ap (by simp [h])) (λh=>Ap (by simp [h]))
  rintro c rfl;have key:(l.take (i+1)).countP (BP p)=(l.take i).countP (BP p)+if BP p l[i]=true then 1 else 0:=by
   rw [List.take_add_one,List.getElem?_eq_getElem hi,List.countP_append];simp only [Option.toList_some,List.countP_cons,List.countP_nil,Nat.zero_add]
  refine AI (S:=λr=>r.2=(((l.take (i+1)).countP (BP p):Nat):Int)/\(r.2≠0->∃a,r.1=((a:Nat):Int)/\∃h:a<l.length,BP p l[a]=true)) ?_ ?_
  .refine Bw (λh=>?_) (λh=>?_)
   .refine Kx (((l.take (i+1)).countP (BP p):Nat):Int) ?_ (by omega) ?_ (Ap ⟨V,λ_=>⟨i,V,hi,h⟩⟩)
    .rw [key,if_pos h,hm];rfl
    .rw [key,if_pos h];omega
   .exact Ap ⟨by rw [key,if_neg h];exact hm,O⟩
  .rintro⟨aq,m'⟩ ⟨U,Y⟩;simp only at U Y ⊢;exact As.E ((i+1:Nat):Int) (by simp) (Ap ⟨V,U,Y⟩)
 .rintro⟨a,m,c⟩ ⟨K,hm,O⟩;simp only at K hm O;subst K;rw [List.take_length] at hm;unfold M8;refine BY (by simp) (Ap ⟨_,V,hm,λac=>?_⟩);simp only at ac;obtain⟨k,ag,Z,al⟩:=O (by omega);have:=S3 (p:=BP p) (l:=l) (a:=k) (by omega) Z al;simp only;rw [this];exact⟨ag,Z⟩
theorem XY{n:Nat}{l:List PR}{i:Nat}(hi:i<n)(K:l.countP (BP i)=1)(h:∀p,p<i->l.countP (BP p)≠1):J7 n l=some i:=by
 unfold J7;rw [List.find?_range_eq_some];exact⟨by simp [K],List.mem_range.2 hi,λj O=>by simpa using h j O⟩
theorem Yn{n:Nat}{l:List PR}(h:∀p,p<n->l.countP (BP p)≠1):J7 n l=none:=by
 unfold J7;rw [List.find?_eq_none];intro p K;simpa using h p (List.mem_range.1 K)
theorem WO{n:Nat}{p:Nat}{x:PR}{m B:Int}(U:n<=5)(O:VP n x)(K:BP p x=true)(Y: -B<=m)(Z:m<=B):0<=(dP p x m).1/\(dP p x m).1<5/\0<=(dP p x m).2.1/\(dP p x m).2.1<5/\0<=(dP p x m).2.2/\(dP p x m).2.2<=B:=by
 obtain⟨v1,v2,ac⟩:=O;unfold BP at K;simp at K;unfold dP;split <;> simp only <;> omega
theorem Ie{α:Type}{l:List α}{i:Nat}{d:α}(h:i<l.length):l.getD i d=l[i]:=by rw [List.getD_eq_getElem?_getD,List.getElem?_eq_getElem h];rfl
theorem Vb{F n:Nat}{q:OW}(Z:100<F)(az:q.1.length=n)(am:n<=5):∀(k N:Nat) (l:List PR) (w:List Int) (out:List DT) (B:Int),l.length=k->k<N->k<=10->(∀x∈l,VP n x)->BN B w->0<=B->B*3 ^ k<=1000000000000->out.length+k<=100->Ml N F l w q out=some (NG (Fu n k l w out))
 | 0,N,l,w,out,B,a0,a1,_,ac,hw,ap,aq,a2=>by
  obtain⟨N,rfl⟩:∃k,N=k+1:=⟨N - 1,by omega⟩
  refine DC ?_
  simp only [Ml]
  unfold Ni Fu
  refine BZ (by omega) ?_
  refine Bw (λh=>Ap ?_) (λh=>Ap ?_)
  .rw [if_neg h];rfl
  .have h:=Decidable.not_not.1 h;rw [if_pos h,h];rfl
 | k+1,N,l,w,out,B,a0,a1,bo,ac,hw,ap,aq,a2=>by
  obtain⟨N,rfl⟩:∃k,N=k+1:=⟨N - 1,by omega⟩;refine DC ?_;simp only [Ml];unfold Ni;refine BY (by omega) ?_;have a3:B*3 ^ (k+1)=(3*B)*3 ^ k:=by rw [Int.pow_succ];rw [Int.mul_comm (3 ^ k) 3,← Int.mul_assoc,Int.mul_comm B 3]
  have a4:B<=1000000000000:=by
   have ag:(1:Int)<=3 ^ (k+1):=by
    have:(0:Int)<3 ^ (k+1):=Int.pow_pos (by decide);omega
   have:=Int.mul_le_mul_of_nonneg_left ag ap;omega
  refine AI (S:=λr=>r=Sum.inl (NG (Fu n (k+1) l w out))∨(r=Sum.inr ()/\J7 n l=none)) ?_ ?_
  .refine Dm n (λi s=>s=(i:Int)/\∀p,p<i->l.countP (BP (p:Nat))≠1) ⟨V,by simp⟩ (by omega) ?_ ?_
   .rintro i s hi ⟨rfl,O⟩;unfold OD;refine BZ (by omega) (AI (S:=λr=>(r=Sum.inr ()/\l.countP (BP i)≠1)∨r=Sum.inl (NG (Fu n (k+1) l w out))) ?_ ?_)
    .refine AI (Y0 Z (by omega)) ?_;rintro⟨a,m⟩ ⟨av,U⟩;simp only at av U ⊢;refine Bw (λh=>Ap (.inl ⟨V,λag=>h (by rw [av,ag];rfl)⟩)) (λh=>?_);have h:=Decidable.not_not.1 h;obtain⟨U,K⟩:=U h;have a5:l.countP (BP i)=1:=by omega
     subst U;have a6:=XY hi a5 O;refine Bg (m:=l.findIdx (BP i)) V K (Bg (m:=l.findIdx (BP i)) V K ?_);have a7:BP i l[l.findIdx (BP i)]=true:=List.findIdx_getElem;have Y:=ac _ (List.getElem_mem K);have a8:=Y;obtain⟨x1,x2,bv⟩:=a8;have hb:=hw.bd (i:=i) (by omega);refine As.E (-(i:Int)) V (A6 (hw.ix (by omega) (by omega)) ?_);rw [show Int.toNat (i:Int)=i by omega];refine A6 (RI (l:= [_,_,_]) Z (by simp) (by simp;omega)).1 (As.E (-(gN w i)) V ?_);have aw:Fu n (k+1) l w out=if gN w i=0 then none else Fu n k (l.eraseIdx (l.findIdx (BP i))) (C7 w (dP i l[l.findIdx (BP i)] (gN w i))) (out++ [dP i l[l.findIdx (BP i)] (gN w i)]):=by
      simp only [Fu,a6,Option.bind_some,Ie K]
     refine Bw (λh=>Ap (.inr ?_)) (λh=>?_)
     .rw [aw,if_pos (by omega)];rfl
     have ay:=aw;rw [if_neg (show ¬gN w i=0 by omega)] at ay;rw [ay];refine AI (S:=λr=>r=dP i l[l.findIdx (BP i)] (gN w i)) ?_ ?_
     .unfold dP;refine Bw (λh=>?_) (λh=>?_)
      .refine As.E (gN w i) (by omega) (Ap ?_);rw [if_pos (by omega)];simp only [List.sum_cons,List.sum_nil];refine Prod.ext ?_ V;simp only;omega
      .refine Ap ?_;rw [if_neg (by omega)];simp only [List.sum_cons,List.sum_nil];refine Prod.ext V (Prod.ext ?_ V);simp only;omega
     rintro d rfl;obtain⟨a9,e2,bb,be,bw,bi⟩:=WO am Y a7 hb.1 hb.2;obtain⟨bn,g2⟩:=Rc (F:=F) hw a9 e2 bb be (by omega) bi a4;refine A6 bn (As.Qc (by simp;omega) ?_);refine A6 (b:=l.take (l.findIdx (BP i))) (by unfold HR;rw [if_pos (by omega)];simp) (As.E ((l.findIdx (BP i)+1:Nat):Int) (by simp) ?_);refine A6 (b:=l.drop (l.findIdx (BP i)+1)) ?_ ?_
     .unfold HR;rw [if_pos (by omega),show Int.toNat (l.length:Int)=l.length by omega,List.take_length,show Int.toNat ((l.findIdx (BP i)+1:Nat):Int)=l.findIdx (BP i)+1 by omega]
     refine As.Qc (by simp;omega) ?_;have he:l.take (l.findIdx (BP i))++l.drop (l.findIdx (BP i)+1)=l.eraseIdx (l.findIdx (BP i)):=(List.eraseIdx_eq_take_drop_succ _ _).symm;rw [he];have hle:(l.eraseIdx (l.findIdx (BP i))).length=k:=by rw [List.length_eraseIdx_of_lt K];omega
     refine A6 (Vb Z az am k N _ _ _ (3*B) hle (by omega) (by omega) (λx Y=>ac x (List.mem_of_mem_eraseIdx Y)) g2 (by omega) (by rw [← a3];exact aq) (by simp;omega)) ?_;rcases Fu n k _ _ _ with _ | r
     .exact BZ V (Ap (.inr V))
     .exact BY (by simp [NG]) (Ap (.inr V))
    .rintro r (⟨rfl,h⟩ | rfl)
     .rw [Sum.elim_inr];refine As.E ((i+1:Nat):Int) (by simp) (Ap ⟨V,λp al=>?_⟩);rcases Nat.lt_succ_iff_lt_or_eq.1 al with al | rfl
      .exact O p al
      .exact h
     .rw [Sum.elim_inl];exact Ap (.inl V)
   .rintro s ⟨rfl,O⟩;unfold OD;exact BY (by omega) (Ap ⟨_,V,.inr ⟨V,Yn O⟩⟩)
  .rintro r (rfl | ⟨rfl,h⟩)
   .rw [Sum.elim_inl];exact Ap V
   .rw [Sum.elim_inr];refine Ap ?_;simp only [Fu,h,Option.bind_none]
    rfl
def BD(d:DT):Prop:= -1000000000000000<=d.1/\d.1<=1000000000000000/\ -1000000000000000<=d.2.1/\d.2.1<=1000000000000000/\ -1000000000000000<=d.2.2/\d.2.2<=1000000000000000
theorem UE{n:Nat}(ac:n<=5):∀(k:Nat) (l:List PR) (w:List Int) (out r:List DT) (B:Int),l.length=k->(∀x∈l,VP n x)->BN B w->0<=B->B*3 ^ k<=1000000000000->(∀d∈out,BD d)->Fu n k l w out=some r->(∀d∈r,BD d)/\r.length=out.length+k
 | 0,l,w,out,r,B,ap,O,hw,ag,al,U,h=>by
  unfold Fu at h
  split at h
  .cases h;exact⟨U,V⟩
  .cases h
 | k+1,l,w,out,r,B,ap,O,hw,ag,al,U,h=>by
  have aq:B*3 ^ (k+1)=(3*B)*3 ^ k:=by rw [Int.pow_succ];rw [Int.mul_comm (3 ^ k) 3,← Int.mul_assoc,Int.mul_comm B 3]
  have av:B<=1000000000000:=by
   have aw:(1:Int)<=3 ^ (k+1):=by
    have:(0:Int)<3 ^ (k+1):=Int.pow_pos (by decide);omega
   have:=Int.mul_le_mul_of_nonneg_left aw ag;omega
  unfold Fu at h;obtain⟨p,am,h⟩:=bind_some h;split at h
  .cases h
  unfold J7 at am;obtain⟨c1,c2,c3⟩:=List.find?_range_eq_some.1 am;have a3:l.countP (BP p)=1:=by simpa using c1
  have c2:=List.mem_range.1 c2;have Y:l.findIdx (BP p)<l.length:=by
   obtain⟨x,K,Z⟩:=List.countP_pos_iff.1 (show 0<l.countP (BP p) by omega);exact List.findIdx_lt_length_of_exists ⟨x,K,Z⟩
  rw [Ie Y] at h;have Z:BP p l[l.findIdx (BP p)]=true:=List.findIdx_getElem;have K:=O _ (List.getElem_mem Y);have hb:=hw.bd (i:=p) (by omega);obtain⟨ay,e2,az,a0,a4,a1⟩:=WO ac K Z hb.1 hb.2;obtain⟨a5,g2⟩:=Rc (F:=0) hw ay e2 az a0 (by omega) a1 av;obtain⟨k1,a2⟩:=UE ac k _ _ _ r (3*B) (by rw [List.length_eraseIdx_of_lt Y];omega) (λx K=>O x (List.mem_of_mem_eraseIdx K)) g2 (by omega) (by rw [← aq];exact al) (by
   intro d hd
   rcases List.mem_append.1 hd with hd | hd
   .exact U d hd
   .cases List.mem_singleton.1 hd
    refine⟨?_,?_,?_,?_,?_,?_⟩ <;> omega) h
  refine⟨k1,?_⟩;rw [a2];simp;omega
theorem Ta{α:Type}(l:List α):l= []∨∃A y,l=A++ [y]:=by
 rcases List.eq_nil_or_concat l with h | ⟨A,y,h⟩
 .exact .inl h
 .exact .inr ⟨A,y,by rw [h,List.concat_eq_append]⟩
def P3{α:Type}(less:α->α->Option Bool)(s:Int×List α):Option (Br (Int×List α) (List α)):=
 Option.bind (
  if 0<s.1 then(
   (ix s.2 (s.1)).bind λx=>
   (Av (s.1 - 1)).bind λj=>
   (ix s.2 (j)).bind λy=>
   (less x y).bind λc=>
   some c
  ) else(
   some false
  )
 ) λc=>
 if c=true then(
  (Av (s.1 - 1)).bind λj=>
  (Av (s.1 - 1)).bind λk=>
  (ix s.2 (k)).bind λy=>
  (ix s.2 (s.1)).bind λx=>
  (ix (s.2.set (Int.toNat s.1) y) (j)).bind λ_=>
  (Av (s.1 - 1)).bind λm=>
  some (.more (m,((s.2.set (Int.toNat s.1) y).set (Int.toNat j) x)))
 ) else(
  some (.done s.2)
 )
theorem du{α:Type}{less:α->α->Option Bool}{lt:α->α->Bool}{F:Nat}{P:List α}{x:α}(R:List α)(aw:P.length<F)(ay:P.length<=1024)(ap:∀y∈P,less x y=some (lt x y)):
  As (Pal.iter (P3 less) F ((P.length:Int),P++x::R)) (λr=>∃A B,P=A++B/\r=A++x::(B++R)/\(∀b∈B,lt x b=true)/\(A= []∨∃K y,A=K++ [y]/\lt x y=false)):=by
 refine Fi (λm s=>∃A B,A.length=m/\s.1=((m:Nat):Int)/\s.2=A++x::(B++R)/\P=A++B/\∀b∈B,lt x b=true) ?_ (m:=P.length) ⟨P,[],V,V,V,by simp,by simp⟩ (by omega);rintro m ⟨c,v⟩ ⟨A,B,U,ag,O,Y,al⟩;simp only at ag O;subst ag;have az:A.length+B.length=P.length:=by rw [Y,List.length_append]
 have am:v[m]? =some x:=by rw [O,List.getElem?_append_right (by omega),U,Nat.sub_self];rfl
 unfold P3;refine AI (S:=λc=>(c=true/\∃K y,A=K++ [y]/\lt x y=true)∨(c=false/\(A= []∨∃K y,A=K++ [y]/\lt x y=false))) ?_ ?_
 .refine Bw (λh=>?_) (λh=>?_)
  .simp only at h;rcases Ta A with rfl | ⟨K,y,rfl⟩
   .simp at U;omega
   have aq:K.length+1=m:=by simpa using U
   have ac:v[m - 1]? =some y:=by rw [O,List.append_assoc,List.getElem?_append_right (by omega),show m - 1 - K.length=0 by omega];rfl
   refine A6 (IW V am) (As.E ((m - 1:Nat):Int) (by simp only;omega) ?_);refine A6 (IW V ac) (A6 (ap y (by rw [Y];simp)) ?_);refine Ap ?_;cases Z:lt x y with
   | true=>exact .inl ⟨rfl,K,y,rfl,Z⟩
   | false=>exact .inr ⟨rfl,.inr ⟨K,y,rfl,Z⟩⟩
  .refine Ap (.inr ⟨V,.inl ?_⟩);cases A with
   | nil=>rfl
   | cons a A=>simp at U h;omega
 .rintro c (⟨rfl,K,y,rfl,Z⟩ | ⟨rfl,av⟩)
  .have aq:K.length+1=m:=by simpa using U
   have ac:v[m - 1]? =some y:=by rw [O,List.append_assoc,List.getElem?_append_right (by omega),show m - 1 - K.length=0 by omega];rfl
   have a0:m<v.length:=by rw [O];simp;omega
   refine BZ V (As.E ((m - 1:Nat):Int) (by simp only;omega) ?_);refine As.E ((m - 1:Nat):Int) (by simp only;omega) (A6 (IW V ac) ?_);refine A6 (IW V am) (Bg (m:=m - 1) V (by simp only [List.length_set];omega) ?_);refine As.E ((m - 1:Nat):Int) (by simp only;omega) (Ap ⟨m - 1,by omega,K,y::B,by omega,V,?_,by rw [Y];simp,λb hb=>?_⟩)
   .simp only;rw [show Int.toNat ((m:Nat):Int)=K.length+1 by omega,show Int.toNat ((m - 1:Nat):Int)=K.length by omega,O];simp
   .rcases List.mem_cons.1 hb with rfl | hb
    .exact Z
    .exact al b hb
  .exact BY (by simp) (Ap ⟨A,B,Y,O,al,av⟩)
end Pal
