/- TopRented is true for every input: if each string that is put owes the steward a pound for each place: a part (5 of 8) of the proof of its row. -/
import Derived.Test.YtlhpmlfcagejgaaGreatRtb
import Derived.Test.YtlhpmlfcagejgaaGreatRtc
import Derived.Test.YtlhpmlfcagejgaaGreatRtd
set_option linter.all false
set_option maxRecDepth 100000
namespace Pal
open Go Go.Conc Go.Proofs
open Go.Conc.Lib Go.ConcR.Gen
def Lj(fuel:Nat)(gd:((List Int)×(List (List Int))×Int×(List (List (Int×Bool)))×Bool)):(List (Int×Int×Bool))->Option (List (List (List (Int×Int×Bool))))
 | []=>some []
 | x::l=>(FL room fuel gd [x] [] []).bind λq=>(Lj fuel gd l).bind λqs=>some (q::qs)
theorem Qo{fuel:Nat}{gd:((List Int)×(List (List Int))×Int×(List (List (Int×Bool)))×Bool)}:∀{l:(List (Int×Int×Bool))}{qs:List (List (List (Int×Int×Bool)))},Lj fuel gd l=some qs->qs.length=l.length/\∀(j:Nat) sp,l[j]?=some sp->FL room fuel gd [sp] [] []=some (qs.getD j [])
 | [],qs,h=>by cases h;exact⟨rfl,λj sp h=>by simp at h⟩
 | x::l,qs,h=>by
  let⟨q,O,U⟩:=lH.1 h
  let⟨aa,Y,Z⟩:=lH.1 U
  cases Z
  let⟨i1,i2⟩:=Qo Y
  refine⟨by simp[i1],λj sp K=>?_⟩
  cases j with
  | zero=>simp at K;subst K;simpa using O
  | succ j=>simp at K;simpa using i2 j sp K
def Kr(fuel:Nat)(K:((List Int)×(List (List Int))×Int×(List (List (Int×Bool)))))(O:Bool):Option (List (List (Int×Int×Bool))):=
 if(K.2.2.2.length:Int)=0 then(FL room fuel (K.1,K.2.1,K.2.2.1,K.2.2.2,O) [] [] []).bind λx=>some x else
 (Il (λ(l:(List (Int×Int×Bool))) x=>some (l++ [x])) fuel (K.1,K.2.1,K.2.2.1,K.2.2.2,O) [] 0).bind λspl=>
 if Il (Ik spl) fuel (K.1,K.2.1,K.2.2.1,K.2.2.2,O) 0 0=some spl.length/\1<=spl.length/\spl.length<=2^20 then(Lj fuel (K.1,K.2.1,K.2.2.1,K.2.2.2,O) spl).bind λqs=>LD fuel qs else none
variable{n:Nat}
theorem Tf{qs:List (List (List (Int×Int×Bool)))}(h:qs.length=n):(List.range n).map (λj=>qs.getD j [])=qs:=by
 apply lF;intro i;rw[l8];by_cases hi:i<n;rw[m4 hi];simp[List.getD,d3 (show i<qs.length by omega)];rw[lB (by simpa using hi),lB (by omega)];rfl
theorem UJ{qs:Nat->List (List (Int×Int×Bool))}:List.replicate n ([]:List (List (Int×Int×Bool)))=Eu n qs []:=by
 apply lF;intro i;unfold Eu;rw[l8];by_cases hi:i<n;rw[m4 hi];simp[hi];rw[lB (by simpa using hi),lB (by simpa using hi)];rfl
variable{E:LH}
theorem SU{H:LH}{a b:Nat}{O U:Obj}{S:List Seg}(ae:An E H ([[(a,O)],[(b,U)]]++S)):(⟨E,IC (Ah E H ([[(a,O)],[(b,U)]]++S)).H b a,false⟩:St)=Ah E H S:=by
 have h:=Nd.iff.1 ae;have ag:H a=none:=(h.2 (a,O) (by simp)).2;have ah:H b=none:=(h.2 (b,U) (by simp)).2;have Z:(a::b::S.flatten.map (·.1)).Nodup:=by simpa using h.1
 have ai:∀q∈S.flatten,q.1≠a:=by
  intro q K e;exact(m8.1 Z).1 (lc _ (by rw[← e];exact mG K))
 have aj:∀q∈S.flatten,q.1≠b:=by
  intro q K e;exact(m8.1 (m8.1 Z).2).1 (by rw[← e];exact mG K)
 have aa:∀(B:Seg) (x:Nat),(∀q∈B,q.1≠x)->AM B H x=H x:=by
  intro B x ab
  induction B with
  | nil=>rfl
  | cons q B ak=>
   obtain⟨c,o⟩:=q;simp only[AM];rw[d7 (λe=>ab (c,o) (by simp) e.symm)];exact ak λq K=>ab q (by simp[K])
 unfold Ah mk;congr 1;funext x;simp only[IC,Ah,mk,lh,mv,lf,lX,lx,AM];by_cases Y:x=a;subst Y;rw[d5 rfl,aa _ _ ai,ag];by_cases e2:x=b;subst e2;rw[d7 Y,d5 rfl,aa _ _ aj,ah];simp[Y,e2]
theorem YP{r d l:Nat×Obj}:([[r]]++ [[d]]++ [[l]]:List Seg).flatten.Perm ([[l,r],[d]]:List Seg).flatten:=by
 simp only[lX,lx,lh,mv,lf];exact(f6 (l₁:=[r,d]) (l₂:=[l]))
set_option maxHeartbeats 2000000 in
theorem Xk{ak al am:Ao}{an ao ap:Nat}{K:((List Int)×(List (List Int))×Int×(List (List (Int×Bool))))}{aa:Bool}(aw:Ak rI E ak an (K.1))(ay:Ak (rL rI) E al ao (K.2.1))(az:Ak (rL (rP rI rB)) E am ap (K.2.2.2)){fuel:Nat}{r:List (List (Int×Int×Bool))}(ah:Kr fuel K aa=some r):
  AO (FX Tryz.prog) 19 [.agg #[.slice ak (K.1).length an,.slice al (K.2.1).length ao,iV K.2.2.1,.slice am (K.2.2.2).length ap],.bool aa] E [] (λw E' B'=>∃(a:Ao) (c:Nat),w=.slice a r.length c/\B'=[]/\Ak (rA 3 (rP rI (rP rI rB))) E' a c r):=by
 refine Bd Tryz.func19 λQ aX cs H aY aN=>?_;unfold Kr at ah;refine C 2 V (BZ aY λr2 aZ U aA aB=>?_);refine BZ aB λa0 a1 Y aO aC=>?_;refine C 4 V (Cu (aA.Ad Y) FR Dd V V ?_);refine Bu 0 aO FC V V V (JS.makeMap V V V aC λaq aD=>?_);refine Bt (S':=[[],[],[],[(aq,(.map #[] 0))]]) V aD λab=>As (v:=.agg #[.slice ak (K.1).length an,.slice al (K.2.1).length ao,iV K.2.2.1,.slice am (K.2.2.2).length ap,.bool aa,.map (some aq)]) V (λρ h=>BB [(0,4),(4,1),(5,1)] h (B4 Tryz.type98) Tryz.underlying98 ⟨V,AB Tryz.type58,V,AB Tryz.type4,V,AB Tryz.type96,trivial⟩ V V) (JS.box (v:=.agg #[.slice ak (K.1).length an,.slice al (K.2.1).length ao,iV K.2.2.1,.slice am (K.2.2.2).length ap,.bool aa,.map (some aq)]) V V V ab V λcu aE=>?_);refine C 4 V (Cw 4 aE V λa2 Z aP ar=>?_);refine JL.region (Bg Tryz.underlying58 Dz V V V ?_);refine Br 3 (aA.Ad (Y.trans Z)) Tryz.underlying26 Ds EG ?_;refine JL.ln Tryz.underlying24 V V V (C 2 V ?_);refine AX ah (λa3 a4=>?_) (λa3 a5=>?_);refine C 3 V (C7 QA V V (A0 Tryz.func33 V) ar ?_);rintro _ cv _ aj ⟨cw,cy,rfl,rfl,a6,a7⟩ aF;refine Bt (S':=[[],[],[],[(aq,(.map #[] 0))],[],[]]) V aF λa8=>?_;let⟨a9,ba,bb⟩:=bs a4;refine C6 3 (Qi (gd:=(K.1,K.2.1,K.2.2.1,K.2.2.2,aa)) (begun:=[]) (aw.Ad (((U.trans Y).trans Z).trans aj)) (ay.Ad (((U.trans Y).trans Z).trans aj)) (az.Ad (((U.trans Y).trans Z).trans aj)) (aP.Ad aj) a6 a7 Ak.nil Ee.nil ba) V V (A0 Tryz.func32 V) a8 V ?_;rintro _ cz _ be ⟨bf,bg,cA,cB,rfl,rfl,bh⟩ bi;refine Gk 3 V bi λbj=>C 2 V (Cj 6 bh bj V λcC bl bm bn=>?_);refine JS.drop 3 bn V λbo=>?_;obtain rfl:a9=r:=d6 bb;exact AU Tryz.func19 V V (aN (((((U.trans Y).trans Z).trans aj).trans be).trans bl) V ⟨bf,bg,V,by simp,bm⟩ bo)
 .refine C 2 V (JS.drop 3 ar V λbp=>?_);have bq:=(aA.Ad (Y.trans Z));have br:=(aO.Ad Z);have bu:=aP;have bv:Le E a2:=((U.trans Y).trans Z);refine Dt (S':=[]) (by simp) bp λbw=>?_;let⟨spl,cD,ah⟩:=lH.1 a5;split at ah
  rotate_left
  .cases ah
  rename_i bx;obtain⟨bz,bA,bB⟩:=bx;let⟨aQ,bC,bD⟩:=lH.1 ah;let⟨bE,bF⟩:=Qo bC;obtain⟨qs,aR⟩:∃qs:Nat->List (List (Int×Int×Bool)),qs=λj=>aQ.getD j []:=⟨_,V⟩;have bG:(List.range spl.length).map qs=aQ:=by rw[aR];exact Tf bE
  refine JL.region (JS.makeChan V V V Tryz.underlying103 (Cy Tryz.type117) bw λch aB=>?_);refine BO aB (B4 Tryz.type103) λrc bH=>?_;refine Bf 1 bH (AB Tryz.type103) λbI=>?_;refine Cw 1 bI V λaZ bJ aG bK=>C 3 V (BO bK (B4 Tryz.type111) λwg bL=>?_);refine C 3 V (BO bL DL λO bM=>?_);refine Bf 3 bM AE λaC=>?_;refine Bt (S':=[[(ch,.chan 0 #[] false 0 0 false)],[],[(wg,.cells #[.int .u64 0,.int .u32 0] 111 (0,0))],[(O,.cells #[iV 0] 3 (0,0))]]) V aC λbN=>Dt (S':=[[(ch,.chan 0 #[] false 0 0 false)],[(wg,.cells #[.int .u64 0,.int .u32 0] 111 (0,0))],[(O,.cells #[iV 0] 3 (0,0))]]) (by simp) bN λaD=>C 5 V (C7 QB V V (A0 Tryz.func34 V) aD ?_);rintro _ ai _ U ⟨aH,k1,rfl,rfl,bO,bP⟩ bQ;have au:=bJ.trans U;have ae:=bv.trans au;refine C 2 V (HP [(2,.pointer (some ⟨r2,0,none⟩)),(3,.pointer (some ⟨a0,0,none⟩)),(6,.pointer (some ⟨rc,0,none⟩)),(7,.pointer (some ⟨wg,0,none⟩)),(8,.pointer (some ⟨O,0,none⟩)),(29,.func (.func 55) #[] [.pointer (some ⟨aH,0,none⟩),.pointer (some ⟨k1,0,none⟩)].toArray)] V ?_);refine Dt (S':=[[(ch,.chan 0 #[] false 0 0 false)],[(wg,.cells #[.int .u64 0,.int .u32 0] 111 (0,0))]]++ [[(O,.cells #[iV 0] 3 (0,0))]]) (by simp) bQ λab=>?_;have bR:=Nd.iff.1 ab;intro T av;let F:Fam:=⟨wg,ch,111,spl.length,λ_=>true,λkk v E=>kk<spl.length/\∃a c,v=.agg #[iV ((kk:Nat):Int),.slice a (qs kk).length c]/\Ak (rA 3 (rP rI (rP rI rB))) E a c (qs kk),λg s=>(FX Tryz.prog).ok Q g s⟩;refine VC F bA (show spl.length<2147483647 by omega) ?_ ?_ (Kq (j:=1) ab V) (Kq (j:=0) ab V) ?_ (λg s h=>h);rintro kk v cE cF bS ⟨bT,a,c,bU,bV⟩;exact⟨bT,a,c,bU,bV.Ad bS⟩;intro e;have:=bR.1;simp at this;exact this.1.1 e.symm
  have bW:=SU ab;show Way Tryz.prog true (Stop Tryz.prog F (.EX 0)) _ (⟨(Ah ai H ([[(ch,.chan 0 #[] false 0 0 false)],[(wg,.cells #[.int .u64 0,.int .u32 0] 111 (0,0))]]++ [[(O,.cells #[iV 0] 3 (0,0))]])).E,IC (Ah ai H ([[(ch,.chan 0 #[] false 0 0 false)],[(wg,.cells #[.int .u64 0,.int .u32 0] 111 (0,0))]]++ [[(O,.cells #[iV 0] 3 (0,0))]])).H wg ch,false⟩:St);rw[show(Ah ai H ([[(ch,.chan 0 #[] false 0 0 false)],[(wg,.cells #[.int .u64 0,.int .u32 0] 111 (0,0))]]++ [[(O,.cells #[iV 0] 3 (0,0))]])).E=ai from rfl,bW];have bY:An ai H [[(O,.cells #[iV 0] 3 (0,0))]]:=by
   have:=ab;unfold An at this ⊢;rw[Nd.iff] at this ⊢;refine⟨?_,λq aS=>this.2 q (by simp at aS ⊢;exact .inr (.inr aS))⟩;simp
  have bZ:Hs F 0=Stop Tryz.prog F (.EX 0):=by unfold Hs;rw[d5 (show 0<spl.length by omega)]
  have b0:Hs F spl.length=Stop Tryz.prog F .Fo:=by unfold Hs;rw[d7 (show ¬spl.length<spl.length by omega)]
  rw[← bZ];refine JL.rangeFunc (caps:=[.pointer (some ⟨aH,0,none⟩),.pointer (some ⟨k1,0,none⟩)]) V (by intro e;cases e) V (A0 Tryz.func55 V) bY (λag l T av b1=>?_) T av;refine I9 (S':=[[(l,.loop ⟨.ready,none,19,T,#[30],IF,IG,ag⟩),(O,.cells #[iV 0] 3 (0,0))],[(ag,.deferred (some []))]]) YP b1 λaE=>?_;have b2:=Vi (J:=Bc Tryz.prog true) (Qp:=Hs F) (I:=Jo O ai l ag T) Jo.Ad (ly:=l) (stp:=Ik spl) (λ{E' cG sp b cH} b3 b4=>XW (F:=F) (gd:=(K.1,K.2.1,K.2.2.1,K.2.2.2,aa)) (aw.Ad ae) (ay.Ad ae) (az.Ad ae) (bq.Ad au) (br.Ad au) (aG.Ad U) (av.sub ⟨rfl,rfl,rfl,rfl,rfl,trivial⟩) (qs:=qs) rfl bB (λj sp aI=>by rw[aR];exact bF j sp aI) (λ_=>rfl) (λj aI E' a c b5=>⟨aI,a,c,rfl,b5⟩) b3 b4) (gd:=(K.1,K.2.1,K.2.2.1,K.2.2.2,aa)) (aw.Ad ae) (ay.Ad ae) (az.Ad ae) (bu.Ad au) bO bP (ac:=0) ⟨Le.refl _,rfl⟩ bz;refine T4 (vs:=[.func (.yield l) #[] #[],.pointer (some ⟨aH,0,none⟩),.pointer (some ⟨k1,0,none⟩)]) 0 b2 aE V ?_;rintro _ b6 _ aJ ⟨rfl,_,rfl⟩ b7;refine MO (S':=[[(l,.loop ⟨.ready,none,19,T,#[30],IF,IG,ag⟩)],[(O,.cells #[iV ((spl.length:Nat):Int)] 3 (0,0))],[(ag,.deferred (some []))]]) (by simp) b7 λb8=>L5 0 b8 V V V λaT=>?_;rw[b0];refine(?_:JL (Bc Tryz.prog true) (Stop Tryz.prog F .Fo) (base 19) Tryz.f19.ntmps [(6,.pointer (some ⟨rc,0,none⟩)),(7,.pointer (some ⟨wg,0,none⟩)),(8,.pointer (some ⟨O,0,none⟩))] [⟨.collected ag,#[]⟩] _ (aX::cs) _) T (av.sub ⟨V,V,V,trivial⟩);refine C 3 V (As (v:=.func (.func 38) #[] ([.pointer (some F.sA),.pointer (some ⟨rc,0,none⟩)]:Lv_).toArray) V (λρ h=>Gh (by simp) (by simp[h (.tmp 7) _ rfl,h (.tmp 6) _ rfl];rfl)) ?_);have aU:=Uu (F:=F) (show spl.length<2147483648 by omega) (aG.Ad (U.trans aJ));refine JL.GY (fi:=#[]) V V V V V V V (by first | exact aU | (simp only[List.append_toArray,lx,nb,mV];exact aU)) ?_
  refine C 3 V (As (v:=iV ((spl.length:Nat):Int)) V (λρ h=>Yl.load AJ (h _ _ V) (Be (j:=1) (off:=0) aT V V)) ?_);have b9:Jk ((spl.length:Nat):Int) ([]:List (List (Int×Int×Bool)))=some (List.replicate spl.length []):=by unfold Jk;rw[d5 (by omega)];simp
  refine JS.make (pp:=(rL (rA 3 (rP rI (rP rI rB))))) b9 V V V V V Tryz.underlying118 FT (Cy Tryz.type64) (by decide) (B4 Tryz.type64) (by decide) ⟨_,_,V,Ak.nil⟩ aT λca aK aV cb=>C 2 V ?_;rw[UJ (qs:=qs)] at aV ⊢;refine JS.drop 0 cb V λar=>JS.drop 1 ar V λcc=>JS.perm (S':=[aK,[(ag,.deferred (some []))]]) (by simp only[List.set,lX,lx,lh,mv,lf];exact f6 (l₁:=[_]) (l₂:=aK)) cc λcd=>C 2 V (JY ?_);refine HP [(6,.pointer (some ⟨rc,0,none⟩)),(11,.slice (some ⟨ca,0,none⟩) (Eu spl.length qs []).length (Eu spl.length qs []).length)] V (VA (F:=F) (n:=spl.length) V (λ_=>V) (Q:=Q) (λg s h=>h) (qs:=qs) (λkk v E' h=>h.2) (aG.Ad (U.trans aJ)) (λcI a c cJ ce aW cf=>?_) _ [] [] b6 _ _ aK V (Le.refl _) aV cd);rw[bG] at aW ⊢;refine Cj 0 aW cf V λcK cg ci ck=>C 3 V (C7 (WV ci bD) V V (A0 Tryz.func40 V) ck ?_);rintro _ cM cN cm ⟨aL,aM,_,rfl,rfl,cn⟩ aF;refine C 2 V (Cj 2 cn aF V λa1 co cp cq=>?_);refine Fj V (JO.collected 1 V cq V λcr=>?_);refine JO.leave (v:=.slice aL r.length aM) V (Bq.list Tryz.func19 V (vs:=[.slice aL r.length aM]) ⟨V,trivial⟩) (CB 1 cr V λct=>?_);exact aN (((((ae.trans aJ).trans ce).trans cg).trans cm).trans co) V ⟨aL,aM,V,by simp,cp⟩ ct
end Pal
namespace Pal
open Go Go.Conc Go.Proofs
def Ms(fuel:Nat)(gr:((List Int)×(List (List Int))×Int×(List (List (Int×Bool)))))(Y:List (List (Int×Int×Bool)))(K:Int×(List (List (Int×Int×Bool)))×Int):Option (Bl (Int×(List (List (Int×Int×Bool)))×Int) (Int×(List (List (Int×Int×Bool))))):=
 if K.2.2<((Y).length:Int) then(
  (ix Y (K.2.2)).bind λZ=>
  (Lw fuel Z gr).bind λU=>
  Option.bind (
   if((K.2.1).length:Int)=0 then(
    some true
   ) else(
    some (decide (K.1<U))
   )
  ) λaa=>
  Option.bind (
   if aa=true then(
    some (U,[])
   ) else(
    some (K.1,K.2.1)
   )
  ) λO=>
  Option.bind (
   if U=O.1 then(
    (CJ O.2 ([Z]:List (List (Int×Int×Bool)))).bind λab=>
    some ab
   ) else(
    some O.2
   )
  ) λae=>
  (AG (K.2.2+1)).bind λag=>
  some (.more (O.1,ae,ag))
 ) else(
  some (.done (K.1,K.2.1))
 )
def Lm(fuel:Nat)(gr:((List Int)×(List (List Int))×Int×(List (List (Int×Bool)))))(O:Int)(xs U:List (List (Int×Int×Bool))):Option (Int×List (List (Int×Int×Bool))):=
 Option.bind (iter (Ms fuel gr U) fuel (O,xs,0)) λK=>
 some (K.1,K.2)
variable{U Y fuel:Nat}{a1:Ao}
set_option maxHeartbeats 1000000 in
theorem Yn{J:Judge Tryz.prog}{E:LH}{bk:Nat}{aP aQ aR:Ao}{aS aT aU:Nat}{gr:((List Int)×(List (List Int))×Int×(List (List (Int×Bool))))}(bb:At E U Y [.slice aP (gr.1).length aS,.slice aQ (gr.2.1).length aT,iV gr.2.2.1,.slice aR (gr.2.2.2).length aU])(be:Ak rI E aP aS (gr.1))(bf:Ak (rL rI) E aQ aT (gr.2.1))(bg:Ak (rL (rP rI rB)) E aR aU (gr.2.2.2)){aH:Int}{a:Ao}{c c1:Nat}{g:Seg}{xs O:List (List (Int×Int×Bool))}(bh:OL 62 (rA 3 (rP rI (rP rI rB))) E a c g xs)(bi:Ak (rA 3 (rP rI (rP rI rB))) E a1 c1 O){r:Int×List (List (Int×Int×Bool))}(aV:Lm fuel gr aH xs O=some r):
  AO J 18 [.pointer (some ⟨bk,0,none⟩),.slice a1 O.length c1] E ([(bk,.cells #[.func (.func 17) #[] ([.pointer (some ⟨U,Y,none⟩)]:Lv_).toArray,iV aH,.slice a xs.length c] 66 (0,0))]++g) (λw E' B'=>∃(aW:Ao) (aX:Nat) (g':Seg),w=.tuple #[]/\B'=[(bk,.cells #[.func (.func 17) #[] ([.pointer (some ⟨U,Y,none⟩)]:Lv_).toArray,iV r.1,.slice aW r.2.length aX] 66 (0,0))]++g'/\OL 62 (rA 3 (rP rI (rP rI rB))) E' aW aX g' r.2):=by
 refine Bd Tryz.func18 λQ cn cs H aI bj=>?_;refine Dt (S':=[[(bk,.cells #[.func (.func 17) #[] ([.pointer (some ⟨U,Y,none⟩)]:Lv_).toArray,iV aH,.slice a xs.length c] 66 (0,0))],g]) (by simp) aI λaI=>?_;unfold Lm at aV;refine C 3 V (JL.ln Tryz.underlying64 V V V ?_);let⟨aJ,bl,bm⟩:=bs aV;refine C 2 V (BF (λL s=>∃(aK:LH) (ar:Ao) (au:Nat) (av:Seg),Jn E H aK [[(bk,.cells #[.func (.func 17) #[] ([.pointer (some ⟨U,Y,none⟩)]:Lv_).toArray,iV aJ.1,.slice ar (aJ.2).length au] 66 (0,0))],av] [] L s (OL 62 (rA 3 (rP rI (rP rI rB))) aK ar au av (aJ.2))) ?_ ?_);rintro _ _ ⟨aK,ar,au,av,rfl,rfl,bn,bo,bp⟩;cases bm;exact JL.fin (v:=.tuple #[]) V V (Bq.list Tryz.func18 V (vs:=[]) trivial) (bj bn V ⟨ar,au,av,V,by simp,bp⟩ bo);intro bq;refine JL.block (Es bl (λL s K=>∃(aj:LH) (ae:Ao) (ag:Nat) (ak:Seg),Jn E H aj [[(bk,.cells #[.func (.func 17) #[] ([.pointer (some ⟨U,Y,none⟩)]:Lv_).toArray,iV K.1,.slice ae (K.2.1).length ag] 66 (0,0))],ak] [(0,.pointer (some ⟨bk,0,none⟩)),(7,.slice a1 (O).length c1),(8,iV ((O).length:Int)),(9,iV K.2.2)] L s (OL 62 (rA 3 (rP rI (rP rI rB))) aj ae ag ak (K.2.1))) ⟨E,a,c,g,V,V,(Le.refl _),aI,bh⟩ ?_);rintro _ _ K ⟨aj,ae,ag,ak,rfl,rfl,ah,aY,aZ⟩ br ⟨co,aL⟩ bu;have a0:=aL;unfold Ms at a0;refine C 5 V (AX a0 (λbv bw=>?_) (λbv bx=>?_));let⟨bz,bA,bB⟩:=bs bw;refine C 5 V (JS.ix (bi.Ad ah) bA Tryz.underlying64 FE ?_);rintro cp cq ai aa bC;refine As (v:=.agg ai.toArray) V (λρ h=>Ej aa JI FE (h _ _ V) (At.MW (At.tail (l:=[]) bC))) (BO aY Iv λa2 bD=>?_);refine ES (v:=.agg ai.toArray) (l:=[]) (ws:=((List.replicate 3 [iV 0,iV 0,.bool false]).flatten:Lv_)) (us:=ai) (o:=0) 2 V V V bD V V V (by rw[BC (kk:=3) (pp:=(rP rI (rP rI rB))) aa];exact AB Tryz.type62) ((rA 3 (rP rI (rP rI rB))).one aa) V (by rw[BC (kk:=3) (pp:=(rP rI (rP rI rB))) aa,BC (kk:=3) (pp:=(rP rI (rP rI rB))) (ID (E:=aj) (us:=[iV 0,iV 0,.bool false]) (x:=(0,0,false)) ⟨_,_,rfl,rfl,⟨_,_,rfl,rfl,rfl⟩⟩)];omega) λa3=>?_;rw[H8 (by rw[BC (kk:=3) (pp:=(rP rI (rP rI rB))) aa,BC (kk:=3) (pp:=(rP rI (rP rI rB))) (ID (E:=aj) (us:=[iV 0,iV 0,.bool false]) (x:=(0,0,false)) ⟨_,_,rfl,rfl,⟨_,_,rfl,rfl,rfl⟩⟩)])] at a3 ⊢;refine C 2 V (Cw 2 a3 V λcr Z a4 aw=>?_);refine Gn 5 [bk] ⟨⟨0,_,V⟩,trivial⟩ aw λab=>Bv ab V [0,1] V (BT 2 ab Tryz.underlying66 (AB Tryz.type63) V V V V ?_);refine Hi 3 ab 0 0 aw (B5 Tryz.underlying63) ?_;refine AZ (v:=.agg ai.toArray) 4 ab V V (λρ h s' aM=>Ej (Rp.Ad _ Z aa) JI FE (h _ _ V) (At.Jf (At.tail (l:=[]) a4) (OZ aw aM ⟨⟨0,_,V⟩,trivial⟩))) (BY [5,6] ?_);let⟨a5,bE,bF⟩:=bs bB;refine N3 aw λbG=>GG (vs:=[.agg ai.toArray]) 3 (Co.ofFn (caps:=[.pointer (some ⟨U,Y,none⟩)]) (A0 Tryz.func17 V) (XI (Rp.Ad _ Z aa) (bb.Ad (ah.trans Z)) (be.Ad (ah.trans Z)) (bf.Ad (ah.trans Z)) (bg.Ad (ah.trans Z)) bE)) V V V V V bG V ?_;rintro _ aN _ ao ⟨rfl,rfl⟩ ay;refine C 7 V (Bg Tryz.underlying66 FT V V V ?_);refine As (v:=.slice ae (K.2.1).length ag) V (λρ h=>Yl.load It (h _ _ V) (Be (j:=0) (off:=2) ay V V)) (JL.ln Tryz.underlying64 V V V ?_);let⟨bH,bI,bJ⟩:=bs bF;refine C 2 V (GH [] (λL s=>∃(ap:LH),Jm aN H ap [[(bk,.cells #[.func (.func 17) #[] ([.pointer (some ⟨U,Y,none⟩)]:Lv_).toArray,iV K.1,.slice ae (K.2.1).length ag] 66 (0,0))],ak] [(0,.pointer (some ⟨bk,0,none⟩)),(5,.pointer (some ⟨a2,0,none⟩)),(6,iV a5),(7,.slice a1 (O).length c1),(8,iV ((O).length:Int)),(9,iV K.2.2),(32,.bool bH)] L s) ?_ ?_);rintro _ _ ⟨ap,rfl,rfl,aq,a6⟩;let⟨al,bK,bL⟩:=bs bJ;refine JL.done (BF (λL s=>∃(am:LH) (az:Ao) (aA:Nat) (aB:Seg),Jn ap H am [[(bk,.cells #[.func (.func 17) #[] ([.pointer (some ⟨U,Y,none⟩)]:Lv_).toArray,iV al.1,.slice az (al.2).length aA] 66 (0,0))],aB] [(0,.pointer (some ⟨bk,0,none⟩)),(5,.pointer (some ⟨a2,0,none⟩)),(6,iV a5),(7,.slice a1 (O).length c1),(8,iV ((O).length:Int)),(9,iV K.2.2)] L s (OL 62 (rA 3 (rP rI (rP rI rB))) am az aA aB (al.2))) ?_ ?_);rintro _ _ ⟨am,az,aA,aB,rfl,rfl,aC,an,a7⟩;refine C 5 V (Bg Tryz.underlying66 AE V V V ?_);refine As (v:=iV al.1) V (λρ h=>Yl.load AJ (h _ _ V) (Be (j:=0) (off:=1) an V V)) ?_;let⟨aO,bM,bN⟩:=bs bL;refine C 2 V (BF (λL s=>∃(aD:LH) (aE:Ao) (aF:Nat) (aG:Seg),Jn am H aD [[(bk,.cells #[.func (.func 17) #[] ([.pointer (some ⟨U,Y,none⟩)]:Lv_).toArray,iV al.1,.slice aE (aO).length aF] 66 (0,0))],aG] [(0,.pointer (some ⟨bk,0,none⟩)),(7,.slice a1 (O).length c1),(8,iV ((O).length:Int)),(9,iV K.2.2)] L s (OL 62 (rA 3 (rP rI (rP rI rB))) aD aE aF aG (aO))) ?_ ?_);rintro _ _ ⟨aD,aE,aF,aG,rfl,rfl,bO,bP,bQ⟩;let⟨bR,bS,bT⟩:=bs bN;refine C 2 V (Bi bS V V V ?_);refine C 2 V ?_;cases bT;exact AP (bu _ _ (al.1,aO,bR) ⟨aD,aE,aF,aG,V,V,(((((ah.trans Z).trans ao).trans aq).trans aC).trans bO),bP,bQ⟩ aL) V;intro a8;refine AX bM (λbU bV=>?_) (λbU bW=>?_);refine Gn 8 [bk] ⟨⟨0,_,V⟩,trivial⟩ an λab=>Bv ab V [0,1,2] V (BT 3 ab Tryz.underlying66 FT V V V V ?_);refine Hi 4 ab 2 0 an It ?_;refine AZ (v:=.agg ai.toArray) 5 ab V V (λρ h s' aM=>Ej (Rp.Ad _ (((Z.trans ao).trans aq).trans aC) aa) JI FE (h _ _ V) (At.Jf (At.tail (l:=[]) (a4.Ad ((ao.trans aq).trans aC))) (OZ an aM ⟨⟨0,_,V⟩,trivial⟩))) ?_;let⟨ct,bY,bZ⟩:=bs bV;refine JG.one (i:=6) V (by decide+kernel) (Take.lit (pp:=(rA 3 (rP rI (rP rI rB)))) (jp:=0) [.agg ai.toArray] ([bz]:List (List (Int×Int×Bool))) an V V V V Tryz.underlying64 FE Iv (by decide) V V V ⟨(Rp.Ad _ (((Z.trans ao).trans aq).trans aC) aa),trivial⟩ λcu cv b0 b1=>?_);refine JG.one (i:=7) V (by decide+kernel) (Take.app (pp:=(rA 3 (rP rI (rP rI rB)))) (jp:=0) 1 2 b1 V bY V V V V V V V Tryz.underlying64 Tryz.underlying64 FE (Cy Tryz.type62) Iv V (by decide) (by decide) a7 b0 V V V V λb2 b3 cw b4 b5 b6=>?_);refine BY [8,9,10] (Gk 1 V b6 λb7=>?_);refine JS.drop 1 b7 V λb8=>C 1 V (Bg Tryz.underlying66 FT V V V ?_);refine Bf 0 b8 FT λb9=>?_;refine JL.done (JS.drop 2 b9 V λca=>?_);cases bZ;exact AP (a8 _ _ ⟨am,b2,b3,b4,V,V,(Le.refl _),ca,b5⟩) V;refine JL.skip ?_;cases bW;exact AP (a8 _ _ ⟨am,az,aA,aB,V,V,(Le.refl _),an,a7⟩) V;intro a9;refine CI bK (λcb cc=>?_) (λcb cd=>?_);refine C 5 V (Bg Tryz.underlying66 AE V V V ?_);refine Bf 0 a6 AE λce=>?_;refine C 1 V (Bg Tryz.underlying66 FT V V V ?_);refine Bf 0 ce FT λcf=>?_;refine JL.done (JS.drop 1 cf V λcg=>?_);cases cc;exact AP (a9 _ _ ⟨ap,none,0,[],V,V,(Le.refl _),cg,OL.nil⟩) V;refine JL.skip ?_;cases cd;exact AP (a9 _ _ ⟨ap,ae,ag,ak,V,V,(Le.refl _),a6,(aZ.Ad ((Z.trans ao).trans aq))⟩) V;intro ba;refine DW 25 bI (λci ck=>?_) (λci cm=>?_);refine C 7 V ?_;cases ck;exact AP (ba _ _ ⟨aN,V,V,(Le.refl _),ay⟩) V;refine C 3 V (Bg Tryz.underlying66 AE V V V ?_);refine As (v:=iV K.1) V (λρ h=>Yl.load AJ (h _ _ V) (Be (j:=0) (off:=1) ay V V)) (C 2 V ?_);cases cm;exact AP (ba _ _ ⟨aN,V,V,(Le.refl _),ay⟩) V;refine JL.exit V ?_;cases bx;obtain rfl:=br _ aL;exact AP (bq _ _ ⟨aj,ae,ag,ak,V,V,ah,aY,aZ⟩) V
variable{ak:Ao}{c2:Nat}
theorem Wk{E:LH}{U:Ao}{Z:Nat}{p0:((List Int)×(List (List Int))×Int×(List (List (Int×Bool))))}{p1:Bool}(ab:Ak rI E a1 Y (p0.1))(ae:Ak (rL rI) E ak Z (p0.2.1))(ag:Ak (rL (rP rI rB)) E U c2 (p0.2.2.2)){r:List (List (Int×Int×Bool))}(ah:Kr fuel p0 p1=some r):
  AO (FX Tryz.prog) 19 [.agg #[.slice a1 (p0.1).length Y,.slice ak (p0.2.1).length Z,iV p0.2.2.1,.slice U (p0.2.2.2).length c2],.bool p1] E [] (λw E' B'=>∃(a:Ao) (c:Nat),w=.slice a r.length c/\B'=[]/\Ak (rA 3 (rP rI (rP rI rB))) E' a c r):=Xk ab ae ag ah
def Kp(fuel:Nat)(p0:(List Int)×(List (List Int))×Int×(List (List (Int×Bool)))):Option ((List (Int×Int×Bool))×Int×Int):=
 (Lq fuel p0 ([])).bind λK=>
 if K.2≠0 then(
  some ([],0,K.2)
 ) else(
  (Kr fuel K.1 false).bind λU=>
  (Lm fuel (p0.1,p0.2.1,p0.2.2.1,p0.2.2.2) 0 ([]:List (List (Int×Int×Bool))) U).bind λO=>
  (ix O.2 (0)).bind λY=>
  (Nj fuel K.1 Y).bind λZ=>
  some (Z,O.1,0)
 )
theorem RA{E:LH}{ai:Ao}{aj al:Nat}{p0:(List Int)×(List (List Int))×Int×(List (List (Int×Bool)))}(am:Ak rI E a1 c2 (p0.1))(an:Ak (rL rI) E ai aj (p0.2.1))(ao:Ak (rL (rP rI rB)) E ak al (p0.2.2.2)){r:(List (Int×Int×Bool))×Int×Int}(ap:Kp fuel p0=some r):AO (FX Tryz.prog) 6 [.agg #[.slice a1 (p0.1).length c2,.slice ai (p0.2.1).length aj,iV p0.2.2.1,.slice ak (p0.2.2.2).length al]] E [] (λw E' B'=>∃(aq:Ao) (ar:Nat),w=.tuple #[.slice aq (r.1).length ar,iV r.2.1,iV r.2.2]/\B'=[]/\Ak (rP rI (rP rI rB)) E' aq ar (r.1)):=by
 refine Bd Tryz.func6 λQ bz cs H aG au=>?_;unfold Kp at ap;refine C 2 V (BZ aG λag bA U av aH=>?_);refine C 6 V (Cu av I1 Dz V V ?_);let⟨ah,aI,aJ⟩:=bs ap;refine C7 (XQ (am.Ad U) (an.Ad U) (ao.Ad U) Ak.nil aI) V V (A0 Tryz.func16 V) aH ?_;rintro _ bB _ Z ⟨aK,aL,aM,aN,aO,aP,rfl,rfl,aw,ay,az⟩ aQ;refine C 3 V (BO aQ KG λaR aS=>?_);refine Bt (S':=[[],[],[],[(aR,.cells #[.slice none 0 0,.slice none 0 0,iV 0,.slice none 0 0] 58 (0,0))]]) V aS λaT=>Bf 3 aT Dd λaU=>?_;refine Cw 3 aU V λbC K aA aB=>C 8 V (AX aJ (λaV aW=>?_) (λaV aX=>?_));refine C 7 V ?_;cases aW;exact AU Tryz.func6 V V (au ((U.trans Z).trans K) V ⟨none,0,V,V,Ak.nil⟩ aB);refine C 3 V (As (v:=.func (.func 17) #[] ([.pointer (some ⟨ag,0,none⟩)]:Lv_).toArray) V (λρ h=>Gh (by simp) (by simp[h (.tmp 1) _ rfl])) ?_);refine As (v:=.agg #[.func (.func 17) #[] ([.pointer (some ⟨ag,0,none⟩)]:Lv_).toArray,iV 0,.slice none 0 0]) V (λρ h=>BB [(0,1),(1,1),(2,1)] h (B4 Tryz.type66) Tryz.underlying66 ⟨V,AB Tryz.type63,V,AB Tryz.type3,V,AB Tryz.type64,trivial⟩ V V) (BO aB (B4 Tryz.type66) λaC aY=>?_);refine Bf 4 aY (AB Tryz.type66) λaZ=>?_;refine Bt (S':=[[],[],[],[],[(aC,.cells #[.func (.func 17) #[] ([.pointer (some ⟨ag,0,none⟩)]:Lv_).toArray,iV 0,.slice none 0 0] 66 (0,0))]]) V aZ λa0=>C 3 V (Cu aA FR Dd V V ?_);let⟨bD,a2,a3⟩:=bs aX;refine C7 (Wk (aw.Ad K) (ay.Ad K) (az.Ad K) a2) V V (A0 Tryz.func19 V) a0 ?_;rintro _ bE _ O ⟨bF,bG,rfl,rfl,a4⟩ a5;refine N3 a5 λa6=>?_;let⟨bH,a7,a8⟩:=bs a3;refine Bt (S':=[[],[],[],[],[(aC,.cells #[.func (.func 17) #[] ([.pointer (some ⟨ag,0,none⟩)]:Lv_).toArray,iV 0,.slice none (([]:List (List (Int×Int×Bool)))).length 0] 66 (0,0))],[],[]]) V a6 λa9=>KU 4 6 V V a9 λba=>C6 4 (Yn (gr:=(p0.1,p0.2.1,p0.2.2.1,p0.2.2.2)) (av.Ad ((Z.trans K).trans O)) (am.Ad (((U.trans Z).trans K).trans O)) (an.Ad (((U.trans Z).trans K).trans O)) (ao.Ad (((U.trans Z).trans K).trans O)) OL.nil a4 a7) V V (A0 Tryz.func18 V) ba V ?_;rintro _ bI _ ab ⟨bJ,bK,bL,rfl,rfl,bb⟩ be;refine Gk 4 V be λbf=>C 2 V (Cj 7 bb bf V λbM ae bg bh=>?_);refine Cw 4 bh V λbN aa aD bi=>Bt (S':=[[],[],[],[],[],[],[],[]]) V bi λbj=>Dk 9 λY=>FZ 0 Y (aA.Ad (((O.trans ab).trans ae).trans aa)) FR Dd V V V (BT 1 Y Tryz.underlying66 FT V V V V ?_);refine BM 2 Y 2 aD It V V V V ?_;let⟨bO,bl,bm⟩:=bs a8;refine FJ 3 (bg.Ad aa) bl Y Tryz.underlying64 FE ?_;rintro bP bQ aE aF bn;refine AZ (v:=.agg aE.toArray) 4 Y V V (λρ h s' bo=>Ej aF JI FE (h _ _ V) (At.Jf (At.tail (l:=[]) bn) bo)) (BT 6 Y Tryz.underlying66 AE V V V V ?_);refine BM 7 Y 1 aD AJ V V V V ?_;let⟨bR,bp,bq⟩:=bs bm;refine JG.call (i:=5) (vs:=[.agg #[.slice aK (ah.1.1).length aL,.slice aM (ah.1.2.1).length aN,iV ah.1.2.2.1,.slice aO (ah.1.2.2.2).length aP],.agg aE.toArray]) (Xn (aw.Ad ((((K.trans O).trans ab).trans ae).trans aa)) (ay.Ad ((((K.trans O).trans ab).trans ae).trans aa)) (az.Ad ((((K.trans O).trans ab).trans ae).trans aa)) aF bp) (by decide+kernel) V V V (A0 Tryz.func20 V) V bj ?_;rintro _ bS _ br ⟨bu,bv,rfl,rfl,bw⟩ bx;refine Ct 8 Y V V (BY [9,10] ?_);refine C 3 V ?_;cases bq;exact AU Tryz.func6 V V (au (((((((U.trans Z).trans K).trans O).trans ab).trans ae).trans aa).trans br) V ⟨bu,bv,V,V,bw⟩ bx)
variable {J:Judge Tryz.prog}{E:LH}
def M5(fuel:Nat)(p0:List (Int×Int×Int))(p1:List (Int×Int×Int))(K:Int):Option (Bl (Int) ((Bool)⊕(Unit))):=
 Option.bind (
  if K<((p0).length:Int) then(
   some (decide (K<((p1).length:Int)))
  ) else(
   some false
  )
 ) λO=>
 if O=true then(
  (ix p0 (K)).bind λU=>
  (ix p1 (K)).bind λY=>
  if U≠Y then(
   some (.done (Sum.inl false))
  ) else(
   (AG (K+1)).bind λZ=>
   some (.more Z)
  )
 ) else(
  some (.done (Sum.inr ()))
 )
def f26(fuel:Nat)(p0:List (Int×Int×Int))(p1:List (Int×Int×Int)):Option (Bool):=
 Option.bind (iter (M5 fuel p0 p1) fuel 0) λK=>
 Sum.elim (λr=>some r) (λO=>
 some (decide (((p0).length:Int)=((p1).length:Int)))
 ) K
variable{r:Bool}
theorem RY{O:Ao}{p0:List (Int×Int×Int)}{p1:List (Int×Int×Int)}(aw:Ak (rP rI Cp) E a1 c2 (p0))(ay:Ak (rP rI Cp) E O U (p1))(ak:f26 fuel p0 p1=some r):AO J 10 [.slice a1 (p0).length c2,.slice O (p1).length U] E [] (λw E' B'=>w=.bool r/\B'=[]):=by
 refine Bd Tryz.func10 λQ a4 cs H az al=>?_;unfold f26 at ak;let⟨am,aA,an⟩:=bs ak;refine C 9 V (BF (λL s=>∃(ao:Unit) (ap:LH),am=Sum.inr ao/\Jm E H ap [] [(0,.slice a1 (p0).length c2),(1,.slice O (p1).length U)] L s) ?_ ?_);rintro _ _ ⟨ao,ap,rfl,rfl,rfl,aB,aC⟩;have aD:=elim_inr an;refine C 3 V (JL.ln Tryz.underlying35 V V V ?_);refine C 1 V (JL.ln Tryz.underlying35 V V V ?_);refine C 3 V ?_;cases aD;exact AU Tryz.func10 V V (al aB V ⟨V,V⟩ aC);intro aE;refine JL.block (Dj aA (λag=>[]) (λag=>[(0,.slice a1 (p0).length c2),(1,.slice O (p1).length U),(5,iV ag)]) (Le.refl _) az ?_);rintro ag ai Y aq ar ⟨a5,ah⟩ aF;have au:=ah;unfold M5 at au;refine C 5 V (JL.ln Tryz.underlying35 V V V ?_);let⟨aG,aH,aI⟩:=bs au;refine C 2 V (GH [] (λL s=>∃(Z:LH),Jm ai H Z [] [(0,.slice a1 (p0).length c2),(1,.slice O (p1).length U),(5,iV ag),(15,.bool aG)] L s) ?_ ?_);rintro _ _ ⟨Z,rfl,rfl,aa,aj⟩;refine JL.done (CI aI (λaJ aK=>?_) (λaJ aL=>?_));refine C 4 V (Dk 8 λK=>?_);refine Bv K V [0,1] V ?_;let⟨ab,aM,aN⟩:=bs aK;refine FJ 2 (aw.Ad (Y.trans aa)) aM K Tryz.underlying35 BA ?_;rintro a6 a7 _ ⟨_,_,rfl,rfl,⟨_,_,rfl,rfl,rfl⟩⟩ aO;refine FZ 3 K aO FB BA V V V (Bv K V [4,5] V ?_);let⟨ae,aP,aQ⟩:=bs aN;refine FJ 6 (ay.Ad (Y.trans aa)) aP K Tryz.underlying35 BA ?_;rintro a8 a9 _ ⟨_,_,rfl,rfl,⟨_,_,rfl,rfl,rfl⟩⟩ aR;refine FZ 7 K aR FB BA V V V (BY [8] ?_);refine As (v:=.bool (decide (ab≠ae))) V (λρ h=>QW (E:=Z) (E':=Z) (ws:=[iV ab.1,iV ab.2.1,iV ab.2.2]) (ws':=[iV ae.1,iV ae.2.1,iV ae.2.2]) (a:=ab) (b:=ae) Ys (by decide) (by decide+kernel) ⟨_,_,V,V,⟨_,_,V,V,V⟩⟩ ⟨_,_,V,V,⟨_,_,V,V,V⟩⟩ (h _ _ V) (h _ _ V)) (JL.done ?_);refine AX aQ (λaS aT=>?_) (λaS aU=>?_);refine C 4 V ?_;cases aT;obtain rfl:=ar _ ah;have aV:=elim_inl an;cases aV;exact AU Tryz.func10 V V (al (Y.trans aa) V ⟨V,V⟩ aj);let⟨aW,aX,aY⟩:=bs aU;refine C 4 V (Bi aX V V V ?_);refine C 2 V ?_;cases aY;exact aF aW (Y.trans aa) aj V ah;refine JL.exit V ?_;cases aL;have aZ:am=(Sum.inr ()):=(ar _ ah).symm;exact AP (aE _ _ ⟨(),Z,aZ,V,V,(Y.trans aa),aj⟩) V;intro av;refine DW 10 aH (λa0 a2=>?_) (λa0 a3=>?_);refine C 2 V (JL.ln Tryz.underlying35 V V V ?_);refine C 2 V ?_;cases a2;exact AP (av _ _ ⟨ai,V,V,(Le.refl _),aq⟩) V;refine C 5 V ?_;cases a3;exact AP (av _ _ ⟨ai,V,V,(Le.refl _),aq⟩) V
def Lc(fuel:Nat):Option (Bool):=
 (Kp fuel (([2]:List Int),([([0]:List Int)]:List (List Int)),1,([([(0,false),(0,false)]:List (Int×Bool))]:List (List (Int×Bool))))).bind λK=>
 (Jk 2 ([]:List Int)).bind λU=>
 (f22 fuel (U,([(1,0,2)]:List (Int×Int×Int)))).bind λO=>
 Option.bind (
  if K.2.2=0 then(
   some (decide (O.2=0))
  ) else(
   some false
  )
 ) λY=>
 Option.bind (
  if Y=true then(
   some (decide (K.2.1=2))
  ) else(
   some false
  )
 ) λZ=>
 Option.bind (
  if Z=true then(
   (f26 fuel O.1 ([(1,0,2)]:List (Int×Int×Int))).bind λaa=>
   some aa
  ) else(
   some false
  )
 ) λab=>
 some ab
theorem Rl{E:LH}(ab:Lc fuel=some r):AO (FX Tryz.prog) 7 [] E [] (λw E' B'=>w=.bool r/\B'=[]):=by
 refine Bd Tryz.func7 λQ b7 cs H aA aB=>?_;unfold Lc at ab;refine C 6 V (FY (pp:=rI) [iV 2] [2] V V V Tryz.underlying22 AE DL (by decide) V V V ⟨V,trivial⟩ aA λr1 g2 aC aD=>?_);refine FY (pp:=rI) [iV 0] [0] V V V Tryz.underlying22 AE DL (by decide) V V V ⟨V,trivial⟩ aD λaE b8 aF aG=>Cj 2 aF aG V λb9 ae aH aI=>Bt (S':=[[],g2,[]]) V aI λaJ=>FY (pp:=(rL rI)) [.slice (some ⟨aE,0,none⟩) (([0]:List Int)).length 1] [([0]:List Int)] V V V Tryz.underlying23 CO HY (by decide) V V V ⟨⟨_,_,V,aH⟩,trivial⟩ aJ λag ah aK aL=>As (v:=.agg #[iV 0,.bool false]) V (λρ h=>BB [(0,1),(1,1)] h Ff Tryz.underlying71 ⟨V,AB Tryz.type3,V,AB Tryz.type4,trivial⟩ V V) (As (v:=.agg #[iV 0,.bool false]) V (λρ h=>BB [(0,1),(1,1)] h Ff Tryz.underlying71 ⟨V,AB Tryz.type3,V,AB Tryz.type4,trivial⟩ V V) ?_);refine FY (pp:=(rP rI rB)) [.agg #[iV 0,.bool false],.agg #[iV 0,.bool false]] [(0,false),(0,false)] V V V Tryz.underlying40 Eo Ff (by decide) V V V ⟨⟨_,_,V,V,V⟩,⟨_,_,V,V,V⟩,trivial⟩ aL λaM ca aN aO=>Cj 4 aN aO V λcb O aP aQ=>Bt (S':=[[],g2,[],ah,[]]) V aQ λaR=>FY (pp:=(rL (rP rI rB))) [.slice (some ⟨aM,0,none⟩) (([(0,false),(0,false)]:List (Int×Bool))).length 2] [([(0,false),(0,false)]:List (Int×Bool))] V V V Tryz.underlying24 EH G5 (by decide) V V V ⟨⟨_,_,V,aP⟩,trivial⟩ aR λai aS aT aU=>As (v:=.agg #[.slice (some ⟨r1,0,none⟩) (([2]:List Int)).length 1,.slice (some ⟨ag,0,none⟩) (([([0]:List Int)]:List (List Int))).length 1,iV 1,.slice (some ⟨ai,0,none⟩) (([([(0,false),(0,false)]:List (Int×Bool))]:List (List (Int×Bool)))).length 1]) V (λρ h=>BB [(0,1),(1,1),(2,1),(3,1)] h JU Tryz.underlying26 ⟨V,AB Tryz.type22,V,AB Tryz.type23,V,AB Tryz.type3,V,AB Tryz.type24,trivial⟩ V V) (BO aU JU λaV aW=>?_);refine Bf 6 aW Dz λaX=>?_;refine Cj 1 (aC.Ad (ae.trans O)) aX V λcc U aY aZ=>Bt (S':=[[],[],[],ah,[],aS,[(aV,.cells #[.slice (some ⟨r1,0,none⟩) (([2]:List Int)).length 1,.slice (some ⟨ag,0,none⟩) (([([0]:List Int)]:List (List Int))).length 1,iV 1,.slice (some ⟨ai,0,none⟩) (([([(0,false),(0,false)]:List (Int×Bool))]:List (List (Int×Bool)))).length 1] 26 (0,0))]]) V aZ λa0=>Cj 3 (aK.Ad (O.trans U)) a0 V λcd Y a1 a2=>Cj 5 (aT.Ad (U.trans Y)) a2 V λce Z a3 a4=>Cw 6 a4 V λcf K a5 a6=>Bt (S':=[[],[],[],[],[],[],[]]) V a6 λa7=>C 3 V (Cu a5 I1 Dz V V ?_);let⟨a8,a9,ba⟩:=bs ab;refine C7 (RA (p0:=(([2]:List Int),([([0]:List Int)]:List (List Int)),1,([([(0,false),(0,false)]:List (Int×Bool))]:List (List (Int×Bool))))) (aY.Ad ((Y.trans Z).trans K)) (a1.Ad (Z.trans K)) (a3.Ad K) a9) V V (A0 Tryz.func6 V) a7 ?_;rintro _ cg _ bb ⟨ci,ck,rfl,rfl,cm⟩ be;let⟨aa,bf,bg⟩:=bs ba;refine C 10 V (JS.make (pp:=(rL rI)) bf V V V V V Tryz.underlying23 CO (Cy Tryz.type22) (by decide) HY (by decide) ⟨_,_,V,Ak.nil⟩ be λbh bi bj bl=>?_);refine As (v:=.agg #[iV 1,iV 0,iV 2]) V (λρ h=>BB [(0,1),(1,1),(2,1)] h BU Tryz.underlying42 ⟨V,AB Tryz.type3,V,AB Tryz.type3,V,AB Tryz.type3,trivial⟩ V V) (FY (pp:=(rP rI Cp)) [.agg #[iV 1,iV 0,iV 2]] [(1,0,2)] V V V Tryz.underlying35 BA BU (by decide) V V V ⟨⟨_,_,V,V,⟨_,_,V,V,V⟩⟩,trivial⟩ bl λbm bn bo bp=>?_);refine Bt (S':=[[],[],[],[],[],[],[],[],bi,bn]) V bp λbq=>As (v:=.agg #[.slice (some ⟨bh,0,none⟩) (aa).length (aa).length,.slice (some ⟨bm,0,none⟩) (([(1,0,2)]:List (Int×Int×Int))).length 1]) V (λρ h=>BB [(0,1),(1,1)] h NH Tryz.underlying37 ⟨V,AB Tryz.type23,V,AB Tryz.type35,trivial⟩ V V) (Cj 8 bj bq V λcn aj br bu=>?_);refine Cj 9 (bo.Ad aj) bu V λco ak bv bw=>?_;let⟨al,bx,bz⟩:=bs bg;refine C7 (RU (p0:=(aa,([(1,0,2)]:List (Int×Int×Int)))) (br.Ad ak) bv bx) V V (A0 Tryz.func9 V) bw ?_;rintro _ cp _ bA ⟨am,an,rfl,rfl,bB⟩ bC;refine Bt (S':=[[],[],[],[],[],[],[],[],[],[],[]]) V bC λao=>?_;let⟨bD,bE,bF⟩:=bs bz;refine C 11 V (CP 6 11 [] [(3,iV a8.2.1),(5,.slice am (al.1).length an),(34,.bool bD)] (λcq ap aq=>?_) (λar=>?_));let⟨bG,bH,bI⟩:=bs bF;refine C 1 V (CP 10 7 [] [(5,.slice am (al.1).length an),(38,.bool bG)] (λcr au av=>?_) (λaw=>?_));let⟨bJ,bK,bL⟩:=bs bI;refine C 1 V (CP 16 1 [] [(44,.bool bJ)] (λct bM bN=>?_) (λay=>?_));refine C 2 V ?_;cases bL;exact AU Tryz.func7 V V (aB ((((((((((((ae.trans O).trans U).trans Y).trans Z).trans K).trans bb).trans aj).trans ak).trans bA).trans ap).trans au).trans bM) V ⟨V,V⟩ bN);refine DD 39 bK (λbO bP=>?_) (λbO bQ=>?_);refine C 1 V (As (v:=.agg #[iV 1,iV 0,iV 2]) V (λρ h=>BB [(0,1),(1,1),(2,1)] h BU Tryz.underlying42 ⟨V,AB Tryz.type3,V,AB Tryz.type3,V,AB Tryz.type3,trivial⟩ V V) ?_);refine FY (pp:=(rP rI Cp)) [.agg #[iV 1,iV 0,iV 2]] [(1,0,2)] V V V Tryz.underlying35 BA BU (by decide) V V V ⟨⟨_,_,V,V,⟨_,_,V,V,V⟩⟩,trivial⟩ av λcu cv bR bS=>Cj 0 bR bS V λcw az bT bU=>?_;obtain⟨cy,bV,bW⟩:=bs bP;refine CX (RY (bB.Ad ((ap.trans au).trans az)) bT bV) V V (A0 Tryz.func10 V) bU λcz bY bZ=>Bt (S':=[[],[]]) V bZ λb0=>C 1 V ?_;cases bW;exact ay (az.trans bY) b0 V;refine C 5 V ?_;cases bQ;exact ay (Le.refl _) av V;refine DD 35 bH (λb1 b2=>?_) (λb1 b3=>?_);refine C 3 V ?_;cases b2;exact aw (Le.refl _) aq V;refine C 3 V ?_;cases b3;exact aw (Le.refl _) aq V;refine DW 31 bE (λb4 b5=>?_) (λb4 b6=>?_);refine C 3 V ?_;cases b5;exact ar (Le.refl _) ao V;refine C 3 V ?_;cases b6;exact ar (Le.refl _) ao V
def MQ(fuel:Nat)(U:((List Int)×(List (List Int))×Int×(List (List (Int×Bool))))×(Cc))(O:(List (Int×Int×Bool))×Int×Int)(K:(List (Int×Int×Int))×Int):Option (Bl ((List (Int×Int×Int))×Int) ((List (Int×Int×Int)))):=
 if K.2<((O.1).length:Int) then(
  (ix O.1 (K.2)).bind λY=>
  Option.bind (
   if 0<=Y.1 then(
    (AG (K.2+1)).bind λZ=>
    (ix U.1.2.2.2 (K.2)).bind λaa=>
    (CJ K.1 ([(Z,0,((aa).length:Int))]:List (Int×Int×Int))).bind λab=>
    some ab
   ) else(
    some K.1
   )
  ) λae=>
  (AG (K.2+1)).bind λag=>
  some (.more (ae,ag))
 ) else(
  some (.done K.1)
 )
def Nt(fuel:Nat)(p0:List Int):Option (Bool):=
 (f20 fuel p0).bind λab=>
 (Lt fuel ab 3 3).bind λO=>
 (Kp fuel O.1).bind λK=>
 Option.bind (
  if K.2.2≠0 then(
   some true
  ) else(
   some (decide (((K.1).length:Int)≠((O.1.2.2.2).length:Int)))
  )
 ) λae=>
 if ae=true then(
  some false
 ) else(
  if((K.1).length:Int)=0 then(
   Option.bind (
    if K.2.1=0 then(
     (Lc fuel).bind λag=>
     some ag
    ) else(
     some false
    )
   ) λah=>
   some ah
  ) else(
   (AG (((K.1).length:Int)+1)).bind λai=>
   (Jk ai ([]:List Int)).bind λZ=>
   Option.bind (iter (MQ fuel O K) fuel ([],0)) λU=>
   (f43 fuel (Z,U)).bind λY=>
   (f22 fuel (Z,U)).bind λaa=>
   Option.bind (
    if Y.2=0 then(
     some (decide (aa.2=0))
    ) else(
     some false
    )
   ) λaj=>
   Option.bind (
    if aj=true then(
     (AG (((K.1).length:Int)+1)).bind λak=>
     some (decide (((Y.1).length:Int)=ak))
    ) else(
     some false
    )
   ) λal=>
   Option.bind (
    if al=true then(
     (ix Y.1 (0)).bind λam=>
     some (decide (am=K.2.1))
    ) else(
     some false
    )
   ) λan=>
   Option.bind (
    if an=true then(
     (f26 fuel aa.1 U).bind λao=>
     some ao
    ) else(
     some false
    )
   ) λap=>
   Option.bind (
    if ap=true then(
     (Lc fuel).bind λaq=>
     some aq
    ) else(
     some false
    )
   ) λar=>
   some ar
  )
 )
theorem UX{E H:LH}{p0:List Int}(br:Ak rI E a1 c2 (p0))(aU:Nt fuel p0=some r):(FX Tryz.prog).ok (KZ Tryz.prog (λv _=>v=.bool r)) (G (Frame.enter Tryz.prog 3 ([.slice a1 (p0).length c2]:Lv_).toArray .normal) []) (mk E H []):=by
 refine T1 Tryz.func3 V V (f7 V) ?_;have bu:An E H [[]]:=trivial;unfold Nt at aU;let⟨eb,bv,bw⟩:=bs aU;refine C 7 V (C7 (Ym br bv) V V (A0 Tryz.func5 V) bu ?_);rintro _ ec _ ed ⟨ee,ef,eg,rfl,rfl,bx⟩ bz;let⟨eh,bA,bB⟩:=bs bw;refine C6 1 (XL bx bA) V V (A0 Tryz.func4 V) bz V ?_;rintro _ ei _ ej ⟨ek,el,em,en,eo,ep,er,et,rfl,rfl,bC,bD,aV,eu⟩ bE;refine BO bE JU λay bF=>?_;refine Bf 2 bF Dz λbG=>?_;refine Cw 2 bG V λew aq az bH=>C 3 V (Cu az I1 Dz V V ?_);let⟨U,bI,bJ⟩:=bs bB;refine C7 (RA (bC.Ad aq) (bD.Ad aq) (aV.Ad aq) bI) V V (A0 Tryz.func6 V) bH ?_;rintro _ aA _ aB ⟨ai,aj,rfl,rfl,bK⟩ aW;let⟨bL,bM,bN⟩:=bs bJ;refine C 14 V (GH [] (λL s=>∃(ak:LH),Jm aA H ak [] [(3,.pointer (some ⟨ay,0,none⟩)),(4,.slice ai (U.1).length aj),(5,iV U.2.1),(31,.bool bL)] L s) ?_ ?_);rintro _ _ ⟨ak,rfl,rfl,aC,aD⟩;refine JL.done (CI bN (λbO bP=>?_) (λbO bQ=>?_));refine C 4 V ?_;cases bP;exact Fj V (JO.end (v:=.bool false) V (by decide+kernel) Tryz.func3 V V V);refine C 5 V (JL.ln Tryz.underlying30 V V V ?_);refine C 2 V (AX bQ (λbR bS=>?_) (λbR bT=>?_));obtain⟨aX,bU,bV⟩:=bs bS;refine C 5 V (CP 5 1 [] [(39,.bool aX)] (λex ey ez=>?_) (λaY=>?_));refine C 2 V ?_;obtain rfl:=oi bV;exact Fj V (JO.end (v:=.bool aX) V (by decide+kernel) Tryz.func3 V V V);refine DW 37 bU (λbW bY=>?_) (λbW bZ=>?_);let⟨eA,b0,b1⟩:=bs bY;refine CX (Rl b0) V V (A0 Tryz.func7 V) aD λeB b2 b3=>C 1 V ?_;cases b1;exact aY b2 b3 V;refine C 2 V ?_;cases bZ;exact aY (Le.refl _) aD V;refine C 4 V (JL.ln Tryz.underlying30 V V V ?_);let⟨eC,b4,b5⟩:=bs bT;refine Bi b4 V V V ?_;let⟨K,b6,b7⟩:=bs b5;refine JS.make (pp:=(rL rI)) b6 V V V V V Tryz.underlying23 CO (Cy Tryz.type22) (by decide) HY (by decide) ⟨_,_,V,Ak.nil⟩ aD λaa aE b8 b9=>As (v:=.agg #[.slice (some ⟨aa,0,none⟩) (K).length (K).length,.slice none 0 0]) V (λρ h=>BB [(0,1),(1,1)] h NH Tryz.underlying37 ⟨V,AB Tryz.type23,V,AB Tryz.type35,trivial⟩ V V) (BO b9 NH λO ca=>?_);refine Bf 1 ca G6 λcb=>?_;let⟨Z,cc,cd⟩:=bs b7;refine C 6 V (BF (λL s=>∃(aF:LH) (ab:Ao) (ae:Nat) (aG:Seg),Jn ak H aF [aE,[(O,.cells #[.slice (some ⟨aa,0,none⟩) (K).length (K).length,.slice ab (Z).length ae] 37 (0,0))],aG] [(4,.slice ai (U.1).length aj),(5,iV U.2.1),(7,.pointer (some ⟨O,0,none⟩))] L s (OL 42 (rP rI Cp) aF ab ae aG (Z))) ?_ ?_);rintro _ _ ⟨aF,ab,ae,aG,rfl,rfl,ce,aZ,cf⟩;refine C 2 V (As V (λρ h=>HC (vs:=[.slice (some ⟨aa,0,none⟩) (K).length (K).length,.slice ab (Z).length ae]) JH G6 (h _ _ V) (Gg (off:=0) 1 aZ V V)) ?_);refine Cj 0 (b8.Ad ce) aZ V λeD cg a0 ci=>Cj 2 (cf.Ad cg) ci V λeE a2 aH ck=>?_;let⟨a3,cm,cn⟩:=bs cd;refine C7 (Yp (p0:=(K,Z)) (a0.Ad a2) aH cm) V V (A0 Tryz.func8 V) ck ?_;rintro _ eF _ aI ⟨a4,a5,rfl,rfl,co⟩ a6;refine C 8 V (As V (λρ h=>HC (vs:=[.slice (some ⟨aa,0,none⟩) (K).length (K).length,.slice ab (Z).length ae]) JH G6 (h _ _ V) (Gg (off:=0) 1 a6 V V)) ?_);let⟨aJ,cp,cq⟩:=bs cn;refine C7 (RU (p0:=(K,Z)) (a0.Ad (a2.trans aI)) (aH.Ad aI) cp) V V (A0 Tryz.func9 V) a6 ?_;rintro _ eG _ a7 ⟨aK,aL,rfl,rfl,cr⟩ a8;let⟨ct,cu,cv⟩:=bs cq;refine C 11 V (CP 6 25 [[(O,.cells #[.slice (some ⟨aa,0,none⟩) (K).length (K).length,.slice ab (Z).length ae] 37 (0,0))]] [(4,.slice ai (U.1).length aj),(5,iV U.2.1),(7,.pointer (some ⟨O,0,none⟩)),(9,.slice a4 (a3.1).length a5),(11,.slice aK (aJ.1).length aL),(86,.bool ct)] (λeH aM a9=>?_) (λba=>?_));let⟨cw,cy,cz⟩:=bs cv;refine C 1 V (CP 14 17 [[(O,.cells #[.slice (some ⟨aa,0,none⟩) (K).length (K).length,.slice ab (Z).length ae] 37 (0,0))]] [(5,iV U.2.1),(7,.pointer (some ⟨O,0,none⟩)),(9,.slice a4 (a3.1).length a5),(11,.slice aK (aJ.1).length aL),(94,.bool cw)] (λeI aN bb=>?_) (λbe=>?_));let⟨cA,cB,cC⟩:=bs cz;refine C 1 V (CP 21 10 [[(O,.cells #[.slice (some ⟨aa,0,none⟩) (K).length (K).length,.slice ab (Z).length ae] 37 (0,0))]] [(7,.pointer (some ⟨O,0,none⟩)),(11,.slice aK (aJ.1).length aL),(101,.bool cA)] (λeJ bf aO=>?_) (λbg=>?_));let⟨cD,cE,cF⟩:=bs cC;refine C 1 V (CP 27 4 [] [(107,.bool cD)] (λeK eL bh=>?_) (λbi=>?_));let⟨bj,cG,cH⟩:=bs cF;refine C 1 V (CP 30 1 [] [(110,.bool bj)] (λeM eN eO=>?_) (λbl=>?_));refine C 2 V ?_;obtain rfl:=oi cH;exact Fj V (JO.end (v:=.bool bj) V (by decide+kernel) Tryz.func3 V V V);refine DD 108 cG (λcI cJ=>?_) (λcI cK=>?_);let⟨eP,cM,cN⟩:=bs cJ;refine CX (Rl cM) V V (A0 Tryz.func7 V) bh λeQ cO cP=>C 1 V ?_;cases cN;exact bl cO cP V;refine C 2 V ?_;cases cK;exact bl (Le.refl _) bh V;refine DD 102 cE (λcQ cR=>?_) (λcQ cT=>?_);refine C 1 V (Bg Tryz.underlying37 I4 V V V ?_);refine As (v:=.slice ab (Z).length ae) V (λρ h=>Yl.load KD (h _ _ V) (Be (j:=0) (off:=1) aO V V)) ?_;obtain⟨eR,cV,cW⟩:=bs cR;refine CX (RY (cr.Ad ((aM.trans aN).trans bf)) (aH.Ad ((((aI.trans a7).trans aM).trans aN).trans bf)) cV) V V (A0 Tryz.func10 V) aO λeS cX cY=>C 1 V (JS.drop 0 cY V λcZ=>?_);cases cW;exact bi cX cZ V;refine C 5 V (JS.drop 0 aO V λc0=>?_);cases cT;exact bi (Le.refl _) c0 V;refine DD 95 cB (λc3 c4=>?_) (λc3 c5=>?_);let⟨eT,c6,c7⟩:=bs c4;refine C 1 V (JS.ix (co.Ad ((a7.trans aM).trans aN)) c6 Tryz.underlying22 AE ?_);rintro eU eV _ rfl c8;refine Bu 0 c8 AJ V V V (C 3 V ?_);cases c7;exact bg (Le.refl _) bb V;refine C 6 V ?_;cases c5;exact bg (Le.refl _) bb V;refine DD 87 cy (λc9 da=>?_) (λc9 db=>?_);refine C 1 V (JL.ln Tryz.underlying22 V V V ?_);refine C 1 V (JL.ln Tryz.underlying30 V V V ?_);let⟨eW,dc,dd⟩:=bs da;refine Bi dc V V V (C 2 V ?_);cases dd;exact be (Le.refl _) a9 V;refine C 7 V ?_;cases db;exact be (Le.refl _) a9 V;refine DW 83 cu (λde df=>?_) (λde dg=>?_);refine C 3 V ?_;cases df;exact ba (Le.refl _) a8 V;refine C 3 V ?_;cases dg;exact ba (Le.refl _) a8 V;intro dh;refine JL.block (Es cc (λL s al=>∃(ah:LH) (am:Ao) (an:Nat) (ao:Seg),Jn ak H ah [aE,[(O,.cells #[.slice (some ⟨aa,0,none⟩) (K).length (K).length,.slice am (al.1).length an] 37 (0,0))],ao] [(3,.pointer (some ⟨ay,0,none⟩)),(4,.slice ai (U.1).length aj),(5,iV U.2.1),(7,.pointer (some ⟨O,0,none⟩)),(8,iV al.2)] L s (OL 42 (rP rI Cp) ah am an ao (al.1))) ⟨ak,none,0,[],V,V,(Le.refl _),cb,OL.nil⟩ ?_);rintro _ _ al ⟨ah,am,an,ao,rfl,rfl,ap,ag,aP⟩ di ⟨eX,aQ⟩ dj;have bm:=aQ;unfold MQ at bm;refine C 5 V (JL.ln Tryz.underlying30 V V V ?_);refine C 2 V (AX bm (λdk dl=>?_) (λdk dm=>?_));let⟨eY,dn,dp⟩:=bs dl;refine C 7 V (JS.ix (bK.Ad (aC.trans ap)) dn Tryz.underlying30 Ec ?_);rintro eZ e0 _ ⟨_,_,rfl,rfl,⟨_,_,rfl,rfl,rfl⟩⟩ dq;refine Br 0 dq Tryz.underlying39 AE AJ ?_;let⟨aR,dr,dt⟩:=bs dp;refine C 2 V (BF (λL s=>∃(ar:LH) (au:Ao) (av:Nat) (aw:Seg),Jn ah H ar [aE,[(O,.cells #[.slice (some ⟨aa,0,none⟩) (K).length (K).length,.slice au (aR).length av] 37 (0,0))],aw] [(3,.pointer (some ⟨ay,0,none⟩)),(4,.slice ai (U.1).length aj),(5,iV U.2.1),(7,.pointer (some ⟨O,0,none⟩)),(8,iV al.2)] L s (OL 42 (rP rI Cp) ar au av aw (aR))) ?_ ?_);rintro _ _ ⟨ar,au,av,aw,rfl,rfl,du,dv,dw⟩;let⟨dx,dy,dz⟩:=bs dt;refine C 3 V (Bi dy V V V ?_);refine C 2 V ?_;cases dz;exact AP (dj _ _ (aR,dx) ⟨ar,au,av,aw,V,V,(ap.trans du),dv,dw⟩ aQ) V;intro bn;refine AX dr (λdA dB=>?_) (λdA dC=>?_);refine Gn 12 [O] ⟨⟨1,_,V⟩,trivial⟩ ag λY=>BT 0 Y Tryz.underlying37 I4 V V V V (Hi 1 Y 1 1 ag KD ?_);refine Ct 2 Y V V ?_;let⟨aS,dD,dE⟩:=bs dB;refine AZ 3 Y V V (λρ h s' bo=>Jc (h _ _ V) (h _ _ V) dD) (BT 4 Y Tryz.underlying26 Ds V V V V ?_);refine JG.lp 5 Y 3 (az.Ad ((aB.trans aC).trans ap)) ag ⟨⟨1,_,V⟩,trivial⟩ EG ?_;refine Ct 6 Y V V ?_;let⟨aT,dF,dG⟩:=bs dE;refine FJ 7 (aV.Ad (((aq.trans aB).trans aC).trans ap)) dF Y Tryz.underlying24 EH ?_;rintro e1 e3 _ ⟨e4,e5,rfl,e6⟩ dH;refine JG.lp 8 Y 0 dH ag ⟨⟨1,_,V⟩,trivial⟩ I0 ?_;refine AZ 9 Y V V (λρ h s' bo=>Yl.len V Tryz.underlying40 (h _ _ V)) (AZ (v:=.agg #[iV aS,iV 0,iV ((aT).length:Int)]) 10 Y V V (λρ h s' bo=>BB [(0,1),(1,1),(2,1)] h BU Tryz.underlying42 ⟨V,AB Tryz.type3,V,AB Tryz.type3,V,AB Tryz.type3,trivial⟩ V V) ?_);refine JG.one (i:=11) V (by decide+kernel) (Take.lit (pp:=(rP rI Cp)) (jp:=1) [.agg #[iV aS,iV 0,iV ((aT).length:Int)]] ([(aS,0,((aT).length:Int))]:List (Int×Int×Int)) ag V V V V Tryz.underlying35 BA BU (by decide) V V V ⟨⟨_,_,V,V,⟨_,_,V,V,V⟩⟩,trivial⟩ λe7 e8 dI dJ=>?_);refine BY [12,13,14] (Cj 3 dI dJ V λdK bp dL dM=>?_);let⟨e9,dN,dO⟩:=bs dG;refine G9 (pp:=(rP rI Cp)) 2 dN V V V V V V V Tryz.underlying35 Tryz.underlying35 BA (Cy Tryz.type42) BU V (by decide) (by decide) (aP.Ad bp) dL dM V λdQ dR dS dT dU=>Bg Tryz.underlying37 I4 V V V (Bf 1 dU I4 λdV=>?_);refine JL.done ?_;cases dO;exact AP (bn _ _ ⟨dK,dQ,dR,dS,V,V,bp,dV,dT⟩) V;refine JL.skip ?_;cases dC;exact AP (bn _ _ ⟨ah,am,an,ao,V,V,(Le.refl _),ag,aP⟩) V;refine JL.exit V ?_;cases dm;obtain rfl:=di _ aQ;exact AP (dh _ _ ⟨ah,am,an,ao,V,V,ap,ag,aP⟩) V;intro bq;refine DW 24 bM (λdW dX=>?_) (λdW dY=>?_);refine C 7 V (JS.drop 1 aW V λdZ=>?_);cases dX;exact AP (bq _ _ ⟨aA,V,V,(Le.refl _),dZ⟩) V;refine C 1 V (JL.ln Tryz.underlying30 V V V ?_);refine Br 3 (az.Ad aB) Tryz.underlying26 Ds EG ?_;refine JL.ln Tryz.underlying24 V V V (C 2 V ?_);refine JS.drop 1 aW V λea=>?_;cases dY;exact AP (bq _ _ ⟨aA,V,V,(Le.refl _),ea⟩) V
end Pal
namespace Pal
def A4{α:Type}(o:Option α)(Q:α->Prop):Prop:=∃a,o=some a/\Q a
variable {α β:Type}{Q R:α->Prop}
theorem Am{a:α}(h:Q a):A4 (some a) Q:=⟨a,V,h⟩
theorem A4.Ad{o:Option α}(h:A4 o R)(k:∀a,R a->Q a):A4 o Q:=let ⟨a,K,O⟩:=h;⟨a,K,k a O⟩
theorem A4.of_eq{o:Option α}{a:α}(h:o=some a)(k:Q a):A4 o Q:=⟨a,h,k⟩
theorem AK{o:Option β}{f:β->Option α}{S:β->Prop}(h:A4 o S)(k:∀b,S b->A4 (f b) Q):A4 (o.bind f) Q:=by
 obtain⟨b,rfl,hb⟩:=h;let⟨a,K,O⟩:=k b hb;exact⟨a,K,O⟩
theorem Bb{o:Option β}{f:β->Option α}{b:β}(h:o=some b)(k:A4 (f b) Q):A4 (o.bind f) Q:=by subst h;exact k
theorem A4.YZ{f:Int->Option α}{x:Int}(K: -9223372036854775808<=x)(O:x<=9223372036854775807)(k:A4 (f x) Q):A4 ((AG x).bind f) Q:=Bb (d5 ⟨K,O⟩) k
theorem IJ{xs:List β}{i:Int}{m:Nat}{b:β}(h:i=(m:Int))(hb:xs[m]?=some b):ix xs i=some b:=by subst h;simpa [ix] using hb
theorem Rv{xs:List β}{m:Nat}(h:m<xs.length):ix xs (m:Int)=some xs[m]:=IJ V (d3 h)
theorem Bm{f:β->Option α}{xs:List β}{i:Int}{m:Nat}(h:i=(m:Int))(hm:m<xs.length)(k:A4 (f xs[m]) Q):A4 ((ix xs i).bind f) Q:=Bb (IJ h (d3 hm)) k
theorem KQ{f:List β->Option α}{xs:List β}{x:β}(h:xs.length+1<=2^40)(k:A4 (f (xs++ [x])) Q):A4 ((room xs x).bind f) Q:=Bb (d5 h) k
variable{c:Prop}
theorem Bh [Decidable c] {x y:Option α}(K:c->A4 x Q)(O:¬c->A4 y Q):A4 (if c then x else y) Q:=by
 by_cases h:c;rw[d5 h];exact K h;rw[d7 h];exact O h
theorem BI [Decidable c] {x y:Option α}(h:c)(k:A4 x Q):A4 (if c then x else y) Q:=by rw[d5 h];exact k
theorem Bj [Decidable c] {x y:Option α}(h:¬c)(k:A4 y Q):A4 (if c then x else y) Q:=by rw[d7 h];exact k
def Bl.sat{S A:Type}(I:S->Prop)(Q:A->Prop):Bl S A->Prop
 | .more s=>I s
 | .done a=>Q a
theorem J3{S:Type}{body:S->Option (Bl S α)}(I:Nat->S->Prop)(round:∀m s,I m s->A4 (body s) (Bl.sat (λs'=>∃m',m'<m/\I m' s') Q)):
  ∀{m fuel:Nat}{s:S},I m s->m<fuel->A4 (iter body fuel s) Q:=by
 intro m
 induction m using Nat.strongRecOn with
 | _ m O=>
  intro fuel s U ab;obtain⟨fuel,rfl⟩:∃k,fuel=k+1:=⟨fuel - 1,by omega⟩;let⟨st,Y,K⟩:=round m s U;unfold Pal.iter;rw[Y];cases st with
  | more s'=>
   obtain⟨m',Z,aa⟩:=K;exact O m' Z aa (by omega)
  | done a=>exact⟨a,rfl,K⟩
def f92(fuel:Nat)(p0:Int)(p1:Int)(p2:Int):Option (Bool):=
 Option.bind (
  if p1<=p0 then(
   some (decide (p0<=p2))
  ) else(
   some false
  )
 ) λK=>
 some K
def f88(fuel:Nat)(p0:Int)(p1:Int×Int×Int)(p2:Int):Option (Int):=
 (AG (p0 - 1)).bind λK=>
 (f92 fuel p1.1 0 K).bind λO=>
 Option.bind (
  if(!O)=true then(
   some true
  ) else(
   (AG (p0 - 1)).bind λU=>
   (f92 fuel p1.2.1 0 U).bind λY=>
   some (!Y)
  )
 ) λZ=>
 if Z=true then(
  some 3
 ) else(
  if p1.1=p1.2.1 then(
   some 8
  ) else(
   (f92 fuel p1.2.2 1 p2).bind λaa=>
   if(!aa)=true then(
    some 1
   ) else(
    some 0
   )
  )
 )
def K4(fuel:Nat)(p0:(List (List Int))×(List (Int×Int×Int)))(O:Int)(K:Int):Option (Bl (Int) ((Int)⊕(Unit))):=
 (ix p0.1 (O)).bind λU=>
 if K<((U).length:Int) then(
  (ix p0.1 (O)).bind λY=>
  (ix Y (K)).bind λZ=>
  (f92 fuel Z 1 9).bind λaa=>
  if(!aa)=true then(
   some (.done (Sum.inl 1))
  ) else(
   (AG (K+1)).bind λab=>
   some (.more ab)
  )
 ) else(
  some (.done (Sum.inr ()))
 )
def K6(fuel:Nat)(p0:(List (List Int))×(List (Int×Int×Int)))(K:Int):Option (Bl (Int) ((Int)⊕(Unit))):=
 if K<((p0.1).length:Int) then(
  (ix p0.1 (K)).bind λO=>
  if 3<((O).length:Int) then(
   some (.done (Sum.inl 6))
  ) else(
   Option.bind (iter (K4 fuel p0 K) fuel 0) λU=>
   Sum.elim (λr=>some (.done (Sum.inl r))) (λZ=>
   (AG (K+1)).bind λY=>
   some (.more Y)
   ) U
  )
 ) else(
  some (.done (Sum.inr ()))
 )
def OM(fuel:Nat)(p0:(List (List Int))×(List (Int×Int×Int)))(K:Int):Option (Bl (Int) ((Int)⊕(Unit))):=
 if K<((p0.2).length:Int) then(
  (ix p0.2 (K)).bind λU=>
  (f88 fuel ((p0.1).length:Int) U 9).bind λO=>
  if O≠0 then(
   some (.done (Sum.inl O))
  ) else(
   (AG (K+1)).bind λY=>
   some (.more Y)
  )
 ) else(
  some (.done (Sum.inr ()))
 )
def f48(fuel:Nat)(p0:(List (List Int))×(List (Int×Int×Int))):Option (Int):=
 if((p0.1).length:Int)<2 then(
  some 7
 ) else(
  if 5<((p0.1).length:Int) then(
   some 6
  ) else(
   Option.bind (iter (K6 fuel p0) fuel 0) λK=>
   Sum.elim (λr=>some r) (λU=>
   if 8<((p0.2).length:Int) then(
    some 6
   ) else(
    Option.bind (iter (OM fuel p0) fuel 0) λO=>
    Sum.elim (λr=>some r) (λY=>
    some 0
    ) O
   )
   ) K
  )
 )
variable{A:Type}{F:Nat}
theorem Cq{S:Type}{body:S->Option (Bl S A)}{Q:A->Prop}{K:S}(n:Nat)(I:Nat->S->Prop)(Y:I 0 K)(aa:n<F)
  (round:∀i s,i<n->I i s->A4 (body s) (Bl.sat (I (i+1)) Q)) (last:∀s,I n s->A4 (body s) (λst=>∃a,st=.done a/\Q a)):A4 (Pal.iter body F K) Q:=by
 refine J3 (λm s=>∃i,i<=n/\m=n - i/\I i s) ?_ (m:=n - 0) ⟨0,mz _,V,Y⟩ (by omega);rintro m s ⟨i,hi,rfl,O⟩;rcases lb i n with Z | ab
 .refine(round i s Z O).Ad ?_;intro st U;cases st with
  | more s'=>exact⟨n - (i+1),by omega,i+1,by omega,rfl,U⟩
  | done a=>exact U
 .obtain rfl:i=n:=by omega
  refine(last s O).Ad ?_;rintro st ⟨a,rfl,h⟩;exact h
theorem De{α:Type}{o:Option α}{a:α}(h:A4 o (λx=>x=a)):o=some a:=by obtain⟨x,K,rfl⟩:=h;exact K
theorem A1{α:Type}{Q:α->Prop}{f:Int->Option α}{x:Int}(y:Int)(h:x=y)(K: -9223372036854775808<=y)(O:y<=9223372036854775807)(k:A4 (f y) Q):A4 ((AG x).bind f) Q:=by subst h;exact A4.YZ K O k
theorem A4.JC{α β:Type}{Q:α->Prop}{f:List β->Option α}{xs ys:List β}(h:xs.length+ys.length<1000)(k:A4 (f (xs++ys)) Q):A4 ((CJ xs ys).bind f) Q:=Bb (by unfold CJ;rw[d5 (by omega)]) k
abbrev GX:=List Int×Int×Nat
def BG(k:Nat)(b:GX):Prop:=0<=b.2.1/\b.2.1<=(k:Int)
variable{b:GX}
theorem BG.Ad{k k':Nat}(h:BG k b)(K:k<=k'):BG k' b:=⟨h.1,by have:=h.2;omega⟩
theorem Yb{k:Nat}(hb:BG k b)(K:k<1000000):A4 (f83 F b) (λr=>r.1<2^64/\BG (k+1) r.2):=by
 obtain⟨O,U⟩:=hb;unfold f83;refine A1 (b.2.1+1) V (by omega) (by omega) ?_;have key:∀x:Nat,(x%2^64)>>>11<2^64:=λx=>Nat.lt_of_le_of_lt (Nat.shiftRight_le _ _) (nP _ (Nat.two_pow_pos 64));refine AK (S:=λ_=>True) ?_ ?_;refine Bh (λh=>?_) (λh=>?_);refine A1 b.2.1 (by omega) (by omega) (by omega) (Bm (m:=b.2.1.toNat) (by omega) (by omega) ?_);exact Am trivial;exact Am trivial;intro x _;exact Am ⟨key _,by simp only;omega,by simp only;omega⟩
theorem TO{a:Nat}(h:a<2^62):LO a=(a:Int):=by
 unfold LO;exact H5 (by omega)
theorem Kc{k:Nat}{m:Int}(hb:BG k b)(O:k<1000000)(hm:m<1000000):A4 (f36 F b m) (λr=>0<=r.1/\(r.1<=m∨r.1=0)/\BG (k+1) r.2):=by
 unfold f36;refine AK (Yb hb O) ?_;rintro⟨x,Z⟩ ⟨aa,K⟩;refine Bh (λh=>?_) (λh=>?_);exact Am ⟨by simp,.inr V,K⟩
 .have U:CK m=m.toNat:=by unfold CK;omega
  have e2:(CK m+1)%2^64=m.toNat+1:=by rw[U];omega
  have Y:x%(m.toNat+1)<m.toNat+1:=nP _ (by omega);refine Bb (b:=x%(m.toNat+1)) (by rw[e2];unfold Na;rw[d7 (by omega)]) ?_;refine Am ?_;simp only;generalize x%(m.toNat+1)=z at Y ⊢;rw[TO (by omega)];exact⟨by omega,.inl (by omega),K⟩
theorem RD{k:Nat}{lo hi:Int}(hb:BG k b)(O:k<1000000)(Y:0<=lo)(Z:lo<=hi)(aa:hi<1000):A4 (f37 F b lo hi) (λr=>lo<=r.1/\r.1<=hi/\BG (k+1) r.2):=by
 unfold f37;refine A1 (hi - lo) V (by omega) (by omega) (AK (Kc hb O (by omega)) ?_);rintro⟨x,ab⟩ ⟨U,g2,K⟩;simp only at U g2 K ⊢;exact A1 (lo+x) V (by omega) (by omega) (Am ⟨by simp only;omega,by simp only;omega,K⟩)
theorem OR{k:Nat}{m:Int}(hb:BG k b)(K:k<1000000)(U:1<=m)(Y:m<1000):A4 (f32 F b m) (λr=>BG (k+1) r.2):=by
 unfold f32;refine A1 (m - 1) V (by omega) (by omega) (AK (Kc hb K (by omega)) ?_);rintro⟨x,Z⟩ ⟨aa,g2,O⟩;exact Am O
variable{l:List Int}
theorem MZ{k:Nat}(hb:BG k b)(U:k<1000000)(Z:0<l.length)(aa:l.length<1000):A4 (f81 F b l) (λr=>r.1∈l/\BG (k+1) r.2):=by
 unfold f81;refine A1 ((l.length - 1:Nat):Int) (by omega) (by omega) (by omega) (AK (Kc hb U (by omega)) ?_);rintro⟨x,ab⟩ ⟨Y,g2,K⟩;simp only at Y g2 K ⊢;have O:x.toNat<l.length:=by omega
 exact Bm (m:=x.toNat) (by omega) O (Am ⟨k7 O,K⟩)
abbrev DT:=Int×Int×Int
abbrev OW:=List (List Int)×List DT
structure NV (n:Nat) (o:OW):Prop where
 l1:o.1.length<=n
 n1:∀x∈o.1,x.length<=n
 l2:o.2.length<=n
theorem X8{l:List DT}(K:100<F)(O:l.length<=40):f26 F l l=some true:=by
 refine De ?_;unfold f26;refine AK (S:=λq=>q=Sum.inr ()) ?_ (by rintro q rfl;exact Am (by simp));refine Cq l.length (λi s=>s=(i:Int)) V (by omega) ?_ ?_;rintro i s hi rfl;unfold M5;refine AK (S:=λc=>c=true) (BI (by omega) (Am (mn (by omega)))) ?_;rintro c rfl;refine BI V (Bm (m:=i) V hi ?_);refine Bm (m:=i) V hi (Bj (by simp) ?_);exact A1 ((i+1:Nat):Int) (by simp) (by omega) (by omega) (Am V);rintro s rfl;unfold M5;refine AK (S:=λc=>c=false) (Bj (by omega) (Am V)) ?_;rintro c rfl;exact Bj (by simp) (Am ⟨_,V,V⟩)
theorem M0(F:Nat)(a lo hi:Int):f92 F a lo hi=some (decide (lo<=a/\a<=hi)):=by
 unfold f92;by_cases h:lo<=a;rw[d5 h];simp[h];rw[d7 h];simp[h]
variable{o:OW}
theorem U3{i:Int}(h:ix o.1 i=some l):MV F l=K4 F o i:=by
 funext j;unfold MV K4;rw[h];rfl
theorem UK(F:Nat)(o:OW):MX F o=K6 F o:=by
 funext i;unfold MX K6;split;rcases h:ix o.1 i with _ | l;rfl;simp only[Option.bind_some];rw[U3 h];rfl
theorem XT(F:Nat)(o:OW):f47 F o=f48 F o:=by
 unfold f47 f48;rw[UK];rfl
def VD(n:Nat)(d:DT):Prop:=0<=d.1/\d.1<(n:Int)/\0<=d.2.1/\d.2.1<(n:Int)/\d.1≠d.2.1/\1<=d.2.2/\d.2.2<=9
def CS(x:List Int):Prop:=x.length<=3/\∀c∈x,1<=c/\c<=9
structure VO (o:OW):Prop where
 n2:2<=o.1.length
 n5:o.1.length<=5
 cs:∀x∈o.1,CS x
 d8:o.2.length<=8
 ds:∀d∈o.2,VD o.1.length d
theorem VO.nv(h:VO o):NV 40 o:=⟨by have:=h.n5;omega,λx K=>by have:=(h.cs x K).1;omega,by have:=h.d8;omega⟩
variable{i:Nat}
theorem OF{α:Type}{P:α->Prop}{l:List α}(hi:i<l.length)(h:∀x∈l.take i,P x)(k:P l[i]):∀x∈l.take (i+1),P x:=by
 intro x K;rw[lS,d3 hi] at K;simp only[mW,lm,mJ] at K;rcases K with K | rfl;exact h x K;exact k
variable{d:DT}{n:Nat}
theorem Xq(Y:n<1000):A4 (f88 F (n:Int) d 9) (λr=>r=0↔VD n d):=by
 unfold f88;refine A1 ((n:Int) - 1) V (by omega) (by omega) (Bb (M0 _ _ _ _) ?_);refine AK (S:=λc=>c=true↔¬((0<=d.1/\d.1<(n:Int))/\0<=d.2.1/\d.2.1<(n:Int))) ?_ ?_;refine Bh (λh=>Am ?_) (λh=>?_);simp at h;simp;omega;refine A1 ((n:Int) - 1) V (by omega) (by omega) (Bb (M0 _ _ _ _) ?_);refine Am ?_;simp at h;simp;omega
 .intro c O;refine Bh (λh=>Am ?_) (λh=>?_);have:=O.1 h;unfold VD;constructor;intro h;cases h;intro h;omega
  have Z:¬¬_:=λk=>h (O.2 k);refine Bh (λU=>Am ?_) (λU=>?_);unfold VD;constructor;intro h;cases h;intro h;omega
  refine Bb (M0 _ _ _ _) (Bh (λK=>Am ?_) (λK=>Am ?_));simp at K;unfold VD;constructor;intro h;cases h;intro h;omega;simp at K;unfold VD;constructor;intro h;omega;intro h;rfl
theorem WZ(Z:100<F)(h:NV 40 o):A4 (f48 F o) (λr=>r=0↔VO o):=by
 unfold f48;have aa:=h.l1;have ab:=h.l2;refine Bh (λg=>Am (nu (by decide) λv=>by have:=v.n2;omega)) (λae=>?_);refine Bh (λg=>Am (nu (by decide) λv=>by have:=v.n5;omega)) (λg2=>?_);refine AK (S:=λq=>(∃e,q=Sum.inl e/\e≠0/\¬∀x∈o.1,CS x)∨(q=Sum.inr ()/\∀x∈o.1,CS x)) ?_ ?_
 .refine Cq o.1.length (λi s=>s=(i:Int)/\∀x∈o.1.take i,CS x) ⟨V,by simp⟩ (by omega) ?_ ?_
  .rintro i s hi ⟨rfl,K⟩;unfold K6;refine BI (by omega) (Bm (m:=i) V hi ?_);have ag:=h.n1 _ (k7 hi);refine Bh (λg=>Am (.inl ⟨_,V,by decide,λk=>by have:=(k _ (k7 hi)).1;omega⟩)) (λah=>?_);refine AK (S:=λq=>(q=Sum.inl 1/\¬CS o.1[i])∨(q=Sum.inr ()/\CS o.1[i])) ?_ ?_
   .refine Cq o.1[i].length (λj s=>s=(j:Int)/\∀c∈o.1[i].take j,1<=c/\c<=9) ⟨V,by simp⟩ (by omega) ?_ ?_
    .rintro j s U ⟨rfl,O⟩;unfold K4;refine Bm (m:=i) V hi (BI (by omega) ?_);refine Bm (m:=i) V hi (Bm (m:=j) V U ?_);refine Bb (M0 _ _ _ _) (Bh (λg=>Am (.inl ⟨V,λk=>?_⟩)) (λg=>?_));have:=k.2 _ (k7 U);simp at g;omega
     refine A1 ((j+1:Nat):Int) (by simp) (by omega) (by omega) (Am ⟨V,OF U O ?_⟩);simpa using g
    .rintro s ⟨rfl,O⟩;unfold K4;refine Bm (m:=i) V hi ?_;rw[mb] at O;exact Bj (by omega) (Am ⟨_,V,.inr ⟨V,by omega,O⟩⟩)
   .rintro q (⟨rfl,g⟩ | ⟨rfl,g⟩);rw[Sum.elim_inl];exact Am (.inl ⟨_,V,by decide,λk=>g (k _ (k7 hi))⟩);rw[Sum.elim_inr];exact A1 ((i+1:Nat):Int) (by simp) (by omega) (by omega) (Am ⟨V,OF hi K g⟩)
  .rintro s ⟨rfl,K⟩;unfold K6;rw[mb] at K;exact Bj (by omega) (Am ⟨_,V,.inr ⟨V,K⟩⟩)
 .rintro q (⟨e,rfl,he,g⟩ | ⟨rfl,O⟩);rw[Sum.elim_inl];exact Am (nu he λv=>g v.cs);rw[Sum.elim_inr];refine Bh (λg=>Am (nu (by decide) λv=>by have:=v.d8;omega)) (λg2=>?_);refine AK (S:=λq=>(∃e,q=Sum.inl e/\e≠0/\¬∀d∈o.2,VD o.1.length d)∨(q=Sum.inr ()/\∀d∈o.2,VD o.1.length d)) ?_ ?_;refine Cq o.2.length (λi s=>s=(i:Int)/\∀d∈o.2.take i,VD o.1.length d) ⟨V,by simp⟩ (by omega) ?_ ?_;rintro i s hi ⟨rfl,K⟩;unfold OM;refine BI (by omega) (Bm (m:=i) V hi ?_);refine AK (Xq (by omega)) ?_;intro x Y;refine Bh (λg=>Am (.inl ⟨_,V,g,λk=>g (Y.2 (k _ (k7 hi)))⟩)) (λg=>?_);exact A1 ((i+1:Nat):Int) (by simp) (by omega) (by omega) (Am ⟨V,OF hi K (Y.1 (nm.1 g))⟩);rintro s ⟨rfl,K⟩;unfold OM;rw[mb] at K;exact Bj (by omega) (Am ⟨_,V,.inr ⟨V,K⟩⟩);rintro q (⟨e,rfl,he,g⟩ | ⟨rfl,g⟩);rw[Sum.elim_inl];exact Am (nu he λv=>g v.ds);rw[Sum.elim_inr];exact Am (iff_of_true V ⟨by omega,by omega,O,by omega,g⟩)
theorem Ya(K:100<F)(h:NV 40 o):A4 (f47 F o) (λr=>r=0↔VO o):=XT F o▸WZ K h
theorem YA(K:100<F)(h:VO o):f47 F o=some 0:=by
 let⟨r,O,U⟩:=Ya K h.nv;rw[O,U.2 h]
theorem RX(K:100<F)(h:VO o):f70 F o []=some (o,0):=by
 obtain⟨F,rfl⟩:∃k,F=k+1:=⟨F - 1,by omega⟩;unfold f70;rw[YA K h]
 rfl
abbrev PR:=Int×Int
def gN(l:List Int)(i:Nat):Int:=l.getD i 0
def Ko(l:List Int)(i v:Int):List Int:=l.set i.toNat (gN l i.toNat+v)
def BN(B:Int)(l:List Int):Prop:=l.length=5/\∀x∈l,-B<=x/\x<=B
theorem Rz(h:i<l.length):gN l i=l[i]:=by unfold gN;rw[nL,d3 h];rfl
variable{B:Int}
theorem BN.bd(h:BN B l)(hi:i<5): -B<=gN l i/\gN l i<=B:=by
 rw[Rz (by have:=h.1;omega)];exact h.2 _ (k7 _)
theorem BN.ix(h:BN B l){i:Int}(K:0<=i)(hi:i<5):ix l i=some (gN l i.toNat):=by
 have:=h.1;rw[Rz (show i.toNat<l.length by omega)];exact IJ (m:=i.toNat) (by omega) (d3 _)
theorem BN.Ad{C:Int}(h:BN B l)(O:B<=C):BN C l:=⟨h.1,λx K=>by have:=h.2 x K;omega⟩
theorem BN.add{V:Int}(h:BN B l){i v:Int}(O:0<=i)(hi:i<5)(U: -V<=v)(Y:v<=V):BN (B+V) (Ko l i v):=by
 have hb:=h.bd (i:=i.toNat) (by omega);refine⟨by unfold Ko;rw[l9];exact h.1,λx K=>?_⟩;rcases mK K with K | rfl;have:=h.2 x K;omega;omega
def Nl(l:List Int)(d:DT):List Int:=Ko (Ko l d.1 d.2.2) d.2.1 (-d.2.2)
def Sg(l:List Int)(d:DT):List Int:=Ko (Ko l d.2.1 d.2.2) d.1 (-d.2.2)
def Ch(o:OW):List Int:=o.2.foldl Sg (List.replicate 5 0)
theorem Q1(h:BN B l)(a1:0<=d.1)(O:d.1<5)(U:0<=d.2.1)(Y:d.2.1<5)(p1: -B<=d.2.2)(p2:d.2.2<=B)(Z:B<=1000000000000):Ll F l d=some (Nl l d)/\BN (3*B) (Nl l d):=by
 have K:=h.add a1 O p1 p2;have g2:=K.add U Y (show -B<= -d.2.2 by omega) (by omega);have k1:=h.bd (i:=d.1.toNat) (by omega);have aa:=K.bd (i:=d.2.1.toNat) (by omega);refine⟨?_,g2.Ad (by omega)⟩;refine De ?_;unfold Ll;refine Bb (h.ix a1 O) ?_;refine A1 _ V (by omega) (by omega) ?_;refine Bb (h.ix a1 O) ?_;refine Bb (K.ix U Y) ?_;refine A1 _ V (by omega) (by omega) ?_;refine Bb (K.ix U Y) ?_;exact Am V
theorem ON(aa:100<F)(h:VO o):f84 F o=some (Ch o)/\BN 200 (Ch o):=by
 have ab:=h.n5;have ae:=h.d8;have:A4 (f84 F o) (λr=>r=Ch o/\BN 200 r):=by
  unfold f84;refine AK (S:=λr=>r=Ch o/\BN 200 r) ?_ (λr U=>Am U);refine Cq o.2.length (λi s=>s.2=(i:Int)/\s.1=(o.2.take i).foldl Sg (List.replicate 5 0)/\BN (20*i) s.1) ⟨rfl,rfl,rfl,by simp⟩ (by omega) ?_ ?_
  .rintro i ⟨w,c⟩ hi ⟨K,hw,hb⟩;simp only at K hw hb;subst K;let⟨v1,v2,ag,v4,ah,v6,ai⟩:=h.ds _ (k7 hi);have O:=hb.add (i:=o.2[i].2.1) (v:=o.2[i].2.2) (V:=10) (by omega) (by omega) (by omega) (by omega);have g2:=O.add (i:=o.2[i].1) (v:= -o.2[i].2.2) (V:=10) (by omega) (by omega) (by omega) (by omega);have k1:=hb.bd (i:=o.2[i].2.1.toNat) (by omega);have aj:=O.bd (i:=o.2[i].1.toNat) (by omega);unfold MY;refine BI (by simp only;omega) (Bm (m:=i) rfl hi ?_);refine Bb (hb.ix (by omega) (by omega)) (A1 _ rfl (by omega) (by omega) ?_);refine Bb (hb.ix (by omega) (by omega)) (Bb (O.ix (by omega) (by omega)) ?_);refine A1 _ rfl (by omega) (by omega) (Bb (O.ix (by omega) (by omega)) ?_);refine A1 ((i+1:Nat):Int) (by simp) (by omega) (by omega) (Am ⟨rfl,?_,g2.Ad (by omega)⟩);simp only;rw[lS,d3 hi,nO,← hw]
   rfl
  .rintro⟨w,c⟩ ⟨K,hw,hb⟩;simp only at K hw hb;subst K;unfold MY;rw[mb] at hw;exact Bj (by simp) (Am ⟨_,rfl,hw,hb.Ad (by omega)⟩)
 obtain⟨r,Y,rfl,Z⟩:=this;exact⟨Y,Z⟩
theorem Ul(hi:i<l.length):(l.take (i+1)).sum=(l.take i).sum+l[i]:=by
 rw[lS,d3 hi,List.sum_append];simp only[mW,om,oo];omega
theorem W5(ab:100<F)(ae:l.length<=20)(hb:∀x∈l,-1000<=x/\x<=1000):f85 F l=some l.sum/\ -20000<=l.sum/\l.sum<=20000:=by
 have:A4 (f85 F l) (λr=>r=l.sum/\ -20000<=r/\r<=20000):=by
  unfold f85;refine AK (S:=λr=>r=l.sum/\ -20000<=r/\r<=20000) ?_ (λr Y=>Am Y);refine Cq l.length (λi s=>s.2=(i:Int)/\s.1=(l.take i).sum/\ -(1000*(i:Int))<=s.1/\s.1<=1000*(i:Int)) ⟨V,V,by simp,by simp⟩ (by omega) ?_ ?_;rintro i ⟨w,c⟩ hi ⟨K,hw,O,U⟩;simp only at K hw O U;subst K;have ag:=hb _ (k7 hi);unfold M6;refine BI (by simp only;omega) (Bm (m:=i) V hi ?_);refine A1 _ V (by omega) (by omega) (A1 ((i+1:Nat):Int) (by simp) (by omega) (by omega) ?_);refine Am ⟨V,?_,?_,?_⟩;simp only;rw[Ul hi,hw];simp only;omega;simp only;omega;rintro⟨w,c⟩ ⟨K,hw,O,U⟩;simp only at K hw O U;subst K;unfold M6;rw[mb] at hw;exact Bj (by simp) (Am ⟨_,V,hw,by simp only;omega,by simp only;omega⟩)
 obtain⟨r,Z,rfl,aa⟩:=this;exact⟨Z,aa⟩
def VP(n:Nat)(x:PR):Prop:=0<=x.1/\x.1<x.2/\x.2<(n:Int)
def Hk(b:Nat)(k:Nat):List PR:=(List.range k).map λa:Nat=>((a:Int),(b:Int))
def DV(n:Nat):List PR:=(List.range n).flatMap λb=>Hk b b
theorem Tt(b k:Nat):Hk b (k+1)=Hk b k++ [((k:Int),(b:Int))]:=by unfold Hk;rw[n7,lL];rfl
theorem SQ(n:Nat):DV (n+1)=DV n++Hk n n:=by unfold DV;rw[n7,List.flatMap_append];simp
theorem QI{x:PR}(h:x∈DV n):VP n x:=by
 unfold DV Hk at h;let⟨b,hb,h⟩:=nX.1 h;obtain⟨a,K,rfl⟩:=mr.1 h;have:=lO.1 hb;have:=lO.1 K;exact⟨by simp only;omega,by simp only;omega,by simp only;omega⟩
theorem QE(b k:Nat):(Hk b k).length=k:=by unfold Hk;simp
theorem PN(h:n<=5):(DV n).length<=10:=by
 have e:∀n,n<=5->(DV n).length<=n*2:=by
  intro n K
  match n,K with
  | 0,_ | 1,_ | 2,_ | 3,_ | 4,_ | 5,_=>decide
 have:=e n h;omega
theorem Ww(Z:100<F)(aa:o.1.length<=5):f133 F o=some (DV o.1.length):=by
 refine De ?_;unfold f133;refine AK (S:=λr=>r=DV o.1.length) ?_ (λr Y=>Am Y);refine Cq o.1.length (λi s=>s.2=(i:Int)/\s.1=DV i/\s.1.length<=10*i) ⟨V,V,by simp⟩ (by omega) ?_ ?_
 .rintro i ⟨w,c⟩ hi ⟨K,hw,U⟩;simp only at K hw U;subst K;unfold Mz;refine BI (by simp only;omega) (AK (S:=λr=>r=DV i++Hk i i) ?_ ?_)
  .refine Cq i (λa s=>s.2=(a:Int)/\s.1=DV i++Hk i a) ⟨V,by simp[Hk,hw]⟩ (by omega) ?_ ?_
   .rintro a ⟨v,c⟩ ab ⟨K,O⟩;simp only at K O;subst K;unfold MH;refine BI (by simp only;omega) (KQ ?_ ?_);rw[O,← hw,lr,QE];omega
    refine A1 ((a+1:Nat):Int) (by simp) (by omega) (by omega) (Am ⟨V,?_⟩);simp only;rw[Tt,O,ls]
   .rintro⟨v,c⟩ ⟨K,O⟩;simp only at K O;subst K;unfold MH;exact Bj (by simp) (Am ⟨_,V,O⟩)
  .rintro r rfl;refine A1 ((i+1:Nat):Int) (by simp) (by omega) (by omega) (Am ⟨V,(SQ i).symm,?_⟩);simp only;rw[lr,QE,← hw];omega
 .rintro⟨w,c⟩ ⟨K,hw,U⟩;simp only at K hw U;subst K;unfold Mz;exact Bj (by simp) (Am ⟨_,V,hw⟩)
def BJ(p:Int)(x:PR):Bool:=decide (x.1=p) || decide (x.2=p)
theorem Pr{α:Type}{p:α->Bool}:∀{l:List α}{a:Nat},l.countP p=1->∀O:a<l.length,p l[a]=true->l.findIdx p=a
 | x::xs,0,_,_,K=>by
  have K:p x=true:=K
  rw[List.findIdx_cons,K];rfl
 | x::xs,a+1,h,O,K=>by
  have K:p (xs[a]'(by simpa using O))=true:=K
  have Y:0<xs.countP p:=List.countP_pos_iff.2 ⟨_,k7 _,K⟩
  by_cases U:p x=true;rw[List.countP_cons_of_pos U] at h;omega;rw[List.countP_cons_of_neg U] at h;rw[List.findIdx_cons,nn.2 U];simp only[cond_false];rw[Pr h (by simpa using O) K]
def Jh(n:Nat)(l:List PR):Option Nat:=(List.range n).find? λp=>l.countP (BJ p)==1
def dP(p:Int)(x:PR)(m:Int):DT:=if 0<m then(x.1+x.2 - p,p,m) else(p,x.1+x.2 - p,-m)
def FK(n:Nat):Nat->List PR->List Int->List DT->Option (List DT)
 | 0,_,w,out=>if w=List.replicate 5 0 then some out else none
 | k+1,l,w,out=>(Jh n l).bind λp=>
   if gN w p=0 then none else
    FK n k (l.eraseIdx (l.findIdx (BJ p))) (Nl w (dP p (l.getD (l.findIdx (BJ p)) (0,0)) (gN w p))) (out++ [dP p (l.getD (l.findIdx (BJ p)) (0,0)) (gN w p)])
def Lp:Option (List DT)->Bool×List Int×List DT
 | none=>(true,default)
 | some out=>(false,List.replicate 5 0,out)
theorem TS{l:List PR}{p:Int}(ag:100<F)(ah:l.length<=20):A4 (Pal.iter (KY F l p) F (0,0,0)) (λr=>r.2=((l.countP (BJ p):Nat):Int)/\(r.2=1->r.1=(l.findIdx (BJ p):Nat)/\l.findIdx (BJ p)<l.length)):=by
 refine Cq l.length (λi s=>s.2.2=(i:Int)/\s.2.1=(((l.take i).countP (BJ p):Nat):Int)/\(s.2.1≠0->∃a,s.1=((a:Nat):Int)/\∃h:a<l.length,BJ p l[a]=true)) ⟨V,by simp,by simp⟩ (by omega) ?_ ?_
 .rintro i ⟨a,m,c⟩ hi ⟨K,hm,O⟩;simp only at K hm O;subst K;have hle:(l.take i).countP (BJ p)<=i:=by
   refine mB List.countP_le_length ?_;rw[nY];omega
  unfold KY;refine BI (by simp only;omega) (Bm (m:=i) V hi ?_);refine AK (S:=λc=>c=BJ p l[i]) ?_ ?_;unfold BJ;refine Bh (λh=>Am (by simp[h])) (λh=>Am (by simp[h]))
  rintro c rfl;have key:(l.take (i+1)).countP (BJ p)=(l.take i).countP (BJ p)+if BJ p l[i]=true then 1 else 0:=by
   rw[lS,d3 hi,List.countP_append];simp only[mW,List.countP_cons,List.countP_nil,mD]
  refine AK (S:=λr=>r.2=(((l.take (i+1)).countP (BJ p):Nat):Int)/\(r.2≠0->∃a,r.1=((a:Nat):Int)/\∃h:a<l.length,BJ p l[a]=true)) ?_ ?_;refine Bh (λh=>?_) (λh=>?_);refine A1 (((l.take (i+1)).countP (BJ p):Nat):Int) ?_ (by omega) ?_ (Am ⟨V,λ_=>⟨i,V,hi,h⟩⟩);rw[key,d5 h,hm];rfl;rw[key,d5 h];omega;exact Am ⟨by rw[key,d7 h];exact hm,O⟩;rintro⟨ai,m'⟩ ⟨U,Y⟩;simp only at U Y ⊢;exact A1 ((i+1:Nat):Int) (by simp) (by omega) (by omega) (Am ⟨V,U,Y⟩)
 .rintro⟨a,m,c⟩ ⟨K,hm,O⟩;simp only at K hm O;subst K;rw[mb] at hm;unfold KY;refine Bj (by simp) (Am ⟨_,V,hm,λaa=>?_⟩);simp only at aa;obtain⟨k,ab,Z,ae⟩:=O (by omega);have:=Pr (p:=BJ p) (l:=l) (a:=k) (by omega) Z ae;simp only;rw[this];exact⟨ab,Z⟩
theorem SY{l:List PR}(hi:i<n)(K:l.countP (BJ i)=1)(h:∀p,p<i->l.countP (BJ p)≠1):Jh n l=some i:=by
 unfold Jh;rw[mQ];exact⟨by simp[K],lO.2 hi,λj O=>by simpa using h j O⟩
theorem Tj{l:List PR}(h:∀p,p<n->l.countP (BJ p)≠1):Jh n l=none:=by
 unfold Jh;rw[List.find?_eq_none];intro p K;simpa using h p (lO.1 K)
variable{p:Nat}
theorem RI{x:PR}{m:Int}(U:n<=5)(O:VP n x)(K:BJ p x=true)(Y: -B<=m)(Z:m<=B):0<=(dP p x m).1/\(dP p x m).1<5/\0<=(dP p x m).2.1/\(dP p x m).2.1<5/\0<=(dP p x m).2.2/\(dP p x m).2.2<=B:=by
 obtain⟨v1,v2,aa⟩:=O;unfold BJ at K;simp at K;unfold dP;split<;>simp only<;>omega
theorem H7{α:Type}{l:List α}{d:α}(h:i<l.length):l.getD i d=l[i]:=by rw[nL,d3 h];rfl
theorem Rc{F n:Nat}{q:OW}(Z:100<F)(am:q.1.length=n)(ag:n<=5):∀(k N:Nat) (l:List PR) (w:List Int) (out:List DT) (B:Int),l.length=k->k<N->k<=10->(∀x∈l,VP n x)->BN B w->0<=B->B*3^k<=1000000000000->out.length+k<=100->Ke N F l w q out=some (Lp (FK n k l w out))
 | 0,N,l,w,out,B,an,ao,_,aa,hw,ah,ai,ap=>by
  obtain⟨N,rfl⟩:∃k,N=k+1:=⟨N - 1,by omega⟩
  refine De ?_
  simp only[Ke]
  unfold K5 FK
  refine BI (by omega) ?_
  refine Bh (λh=>Am ?_) (λh=>Am ?_);rw[d7 h];rfl;have h:=nm.1 h;rw[d5 h,h];rfl
 | k+1,N,l,w,out,B,an,ao,aE,aa,hw,ah,ai,ap=>by
  obtain⟨N,rfl⟩:∃k,N=k+1:=⟨N - 1,by omega⟩;refine De ?_;simp only[Ke];unfold K5;refine Bj (by omega) ?_;have aq:B*3^(k+1)=(3*B)*3^k:=by rw[Int.pow_succ];rw[nZ (3^k) 3,← Int.mul_assoc,nZ B 3]
  have ar:B<=1000000000000:=by
   have ab:(1:Int)<=3^(k+1):=by
    have:(0:Int)<3^(k+1):=Int.pow_pos (by decide);omega
   have:=mY ab ah;omega
  refine AK (S:=λr=>r=Sum.inl (Lp (FK n (k+1) l w out))∨(r=Sum.inr ()/\Jh n l=none)) ?_ ?_
  .refine Cq n (λi s=>s=(i:Int)/\∀p,p<i->l.countP (BJ (p:Nat))≠1) ⟨V,by simp⟩ (by omega) ?_ ?_
   .rintro i s hi ⟨rfl,O⟩;unfold Mr;refine BI (by omega) (AK (S:=λr=>(r=Sum.inr ()/\l.countP (BJ i)≠1)∨r=Sum.inl (Lp (FK n (k+1) l w out))) ?_ ?_)
    .refine AK (TS Z (by omega)) ?_;rintro⟨a,m⟩ ⟨aj,U⟩;simp only at aj U ⊢;refine Bh (λh=>Am (.inl ⟨V,λab=>h (by rw[aj,ab];rfl)⟩)) (λh=>?_);have h:=nm.1 h;let⟨U,K⟩:=U h;have au:l.countP (BJ i)=1:=by omega
     subst U;have av:=SY hi au O;refine Bm (m:=l.findIdx (BJ i)) V K (Bm (m:=l.findIdx (BJ i)) V K ?_);have aw:BJ i l[l.findIdx (BJ i)]=true:=oh;have Y:=aa _ (k7 K);have ay:=Y;obtain⟨aF,x2,aG⟩:=ay;have hb:=hw.bd (i:=i) (by omega);refine A1 (-(i:Int)) V (by omega) (by omega) (Bb (hw.ix (by omega) (by omega)) ?_);rw[show Int.toNat (i:Int)=i by omega];refine Bb (W5 (l:=[_,_,_]) Z (by simp) (by simp;omega)).1 (A1 (-(gN w i)) V (by omega) (by omega) ?_);have ak:FK n (k+1) l w out=if gN w i=0 then none else FK n k (l.eraseIdx (l.findIdx (BJ i))) (Nl w (dP i l[l.findIdx (BJ i)] (gN w i))) (out++ [dP i l[l.findIdx (BJ i)] (gN w i)]):=by
      simp only[FK,av,Option.bind_some,H7 K]
     refine Bh (λh=>Am (.inr ?_)) (λh=>?_);rw[ak,d5 (by omega)];rfl
     have al:=ak;rw[d7 (show ¬gN w i=0 by omega)] at al;rw[al];refine AK (S:=λr=>r=dP i l[l.findIdx (BJ i)] (gN w i)) ?_ ?_;unfold dP;refine Bh (λh=>?_) (λh=>?_);refine A1 (gN w i) (by omega) (by omega) (by omega) (Am ?_);rw[d5 (by omega)];simp only[om,oo];refine og ?_ V;simp only;omega;refine Am ?_;rw[d7 (by omega)];simp only[om,oo];refine og V (og ?_ V);simp only;omega
     rintro d rfl;let⟨az,e2,aA,aB,aH,aC⟩:=RI ag Y aw hb.1 hb.2;obtain⟨aD,g2⟩:=Q1 (F:=F) hw az e2 aA aB (by omega) aC ar;refine Bb aD (A4.JC (by simp;omega) ?_);refine Bb (b:=l.take (l.findIdx (BJ i))) (by unfold EY;rw[d5 (by omega)];simp) (A1 ((l.findIdx (BJ i)+1:Nat):Int) (by simp) (by omega) (by omega) ?_);refine Bb (b:=l.drop (l.findIdx (BJ i)+1)) ?_ ?_;unfold EY;rw[d5 (by omega),show Int.toNat (l.length:Int)=l.length by omega,mb,show Int.toNat ((l.findIdx (BJ i)+1:Nat):Int)=l.findIdx (BJ i)+1 by omega]
     refine A4.JC (by simp;omega) ?_;have he:l.take (l.findIdx (BJ i))++l.drop (l.findIdx (BJ i)+1)=l.eraseIdx (l.findIdx (BJ i)):=(List.eraseIdx_eq_take_drop_succ _ _).symm;rw[he];have hle:(l.eraseIdx (l.findIdx (BJ i))).length=k:=by rw[nM K];omega
     refine Bb (Rc Z am ag k N _ _ _ (3*B) hle (by omega) (by omega) (λx Y=>aa x (mN Y)) g2 (by omega) (by rw[← aq];exact ai) (by simp;omega)) ?_;rcases FK n k _ _ _ with _ | r;exact BI V (Am (.inr V));exact Bj (by simp[Lp]) (Am (.inr V))
    .rintro r (⟨rfl,h⟩ | rfl);rw[Sum.elim_inr];refine A1 ((i+1:Nat):Int) (by simp) (by omega) (by omega) (Am ⟨V,λp ae=>?_⟩);rcases n0.1 ae with ae | rfl;exact O p ae;exact h;rw[Sum.elim_inl];exact Am (.inl V)
   .rintro s ⟨rfl,O⟩;unfold Mr;exact Bj (by omega) (Am ⟨_,V,.inr ⟨V,Tj O⟩⟩)
  .rintro r (rfl | ⟨rfl,h⟩);rw[Sum.elim_inl];exact Am V
   .rw [Sum.elim_inr];refine Am ?_;simp only[FK,h,Option.bind_none]
    rfl
def BD(d:DT):Prop:= -1000000000000000<=d.1/\d.1<=1000000000000000/\ -1000000000000000<=d.2.1/\d.2.1<=1000000000000000/\ -1000000000000000<=d.2.2/\d.2.2<=1000000000000000
theorem Oi{n:Nat}(aa:n<=5):∀(k:Nat) (l:List PR) (w:List Int) (out r:List DT) (B:Int),l.length=k->(∀x∈l,VP n x)->BN B w->0<=B->B*3^k<=1000000000000->(∀d∈out,BD d)->FK n k l w out=some r->(∀d∈r,BD d)/\r.length=out.length+k
 | 0,l,w,out,r,B,ah,O,hw,ab,ae,U,h=>by
  unfold FK at h
  split at h;cases h;exact⟨U,V⟩;cases h
 | k+1,l,w,out,r,B,ah,O,hw,ab,ae,U,h=>by
  have ai:B*3^(k+1)=(3*B)*3^k:=by rw[Int.pow_succ];rw[nZ (3^k) 3,← Int.mul_assoc,nZ B 3]
  have aj:B<=1000000000000:=by
   have ak:(1:Int)<=3^(k+1):=by
    have:(0:Int)<3^(k+1):=Int.pow_pos (by decide);omega
   have:=mY ak ab;omega
  unfold FK at h;let⟨p,ag,h⟩:=bind_some h;split at h;cases h
  unfold Jh at ag;let⟨c1,c2,c3⟩:=mQ.1 ag;have aq:l.countP (BJ p)=1:=by simpa using c1
  have c2:=lO.1 c2;have Y:l.findIdx (BJ p)<l.length:=by
   obtain⟨x,K,Z⟩:=List.countP_pos_iff.1 (show 0<l.countP (BJ p) by omega);exact List.findIdx_lt_length_of_exists ⟨x,K,Z⟩
  rw[H7 Y] at h;have Z:BJ p l[l.findIdx (BJ p)]=true:=oh;have K:=O _ (k7 Y);have hb:=hw.bd (i:=p) (by omega);let⟨al,e2,am,an,ar,ao⟩:=RI aa K Z hb.1 hb.2;obtain⟨au,g2⟩:=Q1 (F:=0) hw al e2 am an (by omega) ao aj;obtain⟨k1,ap⟩:=Oi aa k _ _ _ r (3*B) (by rw[nM Y];omega) (λx K=>O x (mN K)) g2 (by omega) (by rw[← ai];exact ae) (by
   intro d hd
   rcases lm.1 hd with hd | hd;exact U d hd
   .cases mJ.1 hd
    refine⟨?_,?_,?_,?_,?_,?_⟩<;>omega) h
  refine⟨k1,?_⟩;rw[ap];simp;omega
theorem Pz{α:Type}(l:List α):l=[]∨∃A y,l=A++ [y]:=by
 rcases List.eq_nil_or_concat l with h | ⟨A,y,h⟩;exact .inl h;exact .inr ⟨A,y,by rw[h,List.concat_eq_append]⟩
def Nr{α:Type}(less:α->α->Option Bool)(s:Int×List α):Option (Bl (Int×List α) (List α)):=
 Option.bind (
  if 0<s.1 then(
   (ix s.2 (s.1)).bind λx=>
   (AG (s.1 - 1)).bind λj=>
   (ix s.2 (j)).bind λy=>
   (less x y).bind λc=>
   some c
  ) else(
   some false
  )
 ) λc=>
 if c=true then(
  (AG (s.1 - 1)).bind λj=>
  (AG (s.1 - 1)).bind λk=>
  (ix s.2 (k)).bind λy=>
  (ix s.2 (s.1)).bind λx=>
  (ix (s.2.set (Int.toNat s.1) y) (j)).bind λ_=>
  (AG (s.1 - 1)).bind λm=>
  some (.more (m,((s.2.set (Int.toNat s.1) y).set (Int.toNat j) x)))
 ) else(
  some (.done s.2)
 )
theorem VU{α:Type}{less:α->α->Option Bool}{lt:α->α->Bool}{P:List α}{x:α}(R:List α)(ak:P.length<F)(al:P.length<=1024)(ah:∀y∈P,less x y=some (lt x y)):
  A4 (Pal.iter (Nr less) F ((P.length:Int),P++x::R)) (λr=>∃A B,P=A++B/\r=A++x::(B++R)/\(∀b∈B,lt x b=true)/\(A=[]∨∃K y,A=K++ [y]/\lt x y=false)):=by
 refine J3 (λm s=>∃A B,A.length=m/\s.1=((m:Nat):Int)/\s.2=A++x::(B++R)/\P=A++B/\∀b∈B,lt x b=true) ?_ (m:=P.length) ⟨P,[],V,V,V,by simp,by simp⟩ (by omega);rintro m ⟨c,v⟩ ⟨A,B,U,ab,O,Y,ae⟩;simp only at ab O;subst ab;have am:A.length+B.length=P.length:=by rw[Y,lr]
 have ag:v[m]?=some x:=by rw[O,k8 (by omega),U,nT];rfl
 unfold Nr;refine AK (S:=λc=>(c=true/\∃K y,A=K++ [y]/\lt x y=true)∨(c=false/\(A=[]∨∃K y,A=K++ [y]/\lt x y=false))) ?_ ?_
 .refine Bh (λh=>?_) (λh=>?_)
  .simp only at h;rcases Pz A with rfl | ⟨K,y,rfl⟩;simp at U;omega
   have ai:K.length+1=m:=by simpa using U
   have aa:v[m - 1]?=some y:=by rw[O,ls,k8 (by omega),show m - 1 - K.length=0 by omega];rfl
   refine Bb (IJ V ag) (A1 ((m - 1:Nat):Int) (by simp only;omega) (by omega) (by omega) ?_);refine Bb (IJ V aa) (Bb (ah y (by rw[Y];simp)) ?_);refine Am ?_;cases Z:lt x y with
   | true=>exact .inl ⟨rfl,K,y,rfl,Z⟩
   | false=>exact .inr ⟨rfl,.inr ⟨K,y,rfl,Z⟩⟩
  .refine Am (.inr ⟨V,.inl ?_⟩);cases A with
   | nil=>rfl
   | cons a A=>simp at U h;omega
 .rintro c (⟨rfl,K,y,rfl,Z⟩ | ⟨rfl,aj⟩)
  .have ai:K.length+1=m:=by simpa using U
   have aa:v[m - 1]?=some y:=by rw[O,ls,k8 (by omega),show m - 1 - K.length=0 by omega];rfl
   have an:m<v.length:=by rw[O];simp;omega
   refine BI V (A1 ((m - 1:Nat):Int) (by simp only;omega) (by omega) (by omega) ?_);refine A1 ((m - 1:Nat):Int) (by simp only;omega) (by omega) (by omega) (Bb (IJ V aa) ?_);refine Bb (IJ V ag) (Bm (m:=m - 1) V (by simp only[l9];omega) ?_);refine A1 ((m - 1:Nat):Int) (by simp only;omega) (by omega) (by omega) (Am ⟨m - 1,by omega,K,y::B,by omega,V,?_,by rw[Y];simp,λb hb=>?_⟩);simp only;rw[show Int.toNat ((m:Nat):Int)=K.length+1 by omega,show Int.toNat ((m - 1:Nat):Int)=K.length by omega,O];simp;rcases li.1 hb with rfl | hb;exact Z;exact ae b hb
  .exact Bj (by simp) (Am ⟨A,B,Y,O,ae,aj⟩)
def Gv(a b:DT):Bool:=decide (a.1<b.1∨(a.1=b.1/\(a.2.1<b.2.1∨(a.2.1=b.2.1/\a.2.2<b.2.2))))
theorem QX{a b:DT}:Gv a b=true↔a.1<b.1∨(a.1=b.1/\(a.2.1<b.2.1∨(a.2.1=b.2.1/\a.2.2<b.2.2))):=by unfold Gv;exact decide_eq_true_iff
theorem Kd{a b:DT}:Gv a b=false↔¬(a.1<b.1∨(a.1=b.1/\(a.2.1<b.2.1∨(a.2.1=b.2.1/\a.2.2<b.2.2)))):=by unfold Gv;exact ni
theorem Rb{a b:DT}(K:BD a)(hb:BD b):A4 (f113 F a b) (λc=>(c<0↔Gv a b=true)/\(c=0↔a=b)):=by
 obtain⟨a1,O,U,Y,Z,aa⟩:=K;obtain⟨ab,ae,ag,ah,ai,aj⟩:=hb;obtain⟨ax,al,am⟩:=a;obtain⟨an,ao,ap⟩:=b;simp only at a1 O U Y Z aa ab ae ag ah ai aj;unfold f113;simp only[QX,nK];refine Bh (λh=>?_) (λh=>?_);exact A1 _ V (by omega) (by omega) (Am ⟨by omega,by omega⟩)
 refine Bh (λak=>?_) (λak=>?_);exact A1 _ V (by omega) (by omega) (Am ⟨by omega,by omega⟩);exact A1 _ V (by omega) (by omega) (Am ⟨by omega,by omega⟩)
def FM(x:DT):List DT->List DT
 | []=>[x]
 | y::ys=>if Gv x y=true then x::y::ys else y::FM x ys
def DY(l:List DT):List DT:=l.foldl (λa x=>FM x a) []
def LN(l:List DT):Prop:=l.Pairwise λa b=>Gv b a=false
theorem Og{x d:DT}:∀{l:List DT},d∈FM x l↔d=x∨d∈l
 | []=>by simp[FM]
 | y::ys=>by
  unfold FM
  split;simp;rw[li,Og,li];constructor;rintro(h | h | h);exact .inr (.inl h);exact .inl h;exact .inr (.inr h);rintro(h | h | h);exact .inr (.inl h);exact .inl h;exact .inr (.inr h)
theorem Qx{x:DT}:∀{l:List DT},(FM x l).length=l.length+1
 | []=>rfl
 | y::ys=>by
  unfold FM
  split;rfl;rw[lC,Qx];rfl
theorem QZ{x:DT}:∀{l:List DT},LN l->LN (FM x l)
 | [],_=>List.pairwise_singleton _ _
 | y::ys,h=>by
  let⟨U,Y⟩:=nF.1 h
  unfold FM
  split
  .rename_i O
   refine nF.2 ⟨λz K=>?_,h⟩;have O:=QX.1 O;rcases li.1 K with rfl | K;rw[Kd];omega;have:=Kd.1 (U z K);rw[Kd];omega
  .rename_i O;refine nF.2 ⟨λz K=>?_,QZ Y⟩;rcases Og.1 K with rfl | K;exact nn.2 O;exact U z K
theorem Q6{x:DT}{B:List DT}(K:∀b∈B,Gv x b=true):∀{A:List DT},(∀a∈A,Gv x a=false)->FM x (A++B)=A++x::B
 | [],_=>by
  cases B with
  | nil=>rfl
  | cons b bs=>simp only[lx,FM,K b nG,lQ]
 | a::A,O=>by
  have U:=O a nG
  simp only[lX,FM,U]
  rw[d7 (by decide),Q6 K λz Y=>O z (lc _ Y)]
theorem Mf(l:List DT)(x:DT):DY (l++ [x])=FM x (DY l):=by unfold DY;rw[nO];rfl
theorem QP:∀{k:Nat},k<=10->(3:Int)^k<=59049
 | 0,_ | 1,_ | 2,_ | 3,_ | 4,_ | 5,_ | 6,_ | 7,_ | 8,_ | 9,_ | 10,_=>by decide
 | _+11,h=>absurd h (by omega)
theorem OJ{α:Type}{P:List α->Prop}(O:P [])(U:∀l x,P l->P (l++ [x])):∀l,P l:=by
 have:∀n (l:List α),l.length=n->P l:=by
  intro n
  induction n with
  | zero=>intro l K;cases mo.1 K;exact O
  | succ n Y=>
   intro l K;rcases Pz l with rfl | ⟨Z,x,rfl⟩;cases K;exact U _ _ (Y _ (by simpa using K))
 exact λl=>this _ l V
theorem Uz(l:List DT):LN (DY l):=OJ (P:=λl=>LN (DY l)) List.Pairwise.nil (λl x h=>by rw[Mf];exact QZ h) l
theorem P0(l:List DT):d∈DY l↔d∈l:=OJ (P:=λl=>d∈DY l↔d∈l) (Iff.rfl) (λl x h=>by rw[Mf,Og,h];simp[or_comm]) l
theorem Qd(l:List DT):(DY l).length=l.length:=OJ (P:=λl=>(DY l).length=l.length) V (λl x h=>by rw[Mf,Qx,h];simp) l
theorem TR(F:Nat):ME F 0=Nr λx y=>(f113 F x y).bind λc=>some (decide (c<0)):=by
 funext s;unfold ME Nr;simp only[Option.bind_assoc,Option.bind_some]
theorem S5{A B:List DT}{x y:DT}(O:LN ((A++ [y])++B))(U:Gv x y=false):∀a∈A++ [y],Gv x a=false:=by
 rw[ls] at O;intro a K;rcases lm.1 K with K | K;have Y:=(oe.1 O).2.2 a K y (by simp);have Z:=Kd.1 Y;have aa:=Kd.1 U;rw[Kd];omega;cases mJ.1 K;exact U
theorem Wc{l:List DT}(am:100<F)(an:l.length<=20)(hb:∀d∈l,BD d):Ks F l 0 (l.length:Int)=some (DY l):=by
 refine De ?_;unfold Ks;refine A1 1 V (by omega) (by omega) (AK (S:=λr=>r=DY l) ?_ (λr Y=>Am Y));refine Cq (l.length - 1) (λi s=>s.1=((i+1:Nat):Int)/\s.2=DY (l.take (i+1))++l.drop (i+1)) ⟨V,?_⟩ (by omega) ?_ ?_
 .cases l with
  | nil=>rfl
  | cons x xs=>rfl
 .rintro i ⟨c,w⟩ hi ⟨K,hw⟩;simp only at K hw;subst K;have O:i+1<l.length:=by omega
  unfold Mw;refine BI (by simp only;omega) ?_;have Z:l.drop (i+1)=l[i+1]::l.drop (i+2):=mL O;have ao:(DY (l.take (i+1))).length=i+1:=by rw[Qd,nY];omega
  have aa:∀d∈DY (l.take (i+1)),BD d:=λd hd=>hb d (List.mem_of_mem_take ((P0 _).1 hd));have ab:BD l[i+1]:=hb _ (k7 O);have ae:DY (l.take (i+2))=FM l[i+1] (DY (l.take (i+1))):=by
   rw[lS (i:=i+1),d3 O];exact Mf _ _
  have ag:=Uz (l.take (i+1));generalize l[i+1]=x at*;generalize DY (l.take (i+1))=P at*;generalize l.drop (i+2)=R at*;refine AK (S:=λr=>r=FM x P++R) ?_ ?_
  .rw [TR,hw,Z];have ah:((i+1:Nat):Int)=(P.length:Int):=by omega
   rw[ah];refine(VU (lt:=Gv) R (by omega) (by omega) λy U=>?_).Ad ?_;let⟨c,ai,aj,_⟩:=Rb (F:=F) ab (aa y U);rw[ai,Option.bind_some];congr 1;rw[Bool.eq_iff_iff,mZ];exact aj;rintro r ⟨A,B,rfl,rfl,ak,al⟩;rw[Q6 ak ?_];simp;rcases al with rfl | ⟨ap,y,rfl,U⟩;simp;exact S5 ag U
  .rintro r rfl;refine A1 ((i+1+1:Nat):Int) (by simp) (by omega) (by omega) (Am ⟨V,?_⟩);simp only;rw[ae]
 .rintro⟨c,w⟩ ⟨K,hw⟩;simp only at K hw;subst K;unfold Mw;refine Bj (by simp only;omega) (Am ⟨_,V,?_⟩);simp only;rw[hw,me (by omega),mX (by omega),lf]
theorem VB:∀n,n<=12->∃r,f115 F (CK ((n:Nat):Int))=some r
 | 0,_ | 1,_ | 2,_ | 3,_ | 4,_ | 5,_ | 6,_ | 7,_ | 8,_ | 9,_ | 10,_ | 11,_ | 12,_=>⟨_,rfl⟩
 | _+13,h=>absurd h (by omega)
theorem Xv{l:List DT}(K:100<F)(O:l.length<=12)(hb:∀d∈l,BD d):f90 F l=some (DY l):=by
 obtain⟨F,rfl⟩:∃k,F=k+1:=⟨F - 1,by omega⟩;let⟨x,U⟩:=VB (F:=F+1) l.length O;refine De ?_;unfold f90;refine Bb (b:=l) (by unfold f129 K9 CJ;rw[d5 (by simp;omega)];rfl) (Bb (b:=DY l) ?_ (Am V));refine De ?_;unfold f130;refine Bb U (Bb (b:=DY l) ?_ (Am V));refine De ?_;unfold LB;refine AK (S:=λr=>r=Sum.inl (DY l)) ?_ (by rintro r rfl;rw[Sum.elim_inl];exact Am rfl);refine Cq 0 (λ_ _=>True) trivial (by omega) (by intro i s h;omega) ?_;rintro s -;unfold OC;refine A1 (l.length:Int) (by omega) (by omega) (by omega) (BI (by omega) ?_);exact Bb (Wc K (by omega) hb) (Am ⟨_,V,V⟩)
def Io(n:Nat)(w:List Int)(S:List PR):Option (List DT):=(FK n S.length S w []).map DY
theorem Wq{S:List PR}(K:100<F)(h:VO o)(O:S.length<=10)(U:∀x∈S,VP o.1.length x):f135 F o S=some (match Io o.1.length (Ch o) S with | none=>([],false) | some r=>(r,true)):=by
 have Y:=h.n5;let⟨aa,g2⟩:=ON K h;have Z:(200:Int)*3^S.length<=1000000000000:=by
  have:=QP O;omega
 have e:=Rc (q:=o) K rfl Y S.length F S (Ch o) [] 200 rfl (by omega) O U g2 (by omega) Z (by simp;omega);have e2:LF F o S=some (match Io o.1.length (Ch o) S with | none=>(true,default) | some r=>(false,r)):=by
  refine De ?_;unfold LF;refine Bb aa ?_;refine Bb (show O8 F S (Ch o) o []=_ from e) ?_;unfold Io;rcases ab:FK o.1.length S.length S (Ch o) [] with _ | r;exact BI V (Am V);refine Bj (by simp[Lp]) ?_;obtain⟨k1,ae⟩:=Oi Y S.length S (Ch o) [] r 200 rfl U g2 (by omega) Z (by simp) ab;exact Bb (Xv K (by show r.length<=12;rw[ae];simp;omega) k1) (Am V)
 unfold f135;rw[e2,Option.bind_some];rcases Io o.1.length (Ch o) S with _ | r
 .rfl
 .rfl
def GM:Nat->List PR->List (List PR)
 | 0,_=>[[]]
 | _+1,[]=>[]
 | m+1,x::xs=>(GM m xs).map (x::·)++GM (m+1) xs
theorem NU:∀(m:Nat) (l:List PR),(GM m l).length<=2^l.length
 | 0,l=>by simp only[GM,m2];exact Nat.one_le_two_pow
 | m+1,[]=>by simp[GM]
 | m+1,x::xs=>by
  have K:=NU m xs;have O:=NU (m+1) xs
  simp only[GM,lr,List.length_map,lC]
  rw[oq];omega
theorem Ma{x:PR}:∀{m:Nat}{l c:List PR},c∈GM m l->c.length=m/\(x∈c->x∈l)
 | 0,l,c,h=>by rw[show GM 0 l=[[]] by cases l<;>rfl] at h;cases mJ.1 h;exact⟨rfl,λh=>by cases h⟩
 | m+1,[],c,h=>by cases h
 | m+1,y::ys,c,h=>by
  rcases lm.1 h with h | h
  .obtain⟨U,O,rfl⟩:=mr.1 h
   have:=Ma (x:=x) O;exact⟨by rw[lC,this.1],λK=>by
    rcases li.1 K with rfl | K;exact nG
    .exact lc _ (this.2 K)⟩
  .have:=Ma (x:=x) h;exact⟨this.1,λK=>lc _ (this.2 K)⟩
def CR(n:Nat)(w:List Int)(P:PR->Bool)(m:Nat)(l ys:List PR):List (List DT):=(GM m (ys.filter P)).filterMap λc=>Io n w (l++c)
variable{w:List Int}{P:PR->Bool}
theorem Qw{m:Nat}{l ys:List PR}:(CR n w P m l ys).length<=2^ys.length:=by
 unfold CR;refine mB (n3 _ _) (mB (NU _ _) ?_);exact nx (by decide) (List.length_filter_le _ _)
theorem TU{m:Nat}{l xs:List PR}{x:PR}(h:P x=false):CR n w P m l (x::xs)=CR n w P m l xs:=by unfold CR;rw[List.filter_cons_of_neg (by simp[h])]
theorem TT{m:Nat}{l xs:List PR}{x:PR}(h:P x=true):CR n w P (m+1) l (x::xs)=CR n w P m (l++ [x]) xs++CR n w P (m+1) l xs:=by
 unfold CR;rw[List.filter_cons_of_pos h,GM,ob,List.filterMap_map];congr 2;funext c;simp
theorem Q4{F:Nat}{o:OW}{ab m:Nat}{K:List PR}{P:PR->Bool}(ae:100<F)(h:VO o)(hm:m<=5)(ak:K.length<=10)(ag:∀x∈K,VP o.1.length x)(ah:∀x,VP o.1.length x->f136 F ab x.1 x.2=some (!P x)):
  ∀(k N:Nat) (l:List PR) (i:Nat) (b:List (List DT)),l.length+k=m->k<N->i<=K.length->(∀x∈l,VP o.1.length x)->b.length+2^(K.length - i)<=1000000->
   Kf N F l (i:Int) (m:Int) o K ab b=some (true,b++CR o.1.length (Ch o) P k l (K.drop i))
 | 0,N,l,i,b,al,am,hi,aa,hb=>by
  obtain⟨N,rfl⟩:∃k,N=k+1:=⟨N - 1,by omega⟩
  have au:1<=2^(K.length - i):=Nat.one_le_two_pow
  refine De ?_
  simp only[Kf]
  unfold K2
  refine BI (by omega) ?_
  refine Bb (Wq ae h (by omega) aa) ?_
  refine AK (S:=λr=>r=(true,b++CR o.1.length (Ch o) P 0 l (K.drop i))) ?_ (λr an=>Am an)
  have e:CR o.1.length (Ch o) P 0 l (K.drop i)=(Io o.1.length (Ch o) l).toList:=by
   unfold CR;simp only[GM,List.filterMap_cons,lf,List.filterMap_nil];cases Io o.1.length (Ch o) l<;>rfl
  rw[e];rcases Io o.1.length (Ch o) l with _ | r;exact BI V (Am (by simp));exact Bj (by simp) (KQ (by omega) (Am V))
 | k+1,N,l,i,b,al,am,hi,aa,hb=>by
  obtain⟨N,rfl⟩:∃k,N=k+1:=⟨N - 1,by omega⟩;refine De ?_;simp only[Kf];unfold K2;refine Bj (by omega) (AK (S:=λr=>r=Sum.inr (b++CR o.1.length (Ch o) P (k+1) l (K.drop i))) ?_ (by rintro r rfl;rw[Sum.elim_inr];exact Am rfl));refine J3 (λz s=>∃j,z=K.length - j/\j<=K.length/\s.2=((j:Nat):Int)/\s.1++CR o.1.length (Ch o) P (k+1) l (K.drop j)=b++CR o.1.length (Ch o) P (k+1) l (K.drop i)/\s.1.length+2^(K.length - j)<=1000000) ?_ (m:=K.length - i) ⟨i,V,hi,V,V,hb⟩ (by omega);rintro z ⟨acc,c⟩ ⟨j,rfl,av,ai,he,hlen⟩;simp only at ai he hlen;subst ai;unfold OD;refine Bh (λao=>?_) (λap=>?_)
  .simp only at ao;have O:j<K.length:=by omega
   have hd:K.drop j=K[j]::K.drop (j+1):=mL O;have aj:=ag _ (k7 O);have aw:2^(K.length - j)=2^(K.length - (j+1))+2^(K.length - (j+1)):=by
    rw[show K.length - j=K.length - (j+1)+1 by omega,oq];omega
   have ay:0<2^(K.length - (j+1)):=Nat.two_pow_pos _;refine AK (S:=λr=>∃Y,r=Sum.inr Y/\Y++CR o.1.length (Ch o) P (k+1) l (K.drop (j+1))=acc++CR o.1.length (Ch o) P (k+1) l (K.drop j)/\Y.length+2^(K.length - (j+1))<=1000000) ?_ ?_
   .refine Bm (m:=j) V O (Bm (m:=j) V O ?_);refine Bb (ah _ aj) ?_;by_cases Z:P K[j]=true
    .refine Bj (by simp[Z]) ?_;refine Bm (m:=j) V O ?_;refine A1 ((j+1:Nat):Int) (by simp) (by omega) (by omega) ?_;refine A4.JC (by simp;omega) ?_;refine Bb (Q4 ae h hm ak ag ah k N (l++ [K[j]]) (j+1) acc (by simp;omega) (by omega) (by omega) (λx U=>by
      rcases lm.1 U with U | U;exact aa x U
      .cases mJ.1 U;exact aj) (by omega)) ?_
     refine Bj (by simp) (Am ⟨_,V,?_,?_⟩);rw[hd,TT Z,ls];have:=Qw (n:=o.1.length) (w:=Ch o) (P:=P) (m:=k) (l:=l++ [K[j]]) (ys:=K.drop (j+1));rw[List.length_drop] at this;rw[lr];omega
    .refine BI (by simp[Z]) (Am ⟨_,V,?_,by simp only;omega⟩);rw[hd,TU (nn.2 Z)]
   .rintro r ⟨Y,rfl,aq,ar⟩;rw[Sum.elim_inr];exact A1 ((j+1:Nat):Int) (by simp) (by omega) (by omega) (Am ⟨K.length - (j+1),by omega,j+1,V,by omega,V,aq.trans he,ar⟩)
  .simp only at ap;refine Am ?_;have:K.drop j=[]:=mX (by omega);rw[this] at he;show Sum.inr _=_;rw[← he];unfold CR;simp[GM]
def FW(n:Nat)(w:List Int)(P:PR->Bool):List (List DT):=(((List.range n).map λm=>CR n w P m [] (DV n)).find? λl=> !l.isEmpty).getD []
theorem W3{c2:Nat}(Y:100<F)(h:VO o)(ab:∀x,VP o.1.length x->f136 F c2 x.1 x.2=some (!P x)):f71 F o c2=some (FW o.1.length (Ch o) P):=by
 have Z:=h.n5;have ae:=PN Z;refine De ?_;unfold f71;have ag:∀m,m<=5->f132 F o ((m:Nat):Int) c2 []=some (CR o.1.length (Ch o) P m [] (DV o.1.length)):=by
  intro m hm;refine De ?_;unfold f132;refine Bb (Ww Y Z) ?_;have ah:2^((DV o.1.length).length - 0)<=2^10:=nx (by decide) (by omega);exact Bb (show f134 F [] 0 (m:Int) o (DV o.1.length) c2 []=_ from Q4 Y h hm ae (λx ai=>QI ai) ab m F [] 0 [] (by simp) (by omega) (by omega) (by simp) (by simp at ah ⊢;omega)) (Am (by simp))
 refine Cq o.1.length (λi s=>s=(i:Int)/\∀j,j<i->CR o.1.length (Ch o) P j [] (DV o.1.length)=[]) ⟨V,by simp⟩ (by omega) ?_ ?_
 .rintro i s hi ⟨rfl,U⟩;unfold Nc;refine BI (by omega) (Bb (ag i (by omega)) ?_);refine Bh (λaa=>Am ?_) (λak=>?_)
  .show _=_;unfold FW;rw[oc,show(List.range o.1.length).find? _=some i from mQ.2 ⟨?_,lO.2 hi,λj K=>?_⟩];rfl
   .simp only [Function.comp];cases aj:CR o.1.length (Ch o) P i [] (DV o.1.length) with
    | nil=>rw[aj] at aa;simp at aa
    | cons=>rfl
   .simp only [Function.comp];rw[U j K];rfl
  .refine A1 ((i+1:Nat):Int) (by simp) (by omega) (by omega) (Am ⟨V,λj K=>?_⟩);rcases n0.1 K with K | rfl;exact U j K;exact mo.1 (by omega)
 .rintro s ⟨rfl,U⟩;unfold Nc;refine Bj (by omega) (Am ⟨_,V,?_⟩);unfold FW;rw[oc,show(List.range o.1.length).find? _=none from List.find?_eq_none.2 ?_];rfl;intro j K;simp only[Function.comp];rw[U j (lO.1 K)];simp
theorem Xm(U:n<=5)(x:PR)(K:VP n x):f136 F 0 x.1 x.2=some (!(λ_=>true) x):=by
 obtain⟨Y,Z,aa⟩:=K;obtain⟨a,O⟩:∃a:Nat,x.1=(a:Int):=⟨x.1.toNat,by omega⟩;obtain⟨b,hb⟩:∃b:Nat,x.2=(b:Int):=⟨x.2.toNat,by omega⟩;rw[O,hb];have:b<=4:=by omega
 have:a<b:=by omega
 match a,b with
 | 0,1 | 0,2 | 0,3 | 0,4 | 1,2 | 1,3 | 1,4 | 2,3 | 2,4 | 3,4=>rfl
 | 0,0=>omega
 | a+1,0=>omega
 | a+1,1=>omega
 | a+2,2=>omega
 | a+3,3=>omega
 | a+4,4=>omega
 | a,b+5=>omega
abbrev IU(o:OW):List (List DT):=FW o.1.length (Ch o) λ_=>true
theorem Ye(K:100<F)(h:VO o):f71 F o 0=some (IU o):=W3 K h λx O=>Xm h.n5 x O
theorem U9{m:Nat}{s:List DT}(U:n<=5)(hm:m<=5)(hw:BN 200 w)(K:s∈CR n w P m [] (DV n)):s.length=m/\∀d∈s,BD d:=by
 unfold CR at K;let⟨c,O,K⟩:=nE.1 K;rw[lx] at K;unfold Io at K;obtain⟨r,Y,rfl⟩:=lJ.1 K;have Z:=(Ma (x:=(0,0)) O).1;have aa:∀x∈c,VP n x:=λx ab=>QI (List.mem_filter.1 ((Ma O).2 ab)).1;have ae:(200:Int)*3^c.length<=1000000000000:=by
  have:=QP (k:=c.length) (by omega);omega
 obtain⟨k1,ag⟩:=Oi U c.length c w [] r 200 rfl aa hw (by omega) ae (by simp) Y;refine⟨by rw[Qd,ag,Z];simp,λd hd=>k1 d ((P0 _).1 hd)⟩
theorem WB:FW n w P=[]∨∃m,m<n/\FW n w P=CR n w P m [] (DV n)/\(∀j,j<m->CR n w P j [] (DV n)=[]):=by
 unfold FW;rw[oc];rcases h:(List.range n).find? ((λl:List (List DT)=> !l.isEmpty)∘λm=>CR n w P m [] (DV n)) with _ | m;exact .inl V;let⟨Y,K,O⟩:=mQ.1 h;refine .inr ⟨m,lO.1 K,V,λj U=>?_⟩;have:=O j U;simpa using this
theorem WU(K:n<=5)(hw:BN 200 w):(FW n w P).length<=1024/\∃m,m<=5/\∀s∈FW n w P,s.length=m/\∀d∈s,BD d:=by
 rcases WB (n:=n) (w:=w) (P:=P) with h | ⟨m,hm,h,_⟩;rw[h];exact⟨by simp,0,by omega,by simp⟩;rw[h];refine⟨?_,m,by omega,λs O=>U9 K (by omega) hw O⟩;exact mB Qw (mB (nx (by decide) (PN K)) (by decide))
def EZ:List DT->List DT->Bool
 | [],[]=>false
 | [],_::_=>true
 | _::_,[]=>false
 | x::xs,y::ys=>if x=y then EZ xs ys else Gv x y
theorem Oj{a b:List DT}:∀{i:Nat},i<=a.length->i<=b.length->a.take i=b.take i->EZ a b=EZ (a.drop i) (b.drop i):=by
 induction a generalizing b with
 | nil=>intro i K _ _;simp at K;subst K;simp
 | cons x xs U=>
  intro i K O h;cases i with
  | zero=>simp
  | succ i=>
   cases b with
   | nil=>simp at O
   | cons y ys=>
    simp only[List.take_succ_cons,n6] at h;simp only[List.drop_succ_cons];rw[EZ,d5 h.1];exact U (by simpa using K) (by simpa using O) h.2
theorem V2{a b:List DT}(ae:100<F)(ag:a.length<=40)(U:∀d∈a,BD d)(Y:∀d∈b,BD d):A4 (f112 F a b) (λc=>c<0↔EZ a b=true):=by
 unfold f112;refine AK (S:=λr=>(∃c,r=Sum.inl c/\(c<0↔EZ a b=true))∨(r=Sum.inr ()/\a.length<=b.length/\a=b.take a.length)) ?_ ?_
 .refine Cq a.length (λi s=>s=(i:Int)/\i<=b.length/\a.take i=b.take i) ⟨V,by simp,by simp⟩ (by omega) ?_ ?_
  .rintro i s hi ⟨rfl,K,he⟩;unfold MA;have O:a.drop i=a[i]::a.drop (i+1):=mL hi;refine BI (by omega) (Bm (m:=i) V hi ?_);refine Bh (λh=>Am (.inl ⟨1,V,?_⟩)) (λh=>?_);rw[Oj (i:=i) (by omega) K he,O,mX (by omega:b.length<=i)];simp[EZ]
   have hb:i<b.length:=by omega
   have Z:b.drop i=b[i]::b.drop (i+1):=mL hb;refine Bm (m:=i) V hb ?_;refine AK (Rb (U _ (k7 hi)) (Y _ (k7 hb))) ?_;rintro c ⟨c1,c2⟩;refine Bh (λh=>Am (.inl ⟨c,V,?_⟩)) (λh=>?_);rw[Oj (i:=i) (by omega) K he,O,Z,EZ,d7 (λk=>h (c2.2 k))];exact c1;have heq:=c2.1 (nm.1 h);refine A1 ((i+1:Nat):Int) (by simp) (by omega) (by omega) ?_;refine Am ⟨V,by omega,?_⟩;rw[lS,lS,he,d3 hi,d3 hb,heq]
  .rintro s ⟨rfl,K,he⟩;unfold MA;rw[mb] at he;exact Bj (by omega) (Am ⟨_,V,.inr ⟨V,K,he⟩⟩)
 .rintro r (⟨c,rfl,aa⟩ | ⟨rfl,ab,he⟩);rw[Sum.elim_inl];exact Am aa
  .rw [Sum.elim_inr];have e:EZ a b=EZ [] (b.drop a.length):=by
    rw[Oj (i:=a.length) (la _) ab (by rw[mb];exact he),List.drop_length]
   refine Bh (λh=>Am ?_) (λh=>Am ?_)
   .rw [e];cases hd:b.drop a.length with
    | nil=>have:=lq List.length hd;simp at this;omega
    | cons=>simp[EZ]
   .rw [e,mX (by omega)];simp[EZ]
def IK(b:List DT×Bool)(x:List DT):List DT×Bool:=if(!b.2 || EZ x b.1)=true then(x,true) else b
def K8(l:List (List DT)):List DT:=(l.foldl IK ([],false)).1
theorem X5(ak:2000<F)(h:VO o):f22 F o=some (K8 (IU o),0):=by
 obtain⟨al,ae⟩:=ON (F:=F) (by omega) h;let⟨ag,m,hm,ah⟩:=WU (P:=λ_=>true) h.n5 ae;refine De ?_;unfold f22;refine Bb (RX (by omega) h) (Bj (by simp) ?_);refine Bb (Ye (by omega) h) (AK (S:=λr=>r.1=K8 (IU o)) ?_ (λr Z=>Am (by rw[Z])));have ai:(IU o).length<=1024:=ag;have aa:∀s∈IU o,s.length=m/\∀d∈s,BD d:=ah;generalize IU o=L at ai aa ⊢;refine Cq L.length (λi s=>s.2.2=(i:Int)/\(s.1,s.2.1)=(L.take i).foldl IK ([],false)/\∀d∈s.1,BD d) ⟨V,V,by simp⟩ (by omega) ?_ ?_
 .rintro i ⟨b,t,c⟩ hi ⟨K,O,U⟩;simp only at K O U;subst K;let⟨am,ab⟩:=aa _ (k7 hi);have aj:(L.take (i+1)).foldl IK ([],false)=IK (b,t) L[i]:=by
   rw[lS,d3 hi,nO,← O];rfl
  unfold M8;refine BI (by simp only;omega) (Bm (m:=i) V hi ?_);refine Bb (b:=IK (b,t) L[i]) ?_ ?_
  .refine De ?_;unfold f72;refine AK (S:=λc=>c=(!t || EZ L[i] b)) ?_ ?_
   .refine Bh (λh=>Am ?_) (λh=>?_);simp only at h;rw[h];rfl
    .simp only at h;obtain rfl:t=true:=by simpa using h
     refine AK (S:=λc=>c=EZ L[i] b) ?_ (λc K=>Am (by rw[K];simp));unfold f73 f74;refine AK (S:=λc=>c<0↔EZ L[i] b=true) (AK (V2 (by omega) (by omega) ab U) (λc K=>Am K)) ?_;intro c K;refine Am ?_;by_cases Y:EZ L[i] b=true;rw[Y];exact mn (K.2 Y);rw[nn.2 Y];exact mp λk=>Y (K.1 k)
   .rintro c rfl;refine AK (S:=λr=>r=IK (b,t) L[i]) ?_ (λr Z=>Am Z);unfold IK;refine Bh (λh=>Am ?_) (λh=>Am ?_);rw[d5 h];rw[d7 h]
  .refine A1 ((i+1:Nat):Int) (by simp) (by omega) (by omega) (Am ⟨V,aj.symm,?_⟩);simp only;unfold IK;split;exact ab;exact U
 .rintro⟨b,t,c⟩ ⟨K,O,U⟩;simp only at K O U;subst K;rw[mb] at O;unfold M8;refine Bj (by simp) (Am ⟨_,V,?_⟩);simp only;unfold K8;rw[← O]
theorem Xs(U:2000<F)(h:VO o):f43 F o=some ((Ch o).take o.1.length,0):=by
 obtain⟨K,O⟩:=ON (F:=F) (by omega) h;have Y:=h.n5;have Z:=O.1;refine De ?_;unfold f43;refine Bb (RX (by omega) h) (Bj (by simp) ?_);refine Bb K (Bb (b:=(Ch o).take o.1.length) (by unfold EY;rw[d5 (by omega)];simp) ?_);exact Bb (b:=(Ch o).take o.1.length) (by unfold f87 Lb CJ;rw[d5 (by simp;omega)];rfl) (Am V)
abbrev C9:=(List Int)×(List (List Int))×Int×(List (List (Int×Bool)))
structure IY (n:Int) (w:List Int):Prop where
 l:w.length<=3
 b:∀x∈w,0<=x/\x<n
 o:∀(i:Nat) (h:i+1<w.length),w[i]<w[i+1]
structure Dm (g:C9):Prop where
 l1:1<=g.1.length
 l2:g.1.length<=2
 ln:∀n∈g.1,1<=n/\n<=3
 w1:g.2.1.length=g.1.length
 wr:∀(i:Nat) (h:i<g.1.length) (K:i<g.2.1.length),IY g.1[i] g.2.1[i]
 r:0<=g.2.2.1/\g.2.2.1<=6
 s1:g.2.2.2.length<=3
 sn:∀s∈g.2.2.2,1<=s.length/\s.length<=3/\∀m∈s,m.1=0∨m.1=1∨m.1=2
variable{g:C9}
theorem Dm.sl(h:Dm g)(hi:i<g.2.2.2.length):1<=g.2.2.2[i].length/\g.2.2.2[i].length<=3:=⟨(h.sn _ (k7 hi)).1,(h.sn _ (k7 hi)).2.1⟩
def Jt(S:List (List (Int×Bool)))(v:Int):Prop:=∃(s h:Nat) (K:s<S.length),h<S[s].length/\v=1+3*(s:Int)+(h:Int)
structure FD (S:List (List (Int×Bool))) (fd:List (List Int)):Prop where
 l:fd.length=2
 r:∀row∈fd,row.length=10/\∀v∈row,v=0∨Jt S v
variable{S:List (List (Int×Bool))}{fd:List (List Int)}
theorem FD.row(h:FD S fd)(hi:i<2):∃(K:i<fd.length),fd[i].length=10/\∀v∈fd[i],v=0∨Jt S v:=by
 have K:i<fd.length:=by rw[h.l];exact hi
 exact⟨K,h.r _ (k7 K)⟩
theorem Wg{s h:Nat}(K:s<=10)(hh:h<=10):Lz F (s:Int) (h:Int)=some (1+3*(s:Int)+(h:Int)):=by
 refine De ?_;unfold Lz;refine A1 ((s:Int)*3) V (by omega) (by omega) (A1 (1+(s:Int)*3) V (by omega) (by omega) ?_);exact A1 (1+3*(s:Int)+(h:Int)) (by omega) (by omega) (by omega) (Am V)
theorem Ot(K:Dm g){v:Int}(U:Jt g.2.2.2 v):A4 (Jy F g v) (λ_=>True):=by
 obtain⟨s,h,O,hh,rfl⟩:=U;have aa:=(K.sl O).2;have ab:=K.s1;unfold Jy;refine A1 (3*(s:Int)+(h:Int)) (by omega) (by omega) (by omega) ?_;have Y:(3*(s:Int)+(h:Int)).tdiv 3=(s:Int):=by rw[Int.tdiv_eq_ediv_of_nonneg (by omega)];omega
 have Z:(3*(s:Int)+(h:Int)).tmod 3=(h:Int):=by rw[Int.tmod_eq_emod_of_nonneg (by omega)];omega
 refine Bb (b:=(s:Int)) ?_ ?_;unfold Nn;rw[d7 (by omega),Y];unfold AG;rw[d5 (by omega)]
 refine Bm (m:=s) V O (A1 (3*(s:Int)+(h:Int)) (by omega) (by omega) (by omega) ?_);refine Bb (b:=(h:Int)) ?_ ?_;unfold Np;rw[d7 (by omega),Z]
 exact Bm (m:=h) V hh (Am trivial)
variable{L:Nat}
theorem Wi(al:100<F)(aa:Dm g)(ai:FD g.2.2.2 fd){k:Nat}(Y:k<g.2.2.2.length){sp:Int×Int×Bool}(ab:sp.1=(L:Int))(aj:L<2)(am:0<=sp.2.1)(an:sp.2.1+(g.2.2.2[k].length:Int)<=10):
  A4 (Ln F g fd sp (k:Int)) (λr=>FD g.2.2.2 r.2):=by
 have ao:=aa.sl Y;have ap:=aa.s1;unfold Ln;refine Bm (m:=k) V Y ?_;refine AK (S:=λr=>FD g.2.2.2 r.2) ?_ (λr O=>Am O);refine Cq g.2.2.2[k].length (λi s=>s.2.2=(i:Int)/\FD g.2.2.2 s.1) ⟨V,ai⟩ (by omega) ?_ ?_
 .rintro i ⟨f,b,c⟩ hi ⟨U,K⟩;simp only at U K;subst U;unfold Mt;refine BI (by simp only;omega) (A1 (sp.2.1+(i:Int)) V (by omega) (by omega) ?_);let⟨ae,hlen,ak⟩:=K.row aj;refine AK (S:=λag=>∃q:Nat,ag=(q:Int)/\q<10) ?_ ?_;refine Bh (λ_=>?_) (λ_=>?_);refine A1 _ V (by omega) (by omega) (A1 _ V (by omega) (by omega) ?_);exact A1 _ V (by simp only;omega) (by simp only;omega) (Am ⟨(sp.2.1+(g.2.2.2[k].length:Int) - 1 - (i:Int)).toNat,by simp only;omega,by omega⟩);exact Am ⟨(sp.2.1+(i:Int)).toNat,by omega,by omega⟩
  rintro ag ⟨q,rfl,ah⟩;refine AK (S:=λ_=>True) ?_ ?_;refine Bh (λ_=>?_) (λ_=>Am trivial);refine Bm (m:=L) ab ae (Bm (m:=q) V (by rw[hlen];exact ah) ?_);exact Am trivial
  intro fr _;refine Bm (m:=L) ab ae (Bb (Wg (by omega) (by omega)) ?_);refine Bm (m:=q) V (by rw[hlen];exact ah) (A1 ((i+1:Nat):Int) (by simp) (by omega) (by omega) ?_);refine Am ⟨V,?_⟩;simp only;refine⟨by rw[l9];exact K.l,λrow O=>?_⟩;rcases mK O with O | rfl;exact K.r row O;refine⟨by rw[l9];exact hlen,λv Z=>?_⟩;rcases mK Z with Z | rfl;exact ak v Z;exact .inr ⟨k,i,Y,hi,V⟩
 .rintro⟨f,b,c⟩ ⟨U,K⟩;simp only at U K;subst U;unfold Mt;exact Bj (by simp) (Am ⟨_,V,K⟩)
theorem Wd(Y:100<F)(K:Dm g)(O:L<g.1.length)(Z:p<10):A4 (Lh F g fd (L:Int) (p:Int)) (λ_=>True):=by
 have U:L<g.2.1.length:=by rw[K.w1];exact O
 have hw:=K.wr L O U;have aa:=K.ln _ (k7 O);have ab:=hw.l;unfold Lh;refine Bm (m:=L) V U ?_;refine AK (S:=λ_=>True) ?_ ?_;refine Cq g.2.1[L].length (λi s=>s=(i:Int)) V (by omega) ?_ ?_;rintro i s hi rfl;have hb:=hw.b _ (k7 hi);unfold ML;refine BI (by omega) (Bm (m:=i) V hi ?_);refine A1 _ V (by omega) (by omega) (A1 _ V (by omega) (by omega) ?_);refine Bh (λ_=>Am trivial) (λ_=>?_);exact A1 ((i+1:Nat):Int) (by simp) (by omega) (by omega) (Am V);rintro s rfl;unfold ML;exact Bj (by omega) (Am ⟨_,V,trivial⟩);intro q _;cases q<;>exact Am trivial
theorem FD.at(h:FD S fd)(K:L<2)(Y:p<10):∃(Z:L<fd.length) (aa:p<fd[L].length),fd[L][p]=0∨Jt S fd[L][p]:=by
 let⟨O,ab,U⟩:=h.row K;exact⟨O,by omega,U _ (k7 _)⟩
theorem Wa(O:Dm g)(U:FD g.2.2.2 fd)(Y:L<2)(ab:p<10)(ae:∀(am:L<fd.length) (ag:p<fd[L].length),Jt g.2.2.2 fd[L][p]):A4 (Ls F g fd (L:Int) (p:Int)) (λ_=>True):=by
 let⟨K,Z,_⟩:=U.at Y ab;unfold Ls;refine AK (S:=λc=>c=false->∃q:Nat,p=q+1/\∀(ag:q<fd[L].length),fd[L][q]≠0) ?_ ?_;refine Bh (λ_=>Am (by intro e;cases e)) (λaa=>?_);obtain⟨q,rfl⟩:∃q,p=q+1:=⟨p - 1,by omega⟩;refine A1 (q:Int) (by omega) (by omega) (by omega) (Bm (m:=L) V K ?_);refine Bm (m:=q) V (by omega) (Am λe=>⟨q,V,λ_ ah=>?_⟩);simp[ah] at e
 intro c ai;refine Bh (λ_=>Am trivial) (λaa=>?_);obtain⟨q,rfl,aj⟩:=ai (by simpa using aa);refine A1 (q:Int) (by omega) (by omega) (by omega) (Bm (m:=L) V K ?_);refine Bm (m:=q) V (by omega) ?_;obtain⟨_,ak,al⟩:=U.at (p:=q) Y (by omega);refine AK (Ot O (al.resolve_left (aj ak))) ?_;intro an _;refine Bm (m:=L) V K (Bm (m:=q+1) V Z ?_);refine AK (Ot O (ae K Z)) ?_;intro ao _;refine AK (S:=λ_=>True) (Bh (λ_=>Am trivial) (λ_=>Am trivial)) ?_;intro ap _;refine AK (S:=λ_=>True) (Bh (λ_=>Am trivial) (λ_=>Bh (λ_=>Am trivial) (λ_=>Am trivial))) ?_;intro aq _;exact Am trivial
theorem We(ab:Dm g)(U:FD g.2.2.2 fd)(Y:L<2)(ae:p<10)(ag:∀(ai:L<fd.length) (aj:p<fd[L].length),Jt g.2.2.2 fd[L][p]):A4 (LG F g fd (L:Int) (p:Int)) (λ_=>True):=by
 let⟨O,Z,_⟩:=U.at Y ae;let⟨_,hlen,_⟩:=U.row Y;unfold LG;refine Bm (m:=L) V O (Bm (m:=p) V Z ?_);refine AK (Ot ab (ag O Z)) ?_;intro ak _;refine AK (S:=λc=>c=false->0<p) ?_ ?_;refine Bh (λ_=>Am (by intro e;cases e)) (λ_=>Am (by intro e;simp at e;omega))
 intro c ah;refine AK (S:=λc=>c=false->0<p/\p+1<10) ?_ ?_;refine Bh (λ_=>Am (by intro e;cases e)) (λK=>?_);refine A1 ((p+1:Nat):Int) (by simp) (by omega) (by omega) (Am λe=>⟨ah (by simpa using K),?_⟩);simp only[ni] at e;omega
 intro d hd;refine AK (S:=λc=>c=false->0<p/\p+1<10) ?_ ?_;refine Bh (λal=>Am (by intro e;cases e)) (λK=>?_);have aa:=hd (by simpa using K);refine A1 ((p - 1:Nat):Int) (by omega) (by omega) (by omega) (Bm (m:=L) V O ?_);exact Bm (m:=p - 1) V (by omega) (Am λ_=>aa)
 intro e he;refine AK (S:=λ_=>True) ?_ (λ_ _=>Am trivial);refine Bh (λ_=>Am trivial) (λK=>?_);have aa:=he (by simpa using K);refine A1 ((p+1:Nat):Int) (by simp) (by omega) (by omega) (Bm (m:=L) V O ?_);exact Bm (m:=p+1) V (by omega) (Am trivial)
theorem V1(Z:100<F)(K:Dm g)(U:FD g.2.2.2 fd){q:Nat}(aa:L<g.1.length)(O:p<10)(Y:∀(ab:L<fd.length) (ae:p<fd[L].length),Jt g.2.2.2 fd[L][p]):A4 (kept F q g fd (L:Int) (p:Int)) (λ_=>True):=by
 have ag:=K.l2;unfold kept;split;exact Wd Z K aa O;exact Wa K U (by omega) O Y;exact We K U (by omega) O Y
theorem V6(Y:100<F)(K:Dm g)(U:FD g.2.2.2 fd):A4 (Lr F g fd) (λ_=>True):=by
 have ah:=K.l2;unfold Lr;refine AK (S:=λ_=>True) ?_ (by intro q _;cases q<;>exact Am trivial);refine Cq 3 (λi s=>s=(i:Int)) V (by omega) ?_ ?_
 rotate_left
 .rintro s rfl;unfold MF;exact Bj (by simp) (Am ⟨_,V,trivial⟩)
 rintro i s hi rfl;unfold MF;refine BI (by simp;omega) (Bm (m:=i) V (by simpa using hi) ?_);generalize ([0,1,2]:List Nat)[i]=k;refine AK (S:=λ_=>True) ?_ ?_
 rotate_left
 .intro q _;cases q with
  | inl a=>exact Am trivial
  | inr u=>
   rw[Sum.elim_inr];exact A1 ((i+1:Nat):Int) (by simp) (by omega) (by omega) (Am V)
 refine Cq g.1.length (λi s=>s=(i:Int)) V (by omega) ?_ ?_
 rotate_left
 .rintro s rfl;unfold Mx;exact Bj (by simp) (Am ⟨_,V,trivial⟩)
 rintro L s O rfl;unfold Mx;refine BI (by omega) (Bm (m:=L) V O ?_);have Z:=K.ln _ (k7 O);generalize g.1[L]=n at Z ⊢;refine AK (S:=λ_=>True) ?_ ?_
 rotate_left
 .intro q _;cases q with
  | inl a=>exact Am trivial
  | inr u=>
   rw[Sum.elim_inr];exact A1 ((L+1:Nat):Int) (by simp) (by omega) (by omega) (Am V)
 refine Cq n.toNat (λi s=>s=(i:Int)) V (by omega) ?_ ?_
 rotate_left
 .rintro s rfl;unfold MR;exact Bj (by omega) (Am ⟨_,V,trivial⟩)
 rintro p s ai rfl;obtain⟨aa,ab,ae⟩:=U.at (L:=L) (p:=p) (by omega) (by omega);unfold MR;refine BI (by omega) (AK (S:=λ_=>True) ?_ ?_)
 rotate_left
 .intro q _;cases q with
  | inl a=>exact Am trivial
  | inr u=>
   rw[Sum.elim_inr];exact A1 ((p+1:Nat):Int) (by simp) (by omega) (by omega) (Am V)
 refine Bm (m:=L) V aa (Bm (m:=p) V ab ?_);refine AK (S:=λ_=>True) ?_ ?_;refine Bh (λ_=>Am trivial) (λag=>?_);exact AK (V1 Y K U O (by omega) (λ_ _=>ae.resolve_left ag)) (λ_ _=>Am trivial)
 intro c _;refine Bh (λ_=>Am trivial) (λ_=>Bh (λ_=>Am trivial) (λ_=>Bh (λ_=>Am trivial) (λ_=>Bh (λ_=>Am trivial) (λ_=>Am trivial))))
variable{md:List ((List (List Int))×Bool)}
theorem Ws{K:Bool}(O:100<F)(U:Dm g)(Y:FD g.2.2.2 fd):A4 (Lu F (g.1,g.2.1,g.2.2.1,g.2.2.2,K) md fd) (λ_=>True):=by
 unfold Lu;refine AK (S:=λ_=>True) ?_ (λ_ _=>Am trivial);refine Bh (λ_=>?_) (λ_=>Am trivial);exact AK (V6 O U Y) (λ_ _=>Am trivial)
abbrev F7:=Int×Int×Bool
abbrev DJ:=List F7
theorem Qc{α B:Type}{step:B->α->Option B}:∀{l K:List α}{b:B},Dv step (l++K) b=(Dv step l b).bind (Dv step K)
 | [],K,b=>rfl
 | x::l,K,b=>by
  simp only[lX,Dv]
  cases step b x with
  | none=>rfl
  | some O=>exact Qc
theorem N7{α:Type}{body:A×Int->Option (Bl (A×Int) (A⊕A))}{stp:A->α->Option A}{f:Nat->List α}
  (hb:∀(i:Nat) a,i<n->body (a,(i:Int))=(Dv stp (f i) a).bind λK=>some (.more (K,((i+1:Nat):Int)))) (O:∀a,body (a,(n:Int))=some (.done (Sum.inr a))):
  ∀(k i:Nat) (a:A) (fuel:Nat),i+k=n->k<fuel->iter body fuel (a,(i:Int))=(Dv stp ((List.range' i k).flatMap f) a).map Sum.inr:=by
 intro k
 induction k with
 | zero=>
  intro i a fuel U Y;obtain⟨fuel,rfl⟩:∃m,fuel=m+1:=⟨fuel - 1,by omega⟩;obtain rfl:i=n:=by omega
  unfold Pal.iter;rw[O];rfl
 | succ k Z=>
  intro i a fuel U Y;obtain⟨fuel,rfl⟩:∃m,fuel=m+1:=⟨fuel - 1,by omega⟩;unfold Pal.iter;rw[hb i a (by omega),nW,List.flatMap_cons,Qc];cases Dv stp (f i) a with
  | none=>rfl
  | some K=>
   simp only[Option.bind_some];exact Z (i+1) K fuel (by omega) (by omega)
def JD(L f:Nat):List F7:=[((L:Int),(f:Int),false),((L:Int),(f:Int),true)]
def IV(L m:Nat):List F7:=(List.range' 0 m).flatMap (JD L)
def F9(n:Int)(len:Nat):Nat:=(max 0 (n - (len:Int)+1)).toNat
def JE(lines:List Int)(len:Nat):List F7:=(List.range' 0 lines.length).flatMap λL=>IV L (F9 (lines.getD L 0) len)
def GQ(lines:List Int)(len:Nat):List F7:=((-1,0,false):F7)::JE lines len
abbrev Fa(g:C9):(List Int)×(List (List Int))×Int×(List (List (Int×Bool)))×Bool:=(g.1,g.2.1,g.2.2.1,g.2.2.2,false)
theorem Nu{x y:Int}(h:x=y)(K: -9223372036854775808<=y)(O:y<=9223372036854775807):AG x=some y:=by subst h;unfold AG;rw[d5 ⟨K,O⟩]
theorem OI{stp:A->F7->Option A}(ak:100<F)(U:Dm g){k:Nat}(Z:k<g.2.2.2.length){ac:A}:
  Il stp F (Fa g) ac (k:Int)=Dv stp (GQ g.1 g.2.2.2[k].length) ac:=by
 have al:=U.l2;have am:=U.sl Z;unfold Il GQ;simp only[nB,lQ,Dv];cases an:stp ac ((-1),0,false) with
 | none=>rfl
 | some a1=>
  simp only[Option.bind_some,ld,lK];have ab:∀(L f:Nat) (y:A×Int) (z:A×Int) (a:A),y.2=(L:Int)->z.2=(f:Int)->iter (J5 F stp y z) F (a,0)=(Dv stp (JD L f) a).map Sum.inr:=by
   intro L f y z a O aa;have:=N7 (body:=J5 F stp y z) (n:=2) (stp:=stp) (f:=λi=>[((L:Int),(f:Int),i==1)]) ?_ ?_ 2 0 a F rfl (by omega);exact this;intro i a hi;unfold J5;rw[d5 (by simp;omega)];rcases i with _ | _ | i;simp[ix,Dv,O,aa];cases stp a (↑L,↑f,false)<;>rfl;simp[ix,Dv,O,aa];cases stp a (↑L,↑f,true)<;>rfl;omega;intro a;rfl
  have ae:∀(L:Nat) (n:Int) (y:A×Int) (K:Int) (a:A),y.2=(L:Int)->n<=5->K=n - (g.2.2.2[k].length:Int)+1->iter (Ja F stp y K) F (a,0)=(Dv stp (IV L (F9 n g.2.2.2[k].length)) a).map Sum.inr:=by
   intro L n y K a O ag ah;have ao:F9 n g.2.2.2[k].length<=5:=by unfold F9;omega
   have hm:max (0:Int) K=((F9 n g.2.2.2[k].length:Nat):Int):=by unfold F9;rw[ah];omega
   refine N7 (body:=Ja F stp y K) (n:=F9 n g.2.2.2[k].length) (stp:=stp) (f:=JD L) ?_ ?_ _ 0 a F (by omega) (by omega)
   .intro i a hi;unfold Ja;rw[hm,d5 (by simp only;omega),ab L i y (a,(i:Int)) a O rfl];cases Dv stp (JD L i) a with
    | none=>rfl
    | some ai=>
     rw[lW,Option.bind_some,Sum.elim_inr];rw[Nu (show(i:Int)+1=((i+1:Nat):Int) by simp) (by omega) (by omega)]
     rfl
   .intro a;unfold Ja;rw[hm,d7 (by simp)]
  have aj:=N7 (body:=J9 F (Fa g) (k:Int) stp) (n:=g.1.length) (stp:=stp) (f:=λL=>IV L (F9 (g.1.getD L 0) g.2.2.2[k].length)) ?_ ?_ g.1.length 0 a1 F (by omega) (by omega);rw[show(a1,(0:Int))=(a1,((0:Nat):Int)) from rfl,aj];unfold JE;cases Dv stp ((List.range' 0 g.1.length).flatMap λL=>IV L (F9 (g.1.getD L 0) g.2.2.2[k].length)) a1<;>rfl
  .intro L a Y;have ag:=U.ln _ (k7 Y);unfold J9;rw[d5 (by simp only;omega),Rv Y,Option.bind_some,show ix (Fa g).2.2.2.1 (k:Int)=some g.2.2.2[k] from Rv Z,Option.bind_some];rw[Nu (y:=g.1[L] - (g.2.2.2[k].length:Int)) rfl (by omega) (by omega),Option.bind_some,Nu (y:=g.1[L] - (g.2.2.2[k].length:Int)+1) rfl (by omega) (by omega),Option.bind_some];rw[ae L g.1[L] (a,(L:Int)) _ a rfl (by omega) rfl];rw[show g.1.getD L 0=g.1[L] from H7 Y];cases Dv stp (IV L (F9 g.1[L] g.2.2.2[k].length)) a with
   | none=>rfl
   | some ai=>
    rw[lW,Option.bind_some,Sum.elim_inr];rw[Nu (show(L:Int)+1=((L+1:Nat):Int) by simp) (by omega) (by omega)]
    rfl
  .intro a;unfold J9;rw[d7 (by simp)]
abbrev Sl:=(List (List Int))×DJ×(List ((List (List Int))×Bool))×List DJ
def Kw(g:C9)(len:Nat)(sp:F7):Prop:=sp.1<0∨∃L:Nat,sp.1=(L:Int)/\L<2/\0<=sp.2.1/\sp.2.1+(len:Int)<=10
variable{len:Nat}
theorem Rx{n:Int}(K:n<=3)(O:1<=len):F9 n len<=3:=by unfold F9;omega
theorem Wj(L m:Nat):(IV L m).length=2*m:=by
 unfold IV;rw[List.length_flatMap];have:(List.range' 0 m).map (λa=>(JD L a).length)=List.replicate m 2:=by
  apply lF;intro i;by_cases hi:i<m;rw[l8,d3 (by simpa using hi),d3 (by simpa using hi)];simp[JD];rw[lB (by simpa using hi),lB (by simpa using hi)]
 rw[this,List.sum_replicate_nat];omega
theorem Qj(K:Dm g)(U:1<=len):(GQ g.1 len).length<=13:=by
 have ae:=K.l2;unfold GQ JE;rw[lC,List.length_flatMap];have hb:∀x∈(List.range' 0 g.1.length).map (λa=>(IV a (F9 (g.1.getD a 0) len)).length),x<=6:=by
  intro x Y;obtain⟨i,hi,rfl⟩:=mr.1 Y;have O:i<g.1.length:=by simpa using hi
  rw[Wj,H7 O];have:=Rx (K.ln _ (k7 O)).2 U;omega
 have:∀(l:List Nat),(∀x∈l,x<=6)->l.sum<=6*l.length:=by
  intro l
  induction l with
  | nil=>intro _;simp
  | cons x l Z=>intro h;have ag:=h x (by simp);have ah:=Z λy aa=>h y (by simp[aa]);simp;omega
 have ab:=this _ hb;rw[List.length_map,List.length_range'] at ab;omega
variable{sp:F7}
theorem QG(K:Dm g)(Y:1<=len)(ab:len<=3)(h:sp∈JE g.1 len):Kw g len sp:=by
 have ae:=K.l2;let⟨L,Z,hm⟩:=nX.1 h;let⟨f,O,hm⟩:=nX.1 hm;have U:L<g.1.length:=by simpa using Z
 rw[H7 U] at O;have aa:=(K.ln _ (k7 U)).2;have ag:f<F9 g.1[L] len:=by simpa using O
 have ah:=Rx aa Y;refine .inr ⟨L,?_⟩;unfold JD at hm;simp at hm;rcases hm with rfl | rfl<;>exact⟨rfl,by omega,by simp only;omega,by simp only;omega⟩
theorem QQ{Rel:A->A->Prop}{aa:((List (List Int))×DJ×(List ((List (List Int))×Bool))×A)->Option ((List (List Int))×DJ×(List ((List (List Int))×Bool))×A)}(ab:100<F)(Z:Dm g){pd:DJ}{ac:A}(ae:FD g.2.2.2 fd)(ag:pd.length=3){k:Nat}(aj:k<g.2.2.2.length)(ak:Kw g g.2.2.2[k].length sp)
  (al:∀ah ai am,FD g.2.2.2 ah->ai.length=3->A4 (aa (ah,ai,am,ac)) (λr=>r.2.1.length=3/\Rel ac r.2.2.2)):
  A4 (Lf aa F (Fa g) fd pd md ac (k:Int) sp) (λr=>r.1=fd/\r.2.1.length=3/\(r.2.2.2=ac∨Rel ac r.2.2.2)/\(sp.1<0->Rel ac r.2.2.2)):=by
 have ar:=Z.s1;unfold Lf;refine Bm (m:=k) V (by omega) ?_;refine AK (S:=λq=>FD g.2.2.2 q.2.1/\(sp.1<0->q.1=false)) ?_ ?_;refine Bh (λO=>?_) (λO=>Am ⟨ae,λ_=>V⟩);obtain⟨L,Y,U,an,ao⟩:=ak.resolve_left (by omega);refine AK (Wi ab Z ae aj Y U an ao) ?_;rintro⟨b,ap⟩ K;simp only at K;refine Bh (λ_=>Am ⟨K,λh=>by omega⟩) (λ_=>?_);refine AK (Ws ab Z K) ?_;rintro⟨au,aq⟩ _;exact Am ⟨K,λh=>by omega⟩
 rintro⟨b,ap,m'⟩ ⟨K,hb⟩;simp only at K hb;refine Bh (λO=>?_) (λO=>?_);refine Bm (m:=k) V (by rw[l9];omega) (Am ⟨V,by simp only[l9];exact ag,.inl V,λh=>?_⟩);simp only at O;rw[hb h] at O;cases O;refine AK (al _ _ _ K (by rw[l9];exact ag)) ?_;rintro⟨f2,p2,aq,av⟩ ⟨Y,U⟩;simp only at Y U;exact Bm (m:=k) V (by simp only;omega) (Am ⟨V,by simp only[l9];exact Y,.inr U,λ_=>U⟩)
theorem Ql{α B:Type}{step:B->α->Option B}{J:Nat->B->Prop}{m:Nat}:∀{l:List α}{j:Nat}{b:B},j+l.length=m->J j b->(∀x∈l,∀j b,j<m->J j b->A4 (step b x) (J (j+1)))->A4 (Dv step l b) (J m)
 | [],j,b,hm,h,_=>Am (by simp at hm;subst hm;exact h)
 | x::l,j,b,hm,h,K=>by
  refine AK (K x (by simp) j b (by simp at hm;omega) h) ?_
  intro Y O
  exact Ql (j:=j+1) (by simp at hm;omega) O λy U=>K y (by simp[U])
def IL(k:Nat)(ac K:List DJ):Prop:=∃more,K=ac++more/\1<=more.length/\more.length<=13^k/\∀p∈more,p.length=3
theorem Ri(aj:100<F)(O:Dm g){begun:DJ}:∀(k sn K:Nat) (st:Sl),sn+k=g.2.2.2.length->k<K->begun.length<=sn->FD g.2.2.2 st.1->st.2.1.length=3->st.2.2.2.length+13^k<=2^39->
  A4 (Gu room F (Fa g) begun K (sn:Int) st) (λr=>r.1=st.1/\r.2.1.length=3/\IL k st.2.2.2 r.2.2.2):=by
 have aM:=O.s1;intro k
 induction k with
 | zero=>
  intro sn K st al am an ab Y ao;obtain⟨K,rfl⟩:∃m,K=m+1:=⟨K - 1,by omega⟩;unfold Gu Ju;refine BI (by simp only;omega) (KQ (by omega) ?_);exact Am ⟨V,Y,[st.2.1],V,by simp,by simp,by simpa using Y⟩
 | succ k ap=>
  intro sn K st al am an ab Y ao;obtain⟨K,rfl⟩:∃m,K=m+1:=⟨K - 1,by omega⟩;have ae:sn<g.2.2.2.length:=by omega
  have ag:=O.sl ae;have aN:13^(k+1)=13^k*13:=oq ..;have ak:∀(sp:F7) (b:Sl),Kw g g.2.2.2[sn].length sp->FD g.2.2.2 b.1->b.2.1.length=3->b.2.2.2.length+13^k<=2^39->
    A4 (Hg (Gu room F (Fa g) begun K) F (Fa g) (sn:Int) b sp) (λr=>r.1=b.1/\r.2.1.length=3/\(r.2.2.2=b.2.2.2∨IL k b.2.2.2 r.2.2.2)/\(sp.1<0->IL k b.2.2.2 r.2.2.2)):=by
   intro sp b ah aq ar au;unfold Hg;refine QQ (Rel:=IL k) aj O aq ar ae ah λav aw ay az g2=>A1 ((sn+1:Nat):Int) (by simp) (by omega) (by omega) ?_;exact(ap (sn+1) K (av,aw,ay,b.2.2.2) (by omega) (by omega) (by omega) az g2 au).Ad λr Z=>⟨Z.2.1,Z.2.2⟩
  unfold Gu Ju;refine Bj (by simp only;omega) (Bj (by omega) ?_);rw[OI aj O ae];refine AK (S:=λr=>r.1=st.1/\r.2.1.length=3/\IL (k+1) st.2.2.2 r.2.2.2) ?_ (λr Z=>Am Z);have hlen:=Qj O (len:=g.2.2.2[sn].length) ag.1;unfold GQ at hlen ⊢;rw[lC] at hlen;refine AK (ak _ st (.inl (by decide)) ab Y (by omega)) ?_;rintro aA ⟨aB,e2,_,aC⟩;obtain⟨aD,aE,aF,aO,aG⟩:=aC (by decide);have aH:=Ql (step:=Hg (Gu room F (Fa g) begun K) F (Fa g) (sn:Int)) (m:=1+(JE g.1 g.2.2.2[sn].length).length)
   (J:=λj b=>b.1=st.1/\b.2.1.length=3/\∃more,b.2.2.2=st.2.2.2++more/\1<=more.length/\more.length<=j*13^k/\∀p∈more,p.length=3) (l:=JE g.1 g.2.2.2[sn].length) (j:=1) (b:=aA) rfl ⟨aB,e2,aD,aE,aF,by omega,aG⟩ ?_
  .refine aH.Ad ?_;rintro r ⟨r1,r2,more,r3,ai,aI,aa⟩;refine⟨r1,r2,more,r3,ai,?_,aa⟩;have:(1+(JE g.1 g.2.2.2[sn].length).length)*13^k<=13*13^k:=lz _ (by omega);omega
  .rintro sp ah j b aP ⟨r1,r2,more,r3,ai,aI,aa⟩;have aQ:j*13^k<=12*13^k:=lz _ (by omega);have aR:b.2.2.2.length=st.2.2.2.length+more.length:=by rw[r3,lr]
   refine(ak sp b (QG O ag.1 ag.2 ah) (r1▸ab) r2 (by omega)).Ad ?_;rintro r ⟨t1,t2,t3,_⟩;have aS:(j+1)*13^k=j*13^k+13^k:=by rw[ml,ot]
   refine⟨t1.trans r1,t2,?_⟩;rcases t3 with t3 | ⟨aJ,aK,aT,aU,aL⟩;exact⟨more,t3.trans r3,ai,by omega,aa⟩;refine⟨more++aJ,by rw[aK,r3,ls],by rw[lr];omega,by rw[lr];omega,λp U=>?_⟩;rcases lm.1 U with U | U;exact aa p U;exact aL p U
theorem Sj:FD S (List.replicate 2 (List.replicate 10 0)):=⟨by simp,λrow K=>by
 rw[lY K]
 exact⟨by simp,λv O=>.inl (lY O)⟩⟩
theorem Si(K:100<F):Pal.iter (OG F) F ((List.replicate 3 (0,0,false):DJ),0)=some (List.replicate 3 (-1,0,false)):=by
 obtain⟨F,rfl⟩:∃m,F=m+4:=⟨F - 4,by omega⟩
 rfl
theorem Ui(K:100<F)(O:Dm g)(aa:g.2.2.2.length=0):A4 (FL room F (Fa g) [] [] []) (λl=>l.length<=13^3/\l≠ []/\∀p∈l,p.length=3):=by
 unfold FL;refine Bb (Si K) (AK (Ri K O (begun:=[]) 0 0 F _ (by omega) (by omega) (by simp) Sj (by simp) (by simp)) ?_);rintro r ⟨_,_,more,U,Y,ab,Z⟩;refine Am ?_;rw[U,lx];refine⟨by omega,?_,Z⟩;rintro rfl;simp at Y
theorem UG(Y:100<F)(Z:Dm g)(ag:0<g.2.2.2.length){x:F7}(ah:Kw g g.2.2.2[0].length x):A4 (FL room F (Fa g) [x] [] []) (λl=>l.length<=169/\(x.1<0->l≠ [])/\∀p∈l,p.length=3):=by
 have aq:=Z.s1;unfold FL;refine Bb (Si Y) ?_;obtain⟨aa,ai⟩:∃m,F=m+1:=⟨F - 1,by omega⟩;obtain⟨k,ar⟩:∃k,g.2.2.2.length=1+k:=⟨g.2.2.2.length - 1,by omega⟩;have au:13^k<=169:=by
  have:k=0∨k=1∨k=2:=by omega
  rcases this with rfl | rfl | rfl<;>decide
 have hd:Gu room F (Fa g) [x] F 0 ((List.replicate 2 (List.replicate 10 (0:Int)):List (List Int)),List.replicate 3 ((-1,0,false):F7),[],[])=Ju (Gu room F (Fa g) [x] aa) room F (Fa g) [x] ((List.replicate 2 (List.replicate 10 (0:Int)):List (List Int)),List.replicate 3 ((-1,0,false):F7),[],[]) 0:=by
  rw[show Gu room F (Fa g) [x] F=Gu room F (Fa g) [x] (aa+1) by rw[← ai]]
  rfl
 rw[hd];unfold Ju;refine AK (S:=λr=>(r.2.2.2=[]∨IL k [] r.2.2.2)/\(x.1<0->IL k [] r.2.2.2)) ?_ ?_;(refine Bj (by simp only;omega) (BI (by simp) ?_);refine Bb (b:=x) (by simp[ix]) (AK ?_ (λr K=>Am K));unfold Hg;refine(QQ (k:=0) (Rel:=IL k) Y Z Sj (by simp) ag ah λaj ak al am g2=>?_).Ad (λr K=>⟨K.2.2.1,K.2.2.2⟩);refine A1 ((1:Nat):Int) (by simp) (by omega) (by omega) ?_;refine(Ri Y Z (begun:=[x]) k 1 aa (aj,ak,al,[]) (by omega) (by omega) (by simp) am g2 (by simp;omega)).Ad λr K=>⟨K.2.1,K.2.2⟩)
 rintro r ⟨O,an⟩;refine Am ?_;rcases O with O | ⟨more,U,ab,ao,ae⟩
 .rw [O];refine⟨by simp,λap=>?_,by simp⟩;let⟨more,U,ab,ao,ae⟩:=an ap;rw[O] at U;have:more=[]:=by simpa using U.symm
  subst this;simp at ab
 .rw [U,lx];refine⟨by omega,λ_=>?_,ae⟩;rintro rfl;simp at ab
theorem V4{qs:List (List DJ)}(ag:5000<F)(ah:qs.length<=20)(hb:∀q∈qs,q.length<=2197):LD F qs=some qs.flatten:=by
 refine De ?_;have U:∀i,i<=qs.length->((qs.take i).flatten.length:Int)<=2197*i:=by
  intro i
  induction i with
  | zero=>intro _;simp
  | succ i aa=>
   intro hi;have K:=aa (by omega);rw[lS,d3 (by omega)];have O:=hb _ (k7 (show i<qs.length by omega));simp only[mW,mf,lr,lh,mv,lf];omega
 have Y:∀i (hi:i<qs.length),(qs.take (i+1)).flatten=(qs.take i).flatten++qs[i]:=by
  intro i hi;rw[lS,d3 hi];simp only[mW,mf,lh,mv,lf]
 unfold LD;refine AK (S:=λq=>∃t:Int,q=Sum.inr t/\0<=t/\t<=100000) ?_ ?_;refine Cq qs.length (λi s=>s.2=(i:Int)/\s.1=((qs.take i).flatten.length:Int)) ⟨V,by simp⟩ (by omega) ?_ ?_;rintro i ⟨t,c⟩ hi ⟨K,O⟩;simp only at K O;subst K;subst O;have Z:=U i (by omega);have ab:=hb _ (k7 hi);unfold MP;refine BI (by simp only;omega) (Bm (m:=i) V hi ?_);refine A1 _ V (by simp only;omega) (by simp only;omega) (Bj (by simp only;omega) ?_);exact A1 ((i+1:Nat):Int) (by simp) (by omega) (by omega) (Am ⟨V,by simp only;rw[Y i hi,lr];simp⟩);rintro⟨t,c⟩ ⟨K,O⟩;simp only at K O;subst K;subst O;have Z:=U qs.length (la _);unfold MP;exact Bj (by simp) (Am ⟨_,V,_,V,by omega,by omega⟩)
 rintro q ⟨t,rfl,ai,aj⟩;rw[Sum.elim_inr];refine Bb (b:=[]) (by unfold Nq;rw[d5 (by omega)]) (AK (S:=λr=>r=qs.flatten) ?_ (λr ae=>Am ae));refine Cq qs.length (λi s=>s.2=(i:Int)/\s.1=(qs.take i).flatten) ⟨V,by simp⟩ (by omega) ?_ ?_;rintro i ⟨l,c⟩ hi ⟨K,O⟩;simp only at K O;subst K;subst O;have Z:=U i (by omega);have ab:=hb _ (k7 hi);unfold Mv;refine BI (by simp only;omega) (Bm (m:=i) V hi ?_);refine Bb (b:=(qs.take i).flatten++qs[i]) (by unfold CJ;rw[d5 (by simp only;omega)]) (A1 ((i+1:Nat):Int) (by simp) (by omega) (by omega) ?_);exact Am ⟨V,(Y i hi).symm⟩;rintro⟨l,c⟩ ⟨K,O⟩;simp only at K O;subst K;subst O;unfold Mv;exact Bj (by simp) (Am ⟨_,V,by simp⟩)
theorem QS{F:Nat}{g:C9}(O:100<F)(U:Dm g)(Y:0<g.2.2.2.length):∀{l:DJ},(∀x∈l,Kw g g.2.2.2[0].length x)->A4 (Lj F (Fa g) l) (λqs=>qs.length=l.length/\(∀q∈qs,q.length<=169/\∀p∈q,p.length=3)/\∀x Z,l=x::Z->x.1<0->∃q aa,qs=q::aa/\q≠ [])
 | [],_=>Am ⟨rfl,by simp,by simp⟩
 | x::l,h=>by
  unfold Lj
  refine AK (UG O U Y (h x (by simp))) ?_
  rintro q ⟨ab,ae,ag⟩
  refine AK (QS O U Y (l:=l) λy K=>h y (by simp[K])) ?_
  rintro qs ⟨r1,r2,_⟩
  refine Am ⟨by simp[r1],λy K=>?_,λx' Z e ah=>?_⟩;rcases li.1 K with rfl | K;exact⟨ab,ag⟩;exact r2 y K;cases e;exact⟨q,qs,V,ae ah⟩
theorem PF{α:Type}:∀{l acc:List α},Dv (λ(l:List α) x=>some (l++ [x])) l acc=some (acc++l)
 | [],acc=>by simp[Dv]
 | x::l,acc=>by simp only[Dv,Option.bind_some];rw[PF];simp
theorem PO{spl:DJ}:∀{l pre:DJ},spl=pre++l->Dv (Ik spl) l pre.length=some spl.length
 | [],pre,h=>by simp[Dv,h]
 | x::l,pre,h=>by
  have e:Ik spl pre.length x=some (pre.length+1):=by
   unfold Ik;rw[d5 (by rw[h];simp)]
  simp only[Dv,e,Option.bind_some];have:=PO (spl:=spl) (l:=l) (pre:=pre++ [x]) (by rw[h];simp);simpa using this
theorem Wm(ah:5000<F)(K:Dm g):A4 (Kr F g false) (λl=>l.length<=2197/\l≠ []/\∀p∈l,p.length=3):=by
 unfold Kr;refine Bh (λai=>?_) (λai=>?_);exact AK (Ui (by omega) K (by omega)) (λr aj=>Am aj)
 have U:0<g.2.2.2.length:=by omega
 have Z:=K.sl U;have ae:=OI (A:=DJ) (stp:=λ(l:DJ) x=>some (l++ [x])) (ac:=[]) (by omega:100<F) K U;rw[PF,lx] at ae;refine Bb (b:=GQ g.1 g.2.2.2[0].length) ae ?_;have hlen:=Qj K (len:=g.2.2.2[0].length) Z.1;have e2:=OI (A:=Nat) (stp:=Ik (GQ g.1 g.2.2.2[0].length)) (ac:=0) (by omega:100<F) K U;have ag:=PO (spl:=GQ g.1 g.2.2.2[0].length) (l:=GQ g.1 g.2.2.2[0].length) (pre:=[]) V;rw[show([]:DJ).length=0 from rfl] at ag;rw[ag] at e2;refine BI ⟨e2,by unfold GQ;simp,by omega⟩ ?_;have ak:∀x∈GQ g.1 g.2.2.2[0].length,Kw g g.2.2.2[0].length x:=by
  intro x Y;unfold GQ at Y;rcases li.1 Y with rfl | Y;exact .inl (by decide);exact QG K Z.1 Z.2 Y
 refine AK (QS (by omega) K U ak) ?_;rintro qs ⟨ap,aa,al⟩;obtain⟨q,aq,rfl,am⟩:=al _ _ rfl (by decide);refine A4.of_eq (V4 ah (by omega) (λy O=>by have:=(aa y O).1;omega)) ⟨?_,?_,?_⟩
 .have:∀(l:List (List DJ)),(∀y∈l,y.length<=169)->l.flatten.length<=169*l.length:=by
   intro l
   induction l with
   | nil=>intro _;simp
   | cons y l an=>intro h;have ar:=h y (by simp);have au:=an λz ao=>h z (by simp[ao]);rw[lh,lr,lC];omega
  have av:=this _ (λy O=>(aa y O).1);omega
 intro e;rw[lh,List.append_eq_nil_iff] at e;exact am e.1;intro p ab;let⟨y,O,ab⟩:=mt.1 ab;exact(aa y O).2 p ab
def Dp(S:List (List (Int×Bool)))(p:DJ):List Nat:=(List.range S.length).map λi=>if 0<=(p.getD i (-1,0,false)).1 then(S.getD i []).length else 0
theorem IA{p:DJ}:(Dp S p).length=S.length:=by simp[Dp]
theorem OE{p:DJ}(hi:i<S.length)(K:i<p.length):(Dp S p)[i]'(by rw[IA];exact hi)=if 0<=p[i].1 then S[i].length else 0:=by
 unfold Dp;rw[List.getElem_map,List.getElem_range,H7 hi,H7 K]
theorem VS(ah:100<F)(U:Dm g){p:DJ}(ai:p.length=3):Lw F p g=some ((Dp g.2.2.2 p).sum:Int):=by
 have aj:=U.s1;refine De ?_;unfold Lw;refine AK (S:=λr=>r=((Dp g.2.2.2 p).sum:Int)) ?_ (λr Y=>Am Y);refine Cq g.2.2.2.length (λi s=>s.2=(i:Int)/\s.1=(((Dp g.2.2.2 p).take i).sum:Int)/\s.1<=3*i/\0<=s.1) ⟨V,by simp,by simp,by simp⟩ (by omega) ?_ ?_
 .rintro i ⟨t,c⟩ hi ⟨O,K,Z,aa⟩;simp only at O K Z aa;subst O;have ak:=U.sl hi;have ab:i<(Dp g.2.2.2 p).length:=by rw[IA];exact hi
  have ae:((Dp g.2.2.2 p).take (i+1)).sum=((Dp g.2.2.2 p).take i).sum+if 0<=p[i].1 then g.2.2.2[i].length else 0:=by
   rw[lS,d3 ab,OE hi (by omega)];simp
  unfold Mq;refine BI (by simp only;omega) (Bm (m:=i) V hi ?_);refine Bm (m:=i) V (by omega) (AK (S:=λu=>u=(((Dp g.2.2.2 p).take (i+1)).sum:Int)/\u<=3*(i+1)/\0<=u) ?_ ?_);rw[ae];refine Bh (λh=>?_) (λh=>?_);rw[d5 h];exact A1 _ V (by simp only;omega) (by simp only;omega) (Am ⟨by simp only;rw[K];simp,by simp only;omega,by simp only;omega⟩);rw[d7 h];exact Am ⟨by simp only;rw[K];simp,by simp only;omega,by simp only;omega⟩
  rintro u ⟨rfl,al,ag⟩;exact A1 ((i+1:Nat):Int) (by simp) (by omega) (by omega) (Am ⟨V,V,by simp only;omega,ag⟩)
 .rintro⟨t,c⟩ ⟨O,K,_,_⟩;simp only at O K;subst O;subst K;unfold Mq;refine Bj (by simp) (Am ⟨_,V,?_⟩);simp only;rw[me (by rw[IA];exact la _)]
theorem Vs(aj:5000<F)(ag:Dm g){l:List DJ}(ak:l.length<=2197)(ah:l≠ [])(ai:∀p∈l,p.length=3):
  A4 (Lm F g 0 [] l) (λr=>∃p O,r.2=p::O/\p.length=3/\r.1=((Dp g.2.2.2 p).sum:Int)):=by
 unfold Lm;refine AK (S:=λr=>∃p O,r.2=p::O/\p.length=3/\r.1=((Dp g.2.2.2 p).sum:Int)) ?_ (λr Z=>Am Z);refine Cq l.length (λi s=>s.2.2=(i:Int)/\s.2.1.length<=i/\(i=0/\s.2.1=[]∨∃p O,s.2.1=p::O/\p.length=3/\s.1=((Dp g.2.2.2 p).sum:Int))) ⟨V,by simp,.inl ⟨V,V⟩⟩ (by omega) ?_ ?_
 .rintro i ⟨U,xs,c⟩ hi ⟨Y,e2,K⟩;simp only at Y e2 K;subst Y;have ab:=ai _ (k7 hi);unfold Ms;refine BI (by simp only;omega) (Bm (m:=i) V hi ?_);refine Bb (VS (by omega) ag ab) (AK (S:=λb=>b=decide (xs=[]∨U<((Dp g.2.2.2 l[i]).sum:Int))) ?_ ?_)
  .refine Bh (λh=>?_) (λh=>?_);have:xs=[]:=mo.1 (by simp only at h;omega);exact Am (by simp[this])
   .have:xs≠ []:=by rintro rfl;simp at h
    exact Am (by simp[this])
  rintro b rfl;refine AK (S:=λq=>(xs=[]∨U<((Dp g.2.2.2 l[i]).sum:Int))/\q=(((Dp g.2.2.2 l[i]).sum:Int),[])∨¬(xs=[]∨U<((Dp g.2.2.2 l[i]).sum:Int))/\q=(U,xs)) ?_ ?_;refine Bh (λh=>Am (.inl ⟨nj h,V⟩)) (λh=>Am (.inr ⟨λe=>h (mn e),V⟩))
  rintro q (⟨ae,rfl⟩ | ⟨ae,rfl⟩)
  .refine AK (S:=λr=>r=[l[i]]) ?_ ?_;refine BI V (Bb (b:=[l[i]]) (by unfold CJ;rw[d5 (by simp)];rfl) ?_);exact Am V
   rintro r rfl;exact A1 ((i+1:Nat):Int) (by simp) (by omega) (by omega) (Am ⟨V,by simp,.inr ⟨l[i],[],V,ab,V⟩⟩)
  .obtain⟨p,O,f1,f2,f3⟩:∃p O,xs=p::O/\p.length=3/\U=((Dp g.2.2.2 p).sum:Int):=by
    rcases K with⟨_,K⟩ | K;exact absurd (.inl K) ae;exact K
   refine AK (S:=λr=>∃aa,r=p::aa/\r.length<=i+1) ?_ ?_;refine Bh (λ_=>?_) (λ_=>Am ⟨O,f1,by simp only;omega⟩);exact Bb (b:=xs++ [l[i]]) (by unfold CJ;rw[d5 (by simp;omega)]) (Am ⟨O++ [l[i]],by rw[f1];rfl,by simp;omega⟩)
   rintro r ⟨aa,rfl,Z⟩;exact A1 ((i+1:Nat):Int) (by simp) (by omega) (by omega) (Am ⟨V,Z,.inr ⟨p,aa,V,f2,f3⟩⟩)
 .rintro⟨U,xs,c⟩ ⟨Y,e2,K⟩;simp only at Y e2 K;subst Y;unfold Ms;refine Bj (by simp) (Am ⟨_,V,?_⟩);rcases K with⟨K,_⟩ | K;exact absurd (mo.1 K) ah;exact K
theorem Oq(F:Nat)(a lo hi:Int):IQ F a lo hi=some (!decide (lo<=a/\a<=hi)):=by
 unfold IQ;by_cases h:a<lo;have:decide (lo<=a/\a<=hi)=false:=mp (by omega);rw[d5 h,this];rfl;rw[d7 h];by_cases K:hi<a;have:decide (lo<=a/\a<=hi)=false:=mp (by omega);rw[this,mn K];rfl;have:decide (lo<=a/\a<=hi)=true:=mn (by omega);rw[this,mp K];rfl
theorem Vv{n:Int}(K:100<F)(h:IY n w)(O:1<=n)(U:n<=5):Lo F w n=some 0:=by
 have Y:=h.l;refine De ?_;unfold Lo;refine Bj (by omega) ?_;refine AK (S:=λq=>q=Sum.inr ()) ?_ (by rintro q rfl;exact Am rfl);refine Cq w.length (λi s=>s=(i:Int)) V (by omega) ?_ ?_
 .rintro i s hi rfl;have hb:=h.b _ (k7 hi);unfold MG;refine BI (by omega) (Bm (m:=i) V hi ?_);refine A1 (n - 1) V (by omega) (by omega) (Bb (Oq F _ _ _) ?_);refine Bj (by simp;omega) (AK (S:=λc=>c=false) ?_ ?_);refine Bh (λZ=>?_) (λ_=>Am V);obtain⟨j,rfl⟩:∃j,i=j+1:=⟨i - 1,by omega⟩;have aa:=h.o j hi;refine A1 (j:Int) (by omega) (by omega) (by omega) (Bm (m:=j) V (by omega) ?_);exact Am (by simp;omega)
  rintro c rfl;refine Bj (by decide) (A1 ((i+1:Nat):Int) (by simp) (by omega) (by omega) ?_);exact Am V
 .rintro s rfl;unfold MG;exact Bj (by omega) (Am ⟨_,V,V⟩)
theorem Vn{s:List (Int×Bool)}(O:100<F)(h:1<=s.length/\s.length<=3/\∀m∈s,m.1=0∨m.1=1∨m.1=2):LC F s=some 0:=by
 obtain⟨U,Y,K⟩:=h;refine De ?_;unfold LC;refine Bj (by omega) (Bj (by omega) ?_);refine AK (S:=λq=>q=Sum.inr ()) ?_ (by rintro q rfl;exact Am rfl);refine Cq s.length (λi s=>s=(i:Int)) V (by omega) ?_ ?_
 .rintro i c hi rfl;have hb:=K _ (k7 hi);unfold MD;refine BI (by omega) (Bm (m:=i) V hi ?_);refine AK (S:=λq=>q=Sum.inr ()) ?_ ?_;refine Bh (λ_=>Am V) (λa1=>Bh (λ_=>Am V) (λZ=>Bh (λ_=>Am V) (λaa=>?_)));omega
  rintro q rfl;rw[Sum.elim_inr];exact A1 ((i+1:Nat):Int) (by simp) (by omega) (by omega) (Am V)
 .rintro c rfl;unfold MD;exact Bj (by omega) (Am ⟨_,V,V⟩)
theorem Vz(U:100<F)(K:Dm g):Lg F g=some 0:=by
 have a1:=K.l1;have Y:=K.l2;have Z:=K.s1;have aa:=K.w1;have ab:=K.r;refine De ?_;unfold Lg;refine Bj (by omega) ?_;refine Bj (by omega) ?_;refine AK (S:=λq=>q=Sum.inr ()) ?_ ?_;refine Cq g.1.length (λi s=>s=(i:Int)) V (by omega) ?_ ?_;rintro i c hi rfl;have hb:=K.ln _ (k7 hi);unfold Mo;refine BI (by omega) (Bm (m:=i) V hi ?_);refine Bb (Oq F _ _ _) (Bj (by simp;omega) ?_);exact A1 ((i+1:Nat):Int) (by simp) (by omega) (by omega) (Am V);rintro c rfl;unfold Mo;exact Bj (by omega) (Am ⟨_,V,V⟩)
 rintro q rfl;rw[Sum.elim_inr];refine Bj (by omega) (AK (S:=λq=>q=Sum.inr ()) ?_ ?_)
 .refine Cq g.2.1.length (λi s=>s=(i:Int)) V (by omega) ?_ ?_
  .rintro i c hi rfl;have O:i<g.1.length:=by omega
   have hb:=K.ln _ (k7 O);unfold My;refine BI (by omega) ?_;refine Bm (m:=i) V hi ?_;refine Bm (m:=i) V O ?_;refine Bb (Vv U (K.wr i O hi) (by omega) (by omega)) ?_;refine Bj (by simp) ?_;refine A1 ((i+1:Nat):Int) (by simp) (by omega) (by omega) ?_;exact Am V
  .rintro c rfl;unfold My;exact Bj (by omega) (Am ⟨_,V,V⟩)
 rintro q rfl;rw[Sum.elim_inr];refine Bb (Oq F _ _ _) (Bj (by simp;omega) ?_);refine Bj (by omega) (AK (S:=λq=>q=Sum.inr ()) ?_ (by rintro q rfl;exact Am rfl));refine Cq g.2.2.2.length (λi s=>s=(i:Int)) V (by omega) ?_ ?_;rintro i c hi rfl;unfold MM;refine BI (by omega) (Bm (m:=i) V hi ?_);refine Bb (Vn U (K.sn _ (k7 hi))) (Bj (by simp) ?_);exact A1 ((i+1:Nat):Int) (by simp) (by omega) (by omega) (Am V);rintro c rfl;unfold MM;exact Bj (by omega) (Am ⟨_,V,V⟩)
theorem V3(K:100<F)(O:Dm g):Lq F g []=some (g,0):=by
 refine De ?_;unfold Lq;refine Bb (Vz K O) (Bj (by simp) ?_);refine AK (S:=λq=>q=Sum.inr ()) ?_ (by rintro q rfl;exact Am rfl);refine Cq 0 (λi s=>s=(i:Int)) V (by omega) (by intro i s hi;omega) ?_;rintro c rfl;unfold Ou;exact Bj (by simp) (Am ⟨_,V,V⟩)
theorem V5(O:5000<F)(K:Dm g):A4 (Kp F g) (λr=>∃p:DJ,p.length=3/\r=(p.take g.2.2.2.length,((Dp g.2.2.2 p).sum:Int),0)):=by
 have ae:=K.s1;unfold Kp;refine Bb (V3 (by omega) K) ?_;refine Bj (by simp) ?_;refine AK (Wm O K) ?_;rintro l ⟨l1,l2,Z⟩;refine AK (Vs O K l1 l2 Z) ?_;rintro⟨ag,xs⟩ ⟨p,ah,U,aa,Y⟩;simp only at U Y;subst U;subst Y;refine Bb (b:=p) (by simp[ix]) ?_;refine Bb (b:=p.take g.2.2.2.length) ?_ (Am ⟨p,aa,V⟩);unfold Nj Ns K7;have ab:EY p 0 (g.2.2.2.length:Int)=some (p.take g.2.2.2.length):=by
  unfold EY;rw[d5 (by omega)];simp
 have e2:CJ ([]:DJ) (p.take g.2.2.2.length)=some (p.take g.2.2.2.length):=by
  unfold CJ;rw[d5 (by simp;omega)];rfl
 rw[ab,Option.bind_some,e2];rfl
theorem IY.snoc{n:Int}(U:w.length<3)(hb:∀x∈w,0<=x/\x<(i:Int))(O:∀(j:Nat) (h:j+1<w.length),w[j]<w[j+1]):
  (∀x∈w++ [(i:Int)],0<=x/\x<((i+1:Nat):Int))/\∀(j:Nat) (h:j+1<(w++ [(i:Int)]).length),(w++ [(i:Int)])[j]<(w++ [(i:Int)])[j+1]:=by
 refine⟨λx K=>?_,λj h=>?_⟩;rcases lm.1 K with K | K;have:=hb x K;omega;simp at K;omega;rw[lr,m2] at h;rw[mR (by omega)];by_cases e:j+1<w.length;rw[mR e];exact O j e;rw[m9 (by omega)];have:=(hb _ (k7 (show j<w.length by omega))).2;simp;exact this
theorem TI{k:Nat}{x:Int×GX}(ak:100<F)(al:1<=x.1)(am:x.1<=3)(hb:BG k x.2)(an:k<1000):
  A4 (Pal.iter (KX F x) F (x.2.1,x.2.2.1,x.2.2.2,[],0)) (λr=>IY x.1 r.1/\BG (k+3) r.2):=by
 refine Cq x.1.toNat (λi s=>s.2.2.2.2=(i:Int)/\s.2.2.2.1.length<=i/\(∀y∈s.2.2.2.1,0<=y/\y<(i:Int))/\(∀(j:Nat) (h:j+1<s.2.2.2.1.length),s.2.2.2.1[j]<s.2.2.2.1[j+1])/\BG (k+i) (s.1,s.2.1,s.2.2.1)) ⟨V,by simp,by simp,by simp,hb⟩ (by omega) ?_ ?_
 .rintro i ⟨ab,ae,ag,w,c⟩ hi ⟨Y,e2,K,O,U⟩;simp only at Y e2 K O U;subst Y;unfold KX;refine AK (S:=λq=>q=true->w.length<3) ?_ ?_;refine BI (by simp only;omega) (Am λh=>?_);have:=nj h;simp only at this;omega
  intro q ah;refine Bh (λh=>?_) (λh=>Am ?_)
  .have hw:=ah h;refine AK (OR U (by omega) (by omega) (by omega)) ?_;rintro⟨o,ao⟩ aa;simp only at aa;refine AK (S:=λw'=>w'.length<=i+1/\(∀y∈w',0<=y/\y<((i+1:Nat):Int))/\(∀(j:Nat) (h:j+1<w'.length),w'[j]<w'[j+1])) ?_ ?_;refine Bh (λ_=>?_) (λ_=>Am ⟨by simp only;omega,λy Z=>by have:=K y Z;omega,O⟩);refine KQ (by simp only;omega) ?_;have:=IY.snoc (n:=x.1) hw K O;exact Am ⟨by simp only[lr,m2];omega,this.1,this.2⟩
   rintro w' ⟨ai,g2,aj⟩;exact A1 ((i+1:Nat):Int) (by simp) (by omega) (by omega) (Am ⟨V,ai,g2,aj,aa⟩)
  .exact⟨⟨by simp only;omega,λy Z=>by have:=K y Z;omega,O⟩,U.Ad (by omega)⟩
 .rintro⟨ab,ae,ag,w,c⟩ ⟨Y,e2,K,O,U⟩;simp only at Y e2 K O U;subst Y;unfold KX;refine AK (S:=λq=>q=false) (Bj (by simp only;omega) (Am V)) ?_;rintro q rfl;refine Bj (by decide) (Am ⟨_,V,?_⟩);exact⟨⟨by simp only;omega,λy Z=>by have:=K y Z;omega,O⟩,U.Ad (by omega)⟩
structure LW (l:List Int) (w:List (List Int)):Prop where
 e:w.length=l.length
 n:∀x∈l,1<=x/\x<=3
 w:∀(i:Nat) (h:i<l.length) (K:i<w.length),IY l[i] w[i]
theorem LW.snoc{w:List (List Int)}(h:LW l w){x:Int}{y:List Int}(O:1<=x/\x<=3)(U:IY x y):LW (l++ [x]) (w++ [y]):=by
 refine⟨by simp[h.e],λz K=>?_,λi Y aa=>?_⟩;rcases lm.1 K with K | K;exact h.n z K;simp at K;subst K;exact O
 .by_cases e:i<l.length;rw[mR e,mR (by rw[h.e];exact e)];exact h.w i e _
  .have Z:i=l.length:=by simp at Y;omega
   subst Z;rw[m9 (la _),m9 (by rw[h.e];exact la _)];simp[h.e,U]
theorem Uf{T:Nat}(ak:100<F)(ap:1<=T)(aq:T<=2)(hb:BG 3 b):
  A4 (Pal.iter (Mp F 3) F ([],[],b.1,b.2.1,b.2.2,(T:Int))) (λr=>r.2.2.2.1.length=T/\LW r.2.2.2.1 r.2.2.2.2/\BG 30 (r.1,r.2.1,r.2.2.1)):=by
 refine J3 (λm s=>s.2.2.2.2.2=(m:Int)/\s.1.length+m=T/\LW s.1 s.2.1/\BG (3+10*s.1.length) (s.2.2.1,s.2.2.2.1,s.2.2.2.2.1)) ?_ (m:=T) ⟨V,by simp,⟨V,by simp,by simp⟩,hb⟩ (by omega);rintro m ⟨l,w,ar,au,av,c⟩ ⟨Z,e2,K,O⟩;simp only at Z e2 K O;subst Z;unfold Mp;refine Bh (λh=>?_) (λh=>?_)
 .obtain⟨m,rfl⟩:∃q,m=q+1:=⟨m - 1,by simp only at h;omega⟩;refine AK (RD O (by omega) (by omega) (by omega) (by omega)) ?_;rintro x ⟨aa,ab,al⟩;refine AK (TI ak aa ab al (by omega)) ?_;rintro⟨w1,aw⟩ ⟨ae,U⟩;simp only at ae U;refine AK (S:=λq=>BG (3+10*l.length+5) q.2) ?_ ?_;refine Bh (λ_=>?_) (λ_=>Am (U.Ad (by omega)));refine AK (OR U (by omega) (by omega) (by omega)) ?_;rintro q am;exact Am (am.Ad (by omega))
  rintro⟨on,bb2⟩ Y;simp only at Y;refine AK (S:=λq=>IY x.1 q.1/\BG (3+10*l.length+6) q.2) ?_ ?_;refine Bh (λ_=>?_) (λ_=>Am ⟨ae,Y.Ad (by omega)⟩);refine A1 (x.1 - 1) V (by omega) (by omega) (AK (Kc Y (by omega) (by omega)) ?_);rintro⟨y,bb3⟩ ⟨an,y2,ag⟩;simp only at an y2 ag;refine Am ⟨⟨by simp,λz ah=>?_,λj ao=>by simp at ao⟩,ag.Ad (by omega)⟩;simp at ah;subst ah;omega
  rintro⟨w2,ay⟩ ⟨ai,aj⟩;simp only at ai aj;refine A4.JC (by simp;omega) (A4.JC (by have:=K.e;simp;omega) ?_);refine A1 (m:Int) (by simp) (by omega) (by omega) (Am ⟨m,by omega,V,by simp;omega,K.snoc ⟨aa,ab⟩ ai,?_⟩);exact aj.Ad (by simp;omega)
 .have hm:m=0:=by simp only at h;omega
  subst hm;exact Am ⟨by simp only;omega,K,O.Ad (by omega)⟩
theorem Wx{k:Nat}(hb:BG k b)(Y:k<1000):A4 (Li F b) (λr=>(r.1.1=0∨r.1.1=1∨r.1.1=2)/\BG (k+2) r.2):=by
 unfold Li;refine AK (MZ hb (by omega) (by simp) (by simp)) ?_;rintro⟨x,Z⟩ ⟨K,O⟩;simp only at K O;refine AK (OR O (by omega) (by omega) (by omega)) ?_;rintro y U;refine Am ⟨?_,U.Ad (by omega)⟩;simp at K;simp only;omega
theorem Vu{k:Nat}{n:Int}(ah:100<F)(hb:BG k b)(ai:k<900)(ab:1<=n)(aj:n<=3):A4 (Lk F b n) (λr=>(1<=r.1.length/\r.1.length<=3/\∀m∈r.1,m.1=0∨m.1=1∨m.1=2)/\BG (k+7) r.2):=by
 unfold Lk;refine AK (RD hb (by omega) (by omega) ab (by omega)) ?_;rintro⟨x,ak⟩ ⟨a1,ae,Y⟩;simp only at a1 ae Y;refine AK (S:=λr=>(1<=r.1.length/\r.1.length<=3/\∀m∈r.1,m.1=0∨m.1=1∨m.1=2)/\BG (k+7) r.2) ?_ (λr ag=>Am ag);refine J3 (λm s=>s.2.2.2.2=(m:Int)/\s.2.2.2.1.length+m=x.toNat/\(∀z∈s.2.2.2.1,z.1=0∨z.1=1∨z.1=2)/\BG (k+1+2*s.2.2.2.1.length) (s.1,s.2.1,s.2.2.1)) ?_ (m:=x.toNat) ⟨by simp only;omega,by simp,by simp,Y⟩ (by omega);rintro m ⟨al,am,an,l,c⟩ ⟨Z,e2,O,U⟩;simp only at Z e2 O U;subst Z;unfold Ox;refine Bh (λh=>?_) (λh=>?_);obtain⟨m,rfl⟩:∃q,m=q+1:=⟨m - 1,by simp only at h;omega⟩;refine AK (Wx U (by omega)) ?_;rintro⟨z,ao⟩ ⟨z1,aa⟩;simp only at z1 aa;refine KQ (by simp only;omega) (A1 (m:Int) (by simp) (by omega) (by omega) ?_);refine Am ⟨m,by omega,V,by simp;omega,λy K=>?_,?_⟩;rcases lm.1 K with K | K;exact O y K;simp at K;subst K;exact z1;exact aa.Ad (by simp;omega)
 .have hm:m=0:=by simp only at h;omega
  subst hm;exact Am ⟨⟨by simp only;omega,by simp only;omega,O⟩,U.Ad (by omega)⟩
theorem VE(U:100<F)(hb:BG 0 b):A4 (Lt F b 3 3) (λr=>Dm r.1):=by
 unfold Lt;refine AK (Kc hb (by omega) (by omega)) ?_;rintro⟨au,ak⟩ ⟨a1,al,Y⟩;simp only at a1 al Y;refine AK (MZ Y (by omega) (by simp) (by simp)) ?_;rintro⟨av,am⟩ ⟨c1,c2⟩;simp only at c1 c2;refine AK (MZ c2 (by omega) (by simp) (by simp)) ?_;rintro⟨Z,an⟩ ⟨d1,d2⟩;simp only at d1 d2;obtain⟨T,rfl,ao,ap⟩:∃T:Nat,Z=(T:Int)/\1<=T/\T<=2:=⟨Z.toNat,by simp at d1;omega,by simp at d1;omega,by simp at d1;omega⟩;refine AK (Uf U ao ap d2) ?_;rintro⟨aw,ay,az,l,w⟩ ⟨aq,g2,aa⟩;simp only at aq g2 aa;refine AK (Kc aa (by omega) (by omega)) ?_;rintro⟨ab,aA⟩ ⟨s1,s2,ae⟩;simp only at s1 s2 ae;refine AK (S:=λr=>r.2.2.2.length<=3/\∀s∈r.2.2.2,1<=s.length/\s.length<=3/\∀m∈s,m.1=0∨m.1=1∨m.1=2) ?_ ?_
 .refine J3 (λm s=>s.2.2.2.2=(m:Int)/\s.1.length+m=ab.toNat/\(∀z∈s.1,1<=z.length/\z.length<=3/\∀m∈z,m.1=0∨m.1=1∨m.1=2)/\BG (31+10*s.1.length) (s.2.1,s.2.2.1,s.2.2.2.1)) ?_ (m:=ab.toNat) ⟨by simp only;omega,by simp,by simp,ae⟩ (by omega);rintro m ⟨ar,ak,am,an,c⟩ ⟨ag,e2,O,ah⟩;simp only at ag e2 O ah;subst ag;unfold OB;refine Bh (λh=>?_) (λh=>?_);obtain⟨m,rfl⟩:∃q,m=q+1:=⟨m - 1,by simp only at h;omega⟩;refine AK (MZ ah (by omega) (by simp) (by simp)) ?_;rintro⟨n,aB⟩ ⟨n1,n2⟩;simp only at n1 n2;simp at n1;refine AK (Vu U n2 (by omega) (n:=n) (by omega) (by omega)) ?_;rintro⟨s,bb2⟩ ⟨ai,aj⟩;simp only at ai aj;refine A4.JC (by simp;omega) (A1 (m:Int) (by simp) (by omega) (by omega) ?_);refine Am ⟨m,by omega,V,by simp;omega,λy K=>?_,?_⟩;rcases lm.1 K with K | K;exact O y K;simp at K;subst K;exact ai;exact aj.Ad (by simp;omega)
  .have hm:m=0:=by simp only at h;omega
   subst hm;exact Am ⟨by simp only;omega,O⟩
 rintro⟨p1,p2,p3,ar⟩ ⟨t1,t2⟩;simp only at t1 t2;refine Am ⟨by simp only;omega,by simp only;omega,g2.n,g2.e,g2.w,?_,t1,t2⟩;simp at c1;simp only;omega
def F4(v:List Nat)(n:Nat):List DT:=(List.range n).filterMap λj=>if 0<v.getD j 0 then some ((j:Int)+1,0,(v.getD j 0:Int)) else none
def oV(v:List Nat):OW:=(List.replicate (v.length+1) [],F4 v v.length)
def Lx(v:List Nat):Bool:=decide (K8 (IU (oV v))=F4 v v.length)&&(decide (((Ch (oV v)).take (v.length+1)).length=v.length+1)&&decide (((Ch (oV v)).take (v.length+1))[0]?=some (v.sum:Int)))
theorem YS:∀a,a<4->Lx [a]=true:=by decide+kernel
theorem Yh:∀a,a<4->∀b,b<4->Lx [a,b]=true:=by decide+kernel
theorem Yj:∀a,a<4->∀b,b<4->∀c,c<4->Lx [a,b,c]=true:=by decide+kernel
variable{v:List Nat}
theorem star(U:1<=v.length)(K:v.length<=3)(h:∀x∈v,x<=3):K8 (IU (oV v))=F4 v v.length/\((Ch (oV v)).take (v.length+1)).length=v.length+1/\((Ch (oV v)).take (v.length+1))[0]?=some (v.sum:Int):=by
 have O:Lx v=true:=by
  match v,U,K,h with
  | [a],_,_,h=>exact YS a (by have:=h a (by simp);omega)
  | [a,b],_,_,h=>exact Yh a (by have:=h a (by simp);omega) b (by have:=h b (by simp);omega)
  | [a,b,c],_,_,h=>exact Yj a (by have:=h a (by simp);omega) b (by have:=h b (by simp);omega) c (by have:=h c (by simp);omega)
  | _::_::_::_::_,_,K,_=>simp at K
 unfold Lx at O;simp only[f5,mZ] at O;exact O
theorem Ut(h:d∈F4 v n):∃j,j<n/\0<v.getD j 0/\d=((j:Int)+1,0,(v.getD j 0:Int)):=by
 unfold F4 at h;let⟨j,K,hd⟩:=nE.1 h;split at hd;exact⟨j,by simpa using K,by assumption,(d6 hd).symm⟩;cases hd
theorem Om(v:List Nat)(n:Nat):(F4 v n).length<=n:=by
 unfold F4;exact mB (n3 _ _) (by simp)
theorem T5(v:List Nat)(n:Nat):F4 v (n+1)=F4 v n++if 0<v.getD n 0 then [((n:Int)+1,0,(v.getD n 0:Int))] else []:=by
 unfold F4;rw[n7,ob];congr 1;simp only[List.filterMap_cons,List.filterMap_nil];by_cases h:0<v.getD n 0;rw[d5 h,d5 h];rw[d7 h,d7 h]
theorem YJ(Z:1<=v.length)(aa:v.length<=3)(h:∀x∈v,x<=3):VO (oV v):=by
 refine⟨by unfold oV;simp;omega,by unfold oV;simp;omega,λx K=>?_,by unfold oV;have:=Om v v.length;simp only;omega,λd hd=>?_⟩;unfold oV at K;rw[lY K];exact⟨by simp,by simp⟩;obtain⟨j,O,U,rfl⟩:=Ut hd;have Y:v.getD j 0=v[j]:=H7 O;have K:=h _ (k7 O);rw[Y] at U ⊢;unfold VD oV;simp only[n9];omega
theorem PH:Lc 5001=some true:=by decide+kernel
theorem VV{nums:List Int}:Nt 5001 nums=some true:=by
 refine De ?_;unfold Nt;refine Bb (b:=(nums,0,2685821657736338717)) V (AK (VE (by omega) ⟨by simp,by simp⟩) ?_);rintro⟨g,au⟩ U;simp only at U;refine AK (V5 (by omega) U) ?_;rintro av ⟨p,aw,rfl⟩;have ay:=U.s1;have O:(p.take g.2.2.2.length).length=g.2.2.2.length:=by rw[nY];omega
 refine AK (S:=λc=>c=false) ?_ ?_;refine Bj (by simp) (Am ?_);simp only[O];simp
 rintro c rfl;refine Bj (by decide) (Bh (λaa=>?_) (λaa=>?_))
 .simp only [O] at aa;refine AK (S:=λc=>c=true) ?_ (by rintro c rfl;exact Am rfl);refine BI ?_ (Bb PH (Am V));have:Dp g.2.2.2 p=[]:=by
   apply mo.1;rw[IA];omega
  simp only[this];rfl
 simp only[O] at aa ⊢;have ab:1<=(Dp g.2.2.2 p).length:=by rw[IA];omega
 have ae:(Dp g.2.2.2 p).length<=3:=by rw[IA];omega
 have ag:∀x∈Dp g.2.2.2 p,x<=3:=by
  intro x am;obtain⟨i,hi,rfl⟩:=List.getElem_of_mem am;have K:i<g.2.2.2.length:=by rw[IA] at hi;exact hi
  rw[OE K (by omega)];have:=U.sl K;split<;>omega
 let⟨an,az,ao⟩:=star ab ae ag;have ah:=YJ ab ae ag;generalize ai:Dp g.2.2.2 p=v at*;have aj:v.length=g.2.2.2.length:=by rw[← ai,IA]
 refine A1 ((v.length+1:Nat):Int) (by rw[aj];simp) (by omega) (by omega) (Bb (b:=List.replicate (v.length+1) []) (by unfold Jk;rw[d5 (by omega)];simp) ?_);refine AK (S:=λr=>r=F4 v v.length) ?_ ?_
 .refine Cq v.length (λi s=>s.2=(i:Int)/\s.1=F4 v i) ⟨V,V⟩ (by omega) ?_ ?_
  .rintro i ⟨l,c⟩ hi ⟨Y,Z⟩;simp only at Y Z;subst Y;subst Z;have K:i<g.2.2.2.length:=by omega
   have ap:v.getD i 0=if 0<=p[i].1 then g.2.2.2[i].length else 0:=by
    rw[H7 hi];have:=OE (S:=g.2.2.2) (p:=p) K (by omega);simp only[ai] at this;exact this
   have aA:=U.sl K;have aB:=Om v i;have aq:(p.take g.2.2.2.length)[i]'(by rw[O];exact K)=p[i]:=List.getElem_take;unfold MQ;refine BI (by simp only[O];omega) ?_;refine Bm (m:=i) V (by rw[O];exact K) ?_;rw[aq];refine AK (S:=λr=>r=F4 v (i+1)) ?_ ?_;rw[T5,ap];refine Bh (λh=>?_) (λh=>?_);rw[d5 h,d5 (by omega)];refine A1 ((i:Int)+1) V (by omega) (by omega) (Bm (m:=i) V K ?_);exact A4.JC (by simp;omega) (Am V);rw[d7 h,d7 (by omega),lf];exact Am V
   rintro r rfl;exact A1 ((i+1:Nat):Int) (by simp) (by omega) (by omega) (Am ⟨V,V⟩)
  .rintro⟨l,c⟩ ⟨Y,Z⟩;simp only at Y Z;subst Y;subst Z;unfold MQ;exact Bj (by simp only[O];omega) (Am ⟨_,V,V⟩)
 rintro r rfl;have ak:=Xs (F:=5001) (by omega) ah;have al:=X5 (F:=5001) (by omega) ah;have ar:(oV v).1.length=v.length+1:=by unfold oV;simp
 rw[ar] at ak;rw[an] at al;refine Bb ak (Bb al ?_);refine AK (S:=λc=>c=true) (BI V (Am V)) ?_;rintro c rfl;refine AK (S:=λc=>c=true) ?_ ?_;refine BI V (A1 ((v.length+1:Nat):Int) (by rw[aj];simp) (by omega) (by omega) ?_);exact Am (mn (by simp only;omega))
 rintro c rfl;refine AK (S:=λc=>c=true) ?_ ?_;refine BI V (Bb (b:=(v.sum:Int)) (IJ (m:=0) V ao) ?_);exact Am (mn V)
 rintro c rfl;refine AK (S:=λc=>c=true) ?_ ?_;refine BI V (Bb (X8 (by omega) (show(F4 v v.length).length<=40 by have:=Om v v.length;omega)) (Am V))
 rintro c rfl;refine AK (S:=λc=>c=true) ?_ (by rintro c rfl;exact Am rfl);exact BI V (Bb PH (Am V))
end Pal
