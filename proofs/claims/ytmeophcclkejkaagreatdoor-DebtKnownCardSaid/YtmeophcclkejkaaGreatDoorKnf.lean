/- DebtKnown states that the examples of the chapter have the results given there.: a part (6 of 9) of the proof of its row. -/
import Derived.Test.YtmeophcclkejkaaGreatDoorKne
set_option linter.all false
set_option maxRecDepth 100000
namespace Pal
open Go Go.Conc Go.Proofs
noncomputable def NM(fu_:Nat):Option (Bool):=
 (EA fu_).bind λU=>
 (EA fu_).bind λK=>
 (G9 U.1 0 1).bind λaz=>
 (ix K.1 (0)).bind λdq=>
 (f18 fu_).bind λa0=>
 Option.bind (
  if(!a0)=true then(
   some true
  ) else(
   (EA fu_).bind λa1=>
   (f47 fu_ a1).bind λa2=>
   some (decide (a2≠0))
  )
 ) λa3=>
 Option.bind (
  if a3=true then(
   some true
  ) else(
   (f47 fu_ (az,U.2)).bind λa4=>
   some (decide (a4≠7))
  )
 ) λa5=>
 Option.bind (
  if a5=true then(
   some (true,(K.1.set (Int.toNat 0) ([1,1,1,1]:List Int)))
  ) else(
   (f47 fu_ ((K.1.set (Int.toNat 0) ([1,1,1,1]:List Int)),K.2)).bind λa6=>
   some (decide (a6≠6),(K.1.set (Int.toNat 0) ([1,1,1,1]:List Int)))
  )
 ) λa7=>
 Option.bind (
  if a7.1=true then(
   some true
  ) else(
   (JF fu_ ([]) ([4,0,1]:List Int)).bind λa8=>
   (f47 fu_ a8).bind λa9=>
   some (decide (a9≠3))
  )
 ) λbb=>
 Option.bind (
  if bb=true then(
   some true
  ) else(
   (JF fu_ ([]) ([0,0,1]:List Int)).bind λbd=>
   (f47 fu_ bd).bind λbe=>
   some (decide (be≠8))
  )
 ) λbi=>
 Option.bind (
  if bi=true then(
   some true
  ) else(
   (JF fu_ ([]) ([0,1,0]:List Int)).bind λbn=>
   (f47 fu_ bn).bind λbo=>
   some (decide (bo≠1))
  )
 ) λbv=>
 if bv=true then(
  some false
 ) else(
  (EA fu_).bind λbw=>
  (f45 fu_ bw).bind λV=>
  (JF fu_ ([]) ([1,0,7]:List Int)).bind λbx=>
  (f45 fu_ bx).bind λY=>
  (EA fu_).bind λZ=>
  (EA fu_).bind λbz=>
  (G9 Z.2 0 4).bind λbY=>
  (JN fu_ ([0,1,9,1,0,9]:List Int)).bind λbZ=>
  (f33 fu_ (Z.1,bY)).bind λb0=>
  (EA fu_).bind λb1=>
  (f52 fu_ b1).bind λac=>
  (f52 fu_ (bz.1,bZ)).bind λag=>
  Option.bind (
   if V.2≠0 then(
    some true
   ) else(
    some (decide (Y.2≠0))
   )
  ) λb2=>
  Option.bind (
   if b2=true then(
    some true
   ) else(
    some (decide (b0.2≠11))
   )
  ) λb3=>
  Option.bind (
   if b3=true then(
    some true
   ) else(
    some (decide (ac.2≠0))
   )
  ) λb4=>
  Option.bind (
   if b4=true then(
    some true
   ) else(
    some (decide (ag.2≠0))
   )
  ) λb5=>
  Option.bind (
   if b5=true then(
    some true
   ) else(
    (JN fu_ ([0,1,5,0,3,1,1,2,5,2,3,2,3,1,1]:List Int)).bind λb6=>
    (f26 fu_ V.1 b6).bind λb7=>
    some (!b7)
   )
  ) λb8=>
  Option.bind (
   if b8=true then(
    some true
   ) else(
    (JN fu_ ([0,3,1,1,0,2,1,2,5,2,3,2,3,1,1]:List Int)).bind λb9=>
    (f26 fu_ Y.1 b9).bind λca=>
    some (!ca)
   )
  ) λcb=>
  Option.bind (
   if cb=true then(
    some true
   ) else(
    (f29 fu_ ac.1 ([0,0,0,0]:List Int)).bind λcc=>
    some (!cc)
   )
  ) λcd=>
  Option.bind (
   if cd=true then(
    some true
   ) else(
    (f29 fu_ ag.1 ([0,1,2,3]:List Int)).bind λce=>
    some (!ce)
   )
  ) λcf=>
  if cf=true then(
   some false
  ) else(
   (EA fu_).bind λcg=>
   (Ja fu_).bind λci=>
   (Lc fu_ cg ci).bind λck=>
   Option.bind (
    if ck≠0 then(
     some true
    ) else(
     (EA fu_).bind λcm=>
     (Lc fu_ cm ([])).bind λcn=>
     some (decide (cn≠9))
    )
   ) λco=>
   Option.bind (
    if co=true then(
     some true
    ) else(
     (EA fu_).bind λcp=>
     (Ja fu_).bind λcq=>
     (JN fu_ ([1,0,1]:List Int)).bind λcr=>
     (Dw cq cr).bind λct=>
     (Lc fu_ cp ct).bind λcu=>
     some (decide (cu≠4))
    )
   ) λcv=>
   Option.bind (
    if cv=true then(
     some true
    ) else(
     (EA fu_).bind λcw=>
     (Ja fu_).bind λcy=>
     (JN fu_ ([1,1,1]:List Int)).bind λcz=>
     (Dw cy cz).bind λcA=>
     (Lc fu_ cw cA).bind λcB=>
     some (decide (cB≠8))
    )
   ) λcC=>
   if cC=true then(
    some false
   ) else(
    (EA fu_).bind λcD=>
    (f50 fu_ cD 0 1).bind λal=>
    (EA fu_).bind λcE=>
    (f50 fu_ cE 1 0).bind λam=>
    (EA fu_).bind λcF=>
    (f50 fu_ cF 2 2).bind λcG=>
    (EA fu_).bind λcH=>
    (f58 fu_ cH 0 1).bind λap=>
    (EA fu_).bind λcI=>
    (f39 fu_ cI).bind λaq=>
    Option.bind (
     if al.2≠0 then(
      some true
     ) else(
      some (decide (am.2≠0))
     )
    ) λcJ=>
    Option.bind (
     if cJ=true then(
      some true
     ) else(
      some (decide (cG.2≠8))
     )
    ) λcK=>
    Option.bind (
     if cK=true then(
      some true
     ) else(
      some (decide (ap.2≠0))
     )
    ) λcM=>
    Option.bind (
     if cM=true then(
      some true
     ) else(
      some (decide (aq.2≠0))
     )
    ) λcN=>
    Option.bind (
     if cN=true then(
      some true
     ) else(
      some (decide (al.1≠3))
     )
    ) λcO=>
    Option.bind (
     if cO=true then(
      some true
     ) else(
      some (decide (am.1≠2))
     )
    ) λcP=>
    Option.bind (
     if cP=true then(
      some true
     ) else(
      some (decide (ap.1≠3))
     )
    ) λcQ=>
    Option.bind (
     if cQ=true then(
      some true
     ) else(
      some (decide (0<((aq.1).length:Int)))
     )
    ) λcR=>
    if cR=true then(
     some false
    ) else(
     (EA fu_).bind λcT=>
     (Ja fu_).bind λcV=>
     (Md fu_ cT cV).bind λaw=>
     (f65 fu_).bind λcW=>
     (Ja fu_).bind λcX=>
     (Md fu_ cW cX).bind λcY=>
     (f64 fu_).bind λcZ=>
     (Ja fu_).bind λc0=>
     (Md fu_ cZ c0).bind λc1=>
     (EA fu_).bind λc2=>
     (f27 fu_ c2).bind λO=>
     (f64 fu_).bind λc3=>
     (f27 fu_ c3).bind λc4=>
     (EA fu_).bind λc5=>
     (f41 fu_ c5 (2,0,9)).bind λay=>
     (EA fu_).bind λc6=>
     (f41 fu_ c6 (4,0,1)).bind λc7=>
     Option.bind (
      if aw.2=0 then(
       some (decide (cY.2=11))
      ) else(
       some false
      )
     ) λc8=>
     Option.bind (
      if c8=true then(
       some (decide (c1.2=11))
      ) else(
       some false
      )
     ) λc9=>
     Option.bind (
      if c9=true then(
       some (decide (O.2.2=0))
      ) else(
       some false
      )
     ) λda=>
     Option.bind (
      if da=true then(
       some (decide (c4.2.2=11))
      ) else(
       some false
      )
     ) λdb=>
     Option.bind (
      if db=true then(
       some (decide (ay.2=0))
      ) else(
       some false
      )
     ) λdc=>
     Option.bind (
      if dc=true then(
       some (decide (c7.2=3))
      ) else(
       some false
      )
     ) λdd=>
     Option.bind (
      if dd=true then(
       (f29 fu_ aw.1 ([0,1,2]:List Int)).bind λde=>
       some de
      ) else(
       some false
      )
     ) λdf=>
     Option.bind (
      if df=true then(
       (Ja fu_).bind λdg=>
       (f26 fu_ O.1 dg).bind λdh=>
       some dh
      ) else(
       some false
      )
     ) λdi=>
     Option.bind (
      if di=true then(
       (f29 fu_ O.2.1 ([0,1,2]:List Int)).bind λdj=>
       some dj
      ) else(
       some false
      )
     ) λdk=>
     Option.bind (
      if dk=true then(
       (JF fu_ ([1,2,3]:List Int) ([2,0,9]:List Int)).bind λdm=>
       (f30 fu_ ay.1 dm).bind λdn=>
       some dn
      ) else(
       some false
      )
     ) λdp=>
     some dp
    )
   )
  )
 )
set_option maxHeartbeats 4000000 in
theorem WS{E H:LH}(cR:GE E){fu_:Nat}{r:Bool}(fR:NM fu_=some r):(Gi Tryz.prog).ok (LM Tryz.prog (λv _=>v= .bool r)) (G (Frame.enter Tryz.prog 9 ([]:Lv_).toArray .normal) []) (mk E H []):=by
 refine Wr Tryz.func9 rfl rfl (Nat.le_of_ble_eq_true rfl) ?_;have iT:Ap E H [[]]:=trivial;unfold NM at fR;obtain⟨ag,iU,iW⟩:=bs fR;refine C 6 rfl (A2 (Fa iU) rfl rfl Eo iT ?_);rintro _ zw eF cT ⟨cz,cA,_,b7,b8,rfl,rfl,iX,iY⟩ iZ;obtain⟨O,i0,i1⟩:=bs iW;refine A2 (Fa i0) rfl rfl Eo iZ ?_;rintro _ zx df cg ⟨Y,Z,_,a9,bb,rfl,rfl,i3,i4⟩ i5;refine Bz i5 Fg λa5 i6=>?_;refine AQ (S':= [[],eF,df,[(a5,.cells #[.slice none 0 0,.slice none 0 0] 28 (0,0))]]) rfl i6 λi7=>Bz i7 Fg λa2 i8=>?_;refine Bv 3 i8 BP λi9=>?_;refine AQ (S':= [[],eF,df,[(a5,.cells #[.slice cz (ag.1).length cA,.slice b7 (ag.2).length b8] 28 (0,0))],[(a2,.cells #[.slice none 0 0,.slice none 0 0] 28 (0,0))]]) rfl i9 λja=>Bv 4 ja BP λjb=>?_;refine AQ (S':= [[],eF,df,[(a5,.cells #[.slice cz (ag.1).length cA,.slice b7 (ag.2).length b8] 28 (0,0))],[(a2,.cells #[.slice Y (O.1).length Z,.slice a9 (O.2).length bb] 28 (0,0))]]) rfl jb λjc=>C 2 rfl (Bd 1 (iX.Ag cg) jc rfl λjd b9 dy je=>?_);refine AQ (S':= [[],[],df,[(a5,.cells #[.slice cz (ag.1).length cA,.slice b7 (ag.2).length b8] 28 (0,0))],[(a2,.cells #[.slice Y (O.1).length Z,.slice a9 (O.2).length bb] 28 (0,0))]]) rfl je λbd=>DK 8 λK=>JG.fd 0 K Tryz.underlying28 Cc rfl rfl rfl rfl (JG.fd 2 K Tryz.underlying28 Cc rfl rfl rfl rfl ?_);obtain⟨ac,dz,jf⟩:=bs i1;refine DL 2 #[true,true,true,true,true,true,true,true,false,false] (λL s=>∃(dX:LH) (ci:Ao) (ck:Nat) (bx:Ao) (bz:Nat),Jn jd H dX [[],[],df,[(a5,.cells #[.slice ci (ac).length ck,.slice b7 (ag.2).length b8] 28 (0,0))],[(a2,.cells #[.slice Y (O.1).length Z,.slice a9 (O.2).length bb] 28 (0,0))],[]] [(1,.pointer (some ⟨a5,0,none⟩)),(2,.pointer (some ⟨a2,0,none⟩)),(25,.slice Y (O.1).length Z),(29,.slice bx (([1,1,1,1]:List Int)).length bz)] L s (Al (rL rI) dX ci ck ac/\Al rI dX bx bz ([1,1,1,1]:List Int))) ?_ ?_
 ·rintro _ _ ⟨dX,ci,ck,bx,bz,rfl,rfl,ca,jg,jh,ji⟩;refine Cz [8,9] (AQ (S':= [[],[],df,[(a5,.cells #[.slice ci (ac).length ck,.slice b7 (ag.2).length b8] 28 (0,0))],[(a2,.cells #[.slice Y (O.1).length Z,.slice a9 (O.2).length bb] 28 (0,0))],[]]) rfl jg λjj=>?_);obtain⟨zy,jk,jl⟩:=bs jf;refine KS 2 (i3.Ag (b9.trans ca)) jk rfl rfl rfl rfl rfl rfl Tryz.underlying25 De ?_;rintro dg cV f63 _ jm ⟨zz,zA,rfl,zB⟩ zD jo jp zE zF;refine JS.store (v:= .slice bx (([1,1,1,1]:List Int)).length bz) (off:=cV) 2 rfl rfl rfl jj rfl rfl De (by simp [Value.cells,B3]) jm (by have:=jo;simp only [Rp.n,rK,rN,rB,rP,rL] at this;show _+1<=_;omega) λjq=>?_;have fS:=jp (([1,1,1,1]:List Int)) [.slice bx (([1,1,1,1]:List Int)).length bz] ⟨_,_,rfl,ji⟩;have fT:(O.1.set (Int.toNat 0) ([1,1,1,1]:List Int)).length=(O.1).length:=List.length_set;refine EO (L':= [(1,.pointer (some ⟨a5,0,none⟩)),(2,.pointer (some ⟨a2,0,none⟩)),(25,.slice Y ((O.1.set (Int.toNat 0) ([1,1,1,1]:List Int))).length Z),(29,.slice bx (([1,1,1,1]:List Int)).length bz),(31,.pointer (some ⟨dg,cV,none⟩))]) ⟨rfl,rfl,by rw [fT];rfl,rfl,rfl,trivial⟩ ?_;refine AQ (S':= [[],[],[(dg,.cells (A7 f63 cV [.slice bx (([1,1,1,1]:List Int)).length bz]) 22 (0,0))],[(a5,.cells #[.slice ci (ac).length ck,.slice b7 (ag.2).length b8] 28 (0,0))],[(a2,.cells #[.slice Y ((O.1.set (Int.toNat 0) ([1,1,1,1]:List Int))).length Z,.slice a9 (O.2).length bb] 28 (0,0))],[]]) (by rw [fT] <;> rfl) jq λjr=>?_;obtain⟨js,jt,ju⟩:=bs jl;refine C 4 rfl (BH (aV jt) rfl rfl (A1 Tryz.func21 rfl) jr λzG be fU=>?_);refine Am (v:= .bool (!js)) rfl (λρ h=>Yl.not (h _ _ rfl)) ?_;obtain⟨jv,jw,jx⟩:=bs ju;refine C 1 rfl (CP 7 28 [[(dg,.cells (A7 f63 cV [.slice bx (([1,1,1,1]:List Int)).length bz]) 22 (0,0))],[(a5,.cells #[.slice ci (ac).length ck,.slice b7 (ag.2).length b8] 28 (0,0))],[(a2,.cells #[.slice Y ((O.1.set (Int.toNat 0) ([1,1,1,1]:List Int))).length Z,.slice a9 (O.2).length bb] 28 (0,0))]] [(1,.pointer (some ⟨a5,0,none⟩)),(2,.pointer (some ⟨a2,0,none⟩)),(38,.bool jv)] (λzH bi eG=>?_) (λfW=>?_))
  ·obtain⟨jy,jz,jA⟩:=bs jx;refine C 1 rfl (CP 12 23 [[(dg,.cells (A7 f63 cV [.slice bx (([1,1,1,1]:List Int)).length bz]) 22 (0,0))],[(a2,.cells #[.slice Y ((O.1.set (Int.toNat 0) ([1,1,1,1]:List Int))).length Z,.slice a9 (O.2).length bb] 28 (0,0))]] [(2,.pointer (some ⟨a2,0,none⟩)),(43,.bool jy)] (λjB cb eH=>?_) (λfX=>?_))
   ·obtain⟨fY,jC,jD⟩:=bs jA;refine C 1 rfl (Fx [17,18,19,20,21,22,23,24,25,26,27,28,29,30,31,32,33,34] (λL s=>∃(eI:LH) (fZ:Ao) (ga:Nat),Jn jB H eI [] [(48,.bool fY.1)] L s (Al (rL rI) eI fZ ga (fY.2))) ?_ ?_)
    ·rintro _ _ ⟨eI,fZ,ga,rfl,rfl,cW,gb,zI⟩;obtain⟨jE,jF,jG⟩:=bs jD;refine C 1 rfl (CP 23 12 [] [(54,.bool jE)] (λzJ cX gc=>?_) (λgd=>?_))
     ·obtain⟨jH,jI,jJ⟩:=bs jG;refine C 1 rfl (CP 29 6 [] [(60,.bool jH)] (λge cY gf=>?_) (λgg=>?_))
      ·obtain⟨jK,jL,jM⟩:=bs jJ;refine C 1 rfl (Fx [] (λL s=>∃(gh:LH),Jm ge H gh [] [(66,.bool jK)] L s) ?_ ?_)
       ·rintro _ _ ⟨gh,rfl,rfl,cZ,jN⟩;refine JL.done (Cd jM (λjO jP=>?_) (λjO jQ=>?_))
        ·refine C 4 rfl ?_;obtain rfl:=oi jP;exact GR rfl (JO.end (v:= .bool false) rfl (by decide+kernel) Tryz.func9 rfl rfl rfl)
        ·obtain⟨zK,jR,jS⟩:=bs jQ;refine C 3 rfl (A2 (Fa jR) rfl rfl Eo jN ?_);rintro _ zL jT c0 ⟨zM,zN,_,zO,zP,rfl,rfl,jU,jV⟩ jW;refine AQ (S':= [jT]) rfl jW λjX=>Bd 0 jU jX rfl λzQ cB jY jZ=>?_;obtain⟨dh,j0,j1⟩:=bs jS;refine A2 (Uc jY (jV.Ag cB) j0) rfl rfl (A1 Tryz.func43 rfl) jZ ?_;rintro _ zR _ c1 ⟨dA,dB,rfl,rfl,j2⟩ j3;refine C 8 rfl (Da (pp:=rI) [iV 1,iV 0,iV 7] [1,0,7] rfl rfl rfl Tryz.underlying22 Ay Bx (by decide) rfl rfl rfl ⟨rfl,rfl,rfl,trivial⟩ j3 λzS j4 j5 j6=>?_);refine AQ (S':= [[],[],j4]) rfl j6 λj7=>Bd 2 j5 j7 rfl λzT cC j8 j9=>?_;obtain⟨zU,kb,kc⟩:=bs j1;refine A2 (Ke Al.nil j8 kb) rfl rfl Iu j9 ?_;rintro _ zV zW cD ⟨zX,zY,_,zZ,z2,rfl,rfl,ke,kf⟩ kg;refine Bd 3 ke kg rfl λz3 cm kh ki=>AQ (S':= [[],[],[],[]]) rfl ki λkj=>?_;obtain⟨c2,kl,km⟩:=bs kc;refine A2 (Uc kh (kf.Ag cm) kl) rfl rfl (A1 Tryz.func43 rfl) kj ?_;rintro _ z4 _ cE ⟨di,dj,rfl,rfl,kn⟩ ko;obtain⟨U,kp,kq⟩:=bs km;refine C 8 rfl (A2 (Fa kp) rfl rfl Eo ko ?_);rintro _ z5 eJ cn ⟨ap,aq,_,aw,ay,rfl,rfl,kr,eK⟩ ks;obtain⟨V,kt,ku⟩:=bs kq;refine A2 (Fa kt) rfl rfl Eo ks ?_;rintro _ z6 eL a6 ⟨a0,a1,_,a3,a4,rfl,rfl,kv,z7⟩ kx;refine AQ (S':= [[],[],[],[],[],eJ,eL]) rfl kx λky=>Bz ky Fg λal kz=>?_;refine Bz kz Fg λaz kA=>?_;refine Bv 7 kA BP λkB=>?_;refine AQ (S':= [[],[],[],[],[],eJ,eL,[(al,.cells #[.slice ap (U.1).length aq,.slice aw (U.2).length ay] 28 (0,0))],[(az,.cells #[.slice none 0 0,.slice none 0 0] 28 (0,0))]]) rfl kB λkC=>Bv 8 kC BP λkD=>?_;refine AQ (S':= [[],[],[],[],[],eJ,eL,[(al,.cells #[.slice ap (U.1).length aq,.slice aw (U.2).length ay] 28 (0,0))],[(az,.cells #[.slice a0 (V.1).length a1,.slice a3 (V.2).length a4] 28 (0,0))]]) rfl kD λkF=>C 2 rfl (Bd 5 (kr.Ag a6) kF rfl λz8 a7 kG kI=>?_);refine Bd 6 (kv.Ag a7) kI rfl λkJ a8 kK kL=>AQ (S':= [[],[],[],[],[],[],[],[(al,.cells #[.slice ap (U.1).length aq,.slice aw (U.2).length ay] 28 (0,0))],[(az,.cells #[.slice a0 (V.1).length a1,.slice a3 (V.2).length a4] 28 (0,0))]]) rfl kL λkM=>AQ (S':= [[],[],[],[],[],[],[],[(al,.cells #[.slice ap (U.1).length aq,.slice aw (U.2).length ay] 28 (0,0))],[(az,.cells #[.slice a0 (V.1).length a1,.slice a3 (V.2).length a4] 28 (0,0))]]) rfl kM λeM=>DK 6 λK=>JG.fd 0 K Tryz.underlying28 EX rfl rfl rfl rfl ?_;obtain⟨co,eN,kN⟩:=bs ku;obtain⟨dk,eO,kO⟩:=bs kN;refine DL 3 #[true,true,true,true,true,true,false,false,false] (λL s=>∃(dC:LH) (dm:Ao) (dn:Nat) (gi:Ao) (gj:Nat) (dp:Ao) (dq:Nat) (dr:Seg),Jn kJ H dC [[],[],[],[],[],[],[],[(al,.cells #[.slice ap (U.1).length aq,.slice aw (U.2).length ay] 28 (0,0))],[(az,.cells #[.slice a0 (V.1).length a1,.slice a3 (V.2).length a4] 28 (0,0))],[],dr] [(3,.slice dA (dh.1).length dB),(4,iV dh.2),(5,.slice di (c2.1).length dj),(6,iV c2.2),(7,.pointer (some ⟨al,0,none⟩)),(8,.pointer (some ⟨az,0,none⟩)),(82,.slice dm (co).length dn),(84,.slice dp (dk).length dq),(85,.pointer (some ⟨al,1,none⟩))] L s (Al Au dC dm dn co/\Al rI dC gi gj ([0,1,9,1,0,9]:List Int)/\OL 42 Au dC dp dq dr (dk))) ?_ ?_
         ·rintro _ _ ⟨dC,dm,dn,gi,gj,dp,dq,dr,rfl,rfl,bY,kP,kQ,z9,kR⟩;refine Cz [6,7,8] (AQ (S':= [[],[],[],[],[],[],[],[(al,.cells #[.slice ap (U.1).length aq,.slice aw (U.2).length ay] 28 (0,0))],[(az,.cells #[.slice a0 (V.1).length a1,.slice a3 (V.2).length a4] 28 (0,0))],[],dr]) rfl kP λkS=>?_);refine Bv 7 kS EX λkT=>?_;refine JL.fd Tryz.underlying28 EX rfl rfl rfl (Bv 8 kT EX λgk=>?_);refine C 3 rfl (Am rfl (λρ h=>GV (vs:= [.slice ap (U.1).length aq,.slice dm (co).length dn]) Dk BP (h _ _ rfl) (EY (off:=0) 7 gk rfl rfl)) ?_);obtain⟨kU,kV,kW⟩:=bs kO;refine A2 (TY (p0:=(U.1,co)) (kG.Ag (a8.trans bY)) kQ kV) rfl rfl (A1 Tryz.func45 rfl) gk ?_;rintro _ Aa _ bZ ⟨Ab,Ac,rfl,rfl,Ae⟩ kX;refine AQ (S':= [[],[],[],[],[],[],[],[(al,.cells #[.slice ap (U.1).length aq,.slice dm (co).length dn] 28 (0,0))],[(az,.cells #[.slice a0 (V.1).length a1,.slice dp (dk).length dq] 28 (0,0))],[],dr,[]]) rfl kX λkY=>?_;obtain⟨Af,kZ,k0⟩:=bs kW;refine C 8 rfl (A2 (Fa kZ) rfl rfl Eo kY ?_);rintro _ Ah Ai b0 ⟨An,Aq,_,Ax,AB,rfl,rfl,k1,k2⟩ k3;refine Bd 12 k1 k3 rfl λAC bn k4 k5=>?_;obtain⟨cF,k6,k7⟩:=bs k0;refine A2 (Ua k4 (k2.Ag bn) k6) rfl rfl (A1 Tryz.func37 rfl) k5 ?_;rintro _ AD _ b1 ⟨dt,du,rfl,rfl,k8⟩ k9;refine AQ (S':= [[],[],[],[],[],[],[],[(al,.cells #[.slice ap (U.1).length aq,.slice dm (co).length dn] 28 (0,0))],[(az,.cells #[.slice a0 (V.1).length a1,.slice dp (dk).length dq] 28 (0,0))],[],dr,[],[],[]]) rfl k9 λgl=>C 8 rfl (Am rfl (λρ h=>GV (vs:= [.slice a0 (V.1).length a1,.slice dp (dk).length dq]) Dk BP (h _ _ rfl) (EY (off:=0) 8 gl rfl rfl)) ?_);refine Bd 10 (kR.Ag (((bZ.trans b0).trans bn).trans b1)) gl rfl λAE b2 la lb=>?_;obtain⟨cc,ld,lf⟩:=bs k7;refine A2 (Ua (p0:=(V.1,dk)) (kK.Ag (((((bY.trans bZ).trans b0).trans bn).trans b1).trans b2)) la ld) rfl rfl (A1 Tryz.func37 rfl) lb ?_;rintro _ AF _ cd ⟨c3,c4,rfl,rfl,lg⟩ gm;obtain⟨lh,li,lj⟩:=bs lf;refine C 12 rfl (CP 6 38 [] [(3,.slice dA (dh.1).length dB),(5,.slice di (c2.1).length dj),(10,iV kU.2),(11,.slice dt (cF.1).length du),(12,iV cF.2),(13,.slice c3 (cc.1).length c4),(14,iV cc.2),(107,.bool lh)] (λAH b3 gn=>?_) (λgp=>?_))
          ·obtain⟨ll,lm,lq⟩:=bs lj;refine C 1 rfl (CP 10 34 [] [(3,.slice dA (dh.1).length dB),(5,.slice di (c2.1).length dj),(11,.slice dt (cF.1).length du),(12,iV cF.2),(13,.slice c3 (cc.1).length c4),(14,iV cc.2),(111,.bool ll)] (λAI b4 gq=>?_) (λgr=>?_))
           ·obtain⟨lr,ls,lu⟩:=bs lq;refine C 1 rfl (CP 14 30 [] [(3,.slice dA (dh.1).length dB),(5,.slice di (c2.1).length dj),(11,.slice dt (cF.1).length du),(13,.slice c3 (cc.1).length c4),(14,iV cc.2),(115,.bool lr)] (λAL b5 gt=>?_) (λgu=>?_))
            ·obtain⟨lw,lx,lz⟩:=bs lu;refine C 1 rfl (CP 18 26 [] [(3,.slice dA (dh.1).length dB),(5,.slice di (c2.1).length dj),(11,.slice dt (cF.1).length du),(13,.slice c3 (cc.1).length c4),(119,.bool lw)] (λAP b6 gv=>?_) (λgw=>?_))
             ·obtain⟨lA,lB,lC⟩:=bs lz;refine C 1 rfl (CP 25 19 [] [(5,.slice di (c2.1).length dj),(11,.slice dt (cF.1).length du),(13,.slice c3 (cc.1).length c4),(126,.bool lA)] (λAV ce gx=>?_) (λgy=>?_))
              ·obtain⟨lD,lE,lF⟩:=bs lC;refine C 1 rfl (CP 32 12 [] [(11,.slice dt (cF.1).length du),(13,.slice c3 (cc.1).length c4),(133,.bool lD)] (λAW cp gz=>?_) (λgA=>?_))
               ·obtain⟨lG,lH,lI⟩:=bs lF;refine C 1 rfl (CP 38 6 [] [(13,.slice c3 (cc.1).length c4),(139,.bool lG)] (λgB cG gC=>?_) (λgD=>?_))
                ·obtain⟨lJ,lK,lL⟩:=bs lI;refine C 1 rfl (Fx [] (λL s=>∃(gE:LH),Jm gB H gE [] [(145,.bool lJ)] L s) ?_ ?_)
                 ·rintro _ _ ⟨gE,rfl,rfl,c5,lM⟩;refine JL.done (Cd lL (λlN lO=>?_) (λlN lP=>?_))
                  ·refine C 4 rfl ?_;obtain rfl:=oi lO;exact GR rfl (JO.end (v:= .bool false) rfl (by decide+kernel) Tryz.func9 rfl rfl rfl)
                  ·obtain⟨AX,lQ,lR⟩:=bs lP;refine C 4 rfl (A2 (Fa lQ) rfl rfl Eo lM ?_);rintro _ A5 lS c6 ⟨A6,A9,_,Ba,Bj,rfl,rfl,lT,lU⟩ lV;refine AQ (S':= [lS]) rfl lV λlW=>?_;obtain⟨Bk,lX,lY⟩:=bs lR;refine A2 (Ki lX) rfl rfl Jf lW ?_;rintro _ Bm Bs cq ⟨By,BK,_,rfl,rfl,lZ⟩ l3;refine Bd 0 (lT.Ag cq) l3 rfl λBL cr l4 l5=>Bd 1 (lZ.Ag cr) l5 rfl λBO ct l6 l7=>AQ (S':= [[],[]]) rfl l7 λl8=>?_;obtain⟨BS,l9,ma⟩:=bs lY;refine BH (Nl (cR.Ag ((((((((((((((((((((((((((((((((((((((((cT.trans cg).trans b9).trans ca).trans be).trans bi).trans cb).trans cW).trans cX).trans cY).trans cZ).trans c0).trans cB).trans c1).trans cC).trans cD).trans cm).trans cE).trans cn).trans a6).trans a7).trans a8).trans bY).trans bZ).trans b0).trans bn).trans b1).trans b2).trans cd).trans b3).trans b4).trans b5).trans b6).trans ce).trans cp).trans cG).trans c5).trans c6).trans cq).trans cr).trans ct)) (l4.Ag ct) (lU.Ag ((cq.trans cr).trans ct)) l6 l9) rfl rfl Mt l8 λBU dv gF=>?_;obtain⟨mb,mc,md⟩:=bs ma;refine C 2 rfl (CP 9 18 [] [(154,.bool mb)] (λBV dD gG=>?_) (λgH=>?_))
                   ·obtain⟨me,mf,mg⟩:=bs md;refine C 1 rfl (CP 18 9 [] [(163,.bool me)] (λgI dY gJ=>?_) (λgK=>?_))
                    ·obtain⟨mh,mi,mj⟩:=bs mg;refine C 1 rfl (Fx [] (λL s=>∃(gL:LH),Jm gI H gL [] [(172,.bool mh)] L s) ?_ ?_)
                     ·rintro _ _ ⟨gL,rfl,rfl,eP,ml⟩;refine JL.done (Cd mj (λmm mo=>?_) (λmm mp=>?_))
                      ·refine C 4 rfl ?_;obtain rfl:=oi mo;exact GR rfl (JO.end (v:= .bool false) rfl (by decide+kernel) Tryz.func9 rfl rfl rfl)
                      ·obtain⟨BY,mq,mr⟩:=bs mp;refine C 3 rfl (A2 (Fa mq) rfl rfl Eo ml ?_);rintro _ BZ B4 eQ ⟨B5,Cb,_,Cg,Cp,rfl,rfl,ms,mv⟩ mw;refine Bd 0 ms mw rfl λCy dZ my mz=>AQ (S':= [[]]) rfl mz λmB=>?_;obtain⟨ea,mC,mD⟩:=bs mr;refine BH (PM my (mv.Ag dZ) mC) rfl rfl N8 mB λCA eR mE=>?_;obtain⟨CD,mF,mG⟩:=bs mD;refine C 8 rfl (A2 (Fa mF) rfl rfl Eo mE ?_);rintro _ CI CM eS ⟨CR,CT,_,CU,CV,rfl,rfl,mH,mI⟩ mJ;refine Bd 2 mH mJ rfl λCW eb mK mL=>AQ (S':= [[],[],[]]) rfl mL λmM=>?_;obtain⟨dE,mO,mP⟩:=bs mG;refine BH (PM mK (mI.Ag eb) mO) rfl rfl N8 mM λCX eT mQ=>?_;obtain⟨C0,mR,mS⟩:=bs mP;refine C 8 rfl (A2 (Fa mR) rfl rfl Eo mQ ?_);rintro _ C1 C2 eU ⟨C4,C8,_,Dd,Dj,rfl,rfl,mT,mU⟩ mV;refine Bd 4 mT mV rfl λDo ec mW mX=>AQ (S':= [[],[],[],[],[]]) rfl mX λmY=>?_;obtain⟨mZ,m0,m1⟩:=bs mS;refine BH (PM mW (mU.Ag ec) m0) rfl rfl N8 mY λDz eV m2=>?_;obtain⟨DC,m3,m4⟩:=bs m1;refine C 7 rfl (A2 (Fa m3) rfl rfl Eo m2 ?_);rintro _ DD DM eW ⟨DP,DY,_,Ea,Eb,rfl,rfl,m5,m6⟩ m7;refine Bd 6 m5 m7 rfl λEh ed m8 m9=>AQ (S':= [[],[],[],[],[],[],[]]) rfl m9 λna=>?_;obtain⟨cH,nb,nc⟩:=bs m4;refine BH (aD m8 (m6.Ag ed) nb) rfl rfl (A1 Tryz.func48 rfl) na λEn eX ne=>?_;obtain⟨EE,nf,ng⟩:=bs nc;refine C 8 rfl (A2 (Fa nf) rfl rfl Eo ne ?_);rintro _ EG EH eY ⟨EI,EQ,_,EW,E1,rfl,rfl,nh,ni⟩ nj;refine Bd 8 nh nj rfl λE2 ee nk nl=>AQ (S':= [[],[],[],[],[],[],[],[],[]]) rfl nl λnm=>?_;obtain⟨cf,nn,np⟩:=bs ng;refine A2 (Ui nk (ni.Ag ee) nn) rfl rfl (A1 Tryz.func22 rfl) nm ?_;rintro _ E3 _ eZ ⟨c7,c8,rfl,rfl,E4⟩ gM;obtain⟨nq,nr,ns⟩:=bs np;refine C 12 rfl (CP 6 29 [] [(10,iV mZ.2),(11,.slice c7 (cf.1).length c8),(12,iV cH.2),(14,iV cf.2),(15,iV ea.1),(16,iV dE.1),(17,iV cH.1),(203,.bool nq)] (λE5 e0 gN=>?_) (λgO=>?_))
                       ·obtain⟨nt,nu,nx⟩:=bs ns;refine C 1 rfl (CP 10 25 [] [(11,.slice c7 (cf.1).length c8),(12,iV cH.2),(14,iV cf.2),(15,iV ea.1),(16,iV dE.1),(17,iV cH.1),(207,.bool nt)] (λE6 e1 gP=>?_) (λgQ=>?_))
                        ·obtain⟨ny,nz,nA⟩:=bs nx;refine C 1 rfl (CP 14 21 [] [(11,.slice c7 (cf.1).length c8),(14,iV cf.2),(15,iV ea.1),(16,iV dE.1),(17,iV cH.1),(211,.bool ny)] (λE7 e3 gR=>?_) (λgS=>?_))
                         ·obtain⟨nB,nC,nD⟩:=bs nA;refine C 1 rfl (CP 18 17 [] [(11,.slice c7 (cf.1).length c8),(15,iV ea.1),(16,iV dE.1),(17,iV cH.1),(215,.bool nB)] (λE8 e4 gT=>?_) (λgU=>?_))
                          ·obtain⟨nE,nF,nG⟩:=bs nD;refine C 1 rfl (CP 22 13 [] [(11,.slice c7 (cf.1).length c8),(16,iV dE.1),(17,iV cH.1),(219,.bool nE)] (λE9 e5 gV=>?_) (λgW=>?_))
                           ·obtain⟨nH,nI,nJ⟩:=bs nG;refine C 1 rfl (CP 26 9 [] [(11,.slice c7 (cf.1).length c8),(17,iV cH.1),(223,.bool nH)] (λFf e6 gX=>?_) (λgY=>?_))
                            ·obtain⟨nK,nL,nM⟩:=bs nJ;refine C 1 rfl (CP 30 5 [] [(11,.slice c7 (cf.1).length c8),(227,.bool nK)] (λe7 e8 gZ=>?_) (λg0=>?_))
                             ·obtain⟨nN,nO,nP⟩:=bs nM;refine C 1 rfl (Fx [] (λL s=>∃(g1:LH),Jm e7 H g1 [] [(232,.bool nN)] L s) ?_ ?_)
                              ·rintro _ _ ⟨g1,rfl,rfl,e9,nQ⟩;refine JL.done (Cd nP (λnR nT=>?_) (λnR nU=>?_))
                               ·refine C 4 rfl ?_;obtain rfl:=oi nT;exact GR rfl (JO.end (v:= .bool false) rfl (by decide+kernel) Tryz.func9 rfl rfl rfl)
                               ·obtain⟨Fv,nV,nW⟩:=bs nU;refine C 3 rfl (A2 (Fa nV) rfl rfl Eo nQ ?_);rintro _ FH nX fa ⟨FI,FJ,_,FK,FS,rfl,rfl,nY,nZ⟩ n0;obtain⟨F9,n3,n4⟩:=bs nW;refine A2 (Ki n3) rfl rfl Jf n0 ?_;rintro _ Ga n6 dF ⟨Gb,Gc,_,rfl,rfl,n7⟩ n8;refine AQ (S':= [nX,n6]) rfl n8 λn9=>Bd 0 (nY.Ag dF) n9 rfl λGu dG oa ob=>Bd 1 (n7.Ag dG) ob rfl λGN dH oc od=>?_;obtain⟨cI,oe,og⟩:=bs n4;refine A2 (O6 (cR.Ag (((((((((((((((((((((((((((((((((((((((((((((((((((((((((((((((((((((((cT.trans cg).trans b9).trans ca).trans be).trans bi).trans cb).trans cW).trans cX).trans cY).trans cZ).trans c0).trans cB).trans c1).trans cC).trans cD).trans cm).trans cE).trans cn).trans a6).trans a7).trans a8).trans bY).trans bZ).trans b0).trans bn).trans b1).trans b2).trans cd).trans b3).trans b4).trans b5).trans b6).trans ce).trans cp).trans cG).trans c5).trans c6).trans cq).trans cr).trans ct).trans dv).trans dD).trans dY).trans eP).trans eQ).trans dZ).trans eR).trans eS).trans eb).trans eT).trans eU).trans ec).trans eV).trans eW).trans ed).trans eX).trans eY).trans ee).trans eZ).trans e0).trans e1).trans e3).trans e4).trans e5).trans e6).trans e8).trans e9).trans fa).trans dF).trans dG).trans dH)) (oa.Ag dH) (nZ.Ag ((dF.trans dG).trans dH)) oc oe) rfl rfl N1 od ?_;rintro _ GT _ g3 ⟨c9,da,rfl,rfl,oh⟩ oj;refine AQ (S':= [[],[],[]]) rfl oj λol=>?_;obtain⟨Hf,om,oo⟩:=bs og;refine C 8 rfl (A2 (Uk om) rfl rfl (A1 Tryz.func49 rfl) ol ?_);rintro _ Hg _ fb ⟨Hh,HQ,HR,H1,rfl,rfl,oq,ot⟩ ou;obtain⟨If,ov,ow⟩:=bs oo;refine A2 (Ki ov) rfl rfl Jf ou ?_;rintro _ In IK dI ⟨IL,IM,_,rfl,rfl,ox⟩ oy;refine Bd 4 ox oy rfl λIR dJ oz oA=>AQ (S':= [[],[],[],[],[]]) rfl oA λoB=>?_;obtain⟨Je,oD,oE⟩:=bs ow;refine A2 (O6 (cR.Ag (((((((((((((((((((((((((((((((((((((((((((((((((((((((((((((((((((((((((((cT.trans cg).trans b9).trans ca).trans be).trans bi).trans cb).trans cW).trans cX).trans cY).trans cZ).trans c0).trans cB).trans c1).trans cC).trans cD).trans cm).trans cE).trans cn).trans a6).trans a7).trans a8).trans bY).trans bZ).trans b0).trans bn).trans b1).trans b2).trans cd).trans b3).trans b4).trans b5).trans b6).trans ce).trans cp).trans cG).trans c5).trans c6).trans cq).trans cr).trans ct).trans dv).trans dD).trans dY).trans eP).trans eQ).trans dZ).trans eR).trans eS).trans eb).trans eT).trans eU).trans ec).trans eV).trans eW).trans ed).trans eX).trans eY).trans ee).trans eZ).trans e0).trans e1).trans e3).trans e4).trans e5).trans e6).trans e8).trans e9).trans fa).trans dF).trans dG).trans dH).trans g3).trans fb).trans dI).trans dJ)) (oq.Ag (dI.trans dJ)) (ot.Ag (dI.trans dJ)) oz oD) rfl rfl N1 oB ?_;rintro _ JT _ g4 ⟨J0,J1,rfl,rfl,Kz⟩ oF;obtain⟨KA,oG,oH⟩:=bs oE;refine C 7 rfl (A2 (PK oG) rfl rfl N3 oF ?_);rintro _ Li _ g5 ⟨Lj,Lk,Ll,L0,rfl,rfl,oI,oJ⟩ oK;obtain⟨L1,oL,oM⟩:=bs oH;refine A2 (Ki oL) rfl rfl Jf oK ?_;rintro _ L7 oN ef ⟨Mj,Mk,_,rfl,rfl,oO⟩ oP;refine AQ (S':= [[],[],[],[],[],[],[],oN]) rfl oP λoQ=>Bd 7 oO oQ rfl λM2 eg oR oS=>?_;obtain⟨oT,oU,oV⟩:=bs oM;refine A2 (O6 (cR.Ag (((((((((((((((((((((((((((((((((((((((((((((((((((((((((((((((((((((((((((((((cT.trans cg).trans b9).trans ca).trans be).trans bi).trans cb).trans cW).trans cX).trans cY).trans cZ).trans c0).trans cB).trans c1).trans cC).trans cD).trans cm).trans cE).trans cn).trans a6).trans a7).trans a8).trans bY).trans bZ).trans b0).trans bn).trans b1).trans b2).trans cd).trans b3).trans b4).trans b5).trans b6).trans ce).trans cp).trans cG).trans c5).trans c6).trans cq).trans cr).trans ct).trans dv).trans dD).trans dY).trans eP).trans eQ).trans dZ).trans eR).trans eS).trans eb).trans eT).trans eU).trans ec).trans eV).trans eW).trans ed).trans eX).trans eY).trans ee).trans eZ).trans e0).trans e1).trans e3).trans e4).trans e5).trans e6).trans e8).trans e9).trans fa).trans dF).trans dG).trans dH).trans g3).trans fb).trans dI).trans dJ).trans g4).trans g5).trans ef).trans eg)) (oI.Ag (ef.trans eg)) (oJ.Ag (ef.trans eg)) oR oU) rfl rfl N1 oS ?_;rintro _ NE _ oW ⟨NS,NT,rfl,rfl,NU⟩ oX;obtain⟨Pc,oY,oZ⟩:=bs oV;refine C 7 rfl (A2 (Fa oY) rfl rfl Eo oX ?_);rintro _ Pi o0 o1 ⟨PA,PB,_,PJ,PP,rfl,rfl,o2,o3⟩ o4;refine AQ (S':= [[],[],[],[],[],[],[],[],[],o0]) rfl o4 λo5=>Bd 9 o2 o5 rfl λQe g6 o6 o7=>?_;obtain⟨am,o8,o9⟩:=bs oZ;refine A2 (PD o6 (o3.Ag g6) o8) rfl rfl N7 o7 ?_;rintro _ Qf _ pa ⟨cJ,cK,cu,cv,rfl,rfl,pb,pc⟩ pd;obtain⟨RC,pe,pf⟩:=bs o9;refine C 10 rfl (A2 (PK pe) rfl rfl N3 pd ?_);rintro _ RM _ fc ⟨RW,S0,Th,TD,rfl,rfl,pg,pi⟩ pj;refine AQ (S':= [[],[],[],[],[],[],[],[],[],[],[],[]]) rfl pj λpm=>?_;obtain⟨fe,pn,po⟩:=bs pf;refine A2 (PD pg pi pn) rfl rfl N7 pm ?_;rintro _ Uu _ ff ⟨Uv,Uw,Ux,UV,rfl,rfl,Vc,Wf⟩ pq;obtain⟨WD,pr,ps⟩:=bs po;refine C 8 rfl (A2 (Fa pr) rfl rfl Eo pq ?_);rintro _ WF WP fg ⟨X3,X6,_,Y2,aaa,rfl,rfl,pt,pu⟩ pw;refine Am (v:= .agg #[iV 2,iV 0,iV 9]) rfl (λρ h=>Ch [(0,1),(1,1),(2,1)] h BM Tryz.underlying42 ⟨rfl,AJ Tryz.type3,rfl,AJ Tryz.type3,rfl,AJ Tryz.type3,trivial⟩ rfl rfl) (Bd 13 pt pw rfl λaab eh px py=>?_);refine AQ (S':= [[],[],[],[],[],[],[],[],[],[],[],[],[],[]]) rfl py λpz=>?_;obtain⟨cM,pA,pB⟩:=bs ps;refine A2 (TW px (pu.Ag eh) (p1:=(2,0,9)) pA) rfl rfl (A1 Tryz.func51 rfl) pz ?_;rintro _ aac _ fh ⟨g7,g8,g9,ha,rfl,rfl,hb,hc⟩ pC;refine C 3 rfl (Bz pC Fg λcw pE=>?_);refine Bv 15 pE BP λpF=>?_;refine B7 15 pF rfl λaad db pG pI=>AQ (S':= [[],[],[],[],[],[],[],[],[],[],[],[],[],[],[],[]]) rfl pI λpJ=>?_;obtain⟨aae,pK,pL⟩:=bs pB;refine C 4 rfl (A2 (Fa pK) rfl rfl Eo pJ ?_);rintro _ aaf aag cN ⟨aah,aai,_,aaj,aak,rfl,rfl,pM,pO⟩ pP;refine Am (v:= .agg #[iV 4,iV 0,iV 1]) rfl (λρ h=>Ch [(0,1),(1,1),(2,1)] h BM Tryz.underlying42 ⟨rfl,AJ Tryz.type3,rfl,AJ Tryz.type3,rfl,AJ Tryz.type3,trivial⟩ rfl rfl) (Bd 16 pM pP rfl λaal cy pR pS=>?_);obtain⟨dK,pU,pW⟩:=bs pL;refine A2 (TW pR (pO.Ag cy) (p1:=(4,0,1)) pU) rfl rfl (A1 Tryz.func51 rfl) pS ?_;rintro _ aam _ cO ⟨aan,aao,aap,aaq,rfl,rfl,aar,aas⟩ pY;refine AQ (S':= [[],[],[],[],[],[],[],[],[],[],[],[],[],[],[],[],[],[]]) rfl pY λp3=>C 3 rfl (Bz p3 Fg λaat p4=>?_);refine Bv 18 p4 BP λp5=>?_;refine B7 18 p5 rfl λcP cQ aau p6=>C 3 rfl (AQ (S':= [[],[],[],[],[],[],[],[],[],[],[],[],[],[],[],[],[],[],[]]) rfl p6 λhd=>?_);refine Rs 48 mixed rfl (Wg (by decide+kernel)) λK=>A3 K rfl [0,1,2] rfl ?_;obtain⟨he,hf,p7⟩:=bs pW;refine DL 43 #[true,true,true,true,true,true,false,false,false,false,false,false,false,false,false,false,false,false,false,false,false,false,false,false,false,false,false,false,false,false,false,false,false,false,false,false,false,false,false,false,false,false,false,false,false,false,false,false,false] (λL s=>L= [(3,.slice cJ (am.1).length cK),(10,iV oT.2),(11,.slice c9 (cI.1).length da),(12,iV am.2.2),(13,.slice cu (am.2.1).length cv),(14,iV fe.2.2),(18,.pointer (some ⟨cw,0,none⟩)),(19,iV cM.2),(21,iV dK.2),(280,.bool he)]/\s=Aj cP H [[],[],[],[],[],[],[],[],[],[],[],[],[],[],[],[],[],[],[]]) ?_ ?_
                                ·rintro _ _ ⟨rfl,rfl⟩;refine BR 6 K rfl rfl ?_;obtain⟨hg,hj,p8⟩:=bs p7;refine DL 39 #[true,true,true,true,true,true,true,true,true,true,false,false,false,false,false,false,false,false,false,false,false,false,false,false,false,false,false,false,false,false,false,false,false,false,false,false,false,false,false,false,false,false,false,false,false,false,false,false,false] (λL s=>L= [(3,.slice cJ (am.1).length cK),(11,.slice c9 (cI.1).length da),(12,iV am.2.2),(13,.slice cu (am.2.1).length cv),(14,iV fe.2.2),(18,.pointer (some ⟨cw,0,none⟩)),(19,iV cM.2),(21,iV dK.2),(284,.bool hg)]/\s=Aj cP H [[],[],[],[],[],[],[],[],[],[],[],[],[],[],[],[],[],[],[]]) ?_ ?_
                                 ·rintro _ _ ⟨rfl,rfl⟩;refine BR 10 K rfl rfl ?_;obtain⟨hk,hl,p9⟩:=bs p8;refine DL 35 #[true,true,true,true,true,true,true,true,true,true,true,true,true,true,false,false,false,false,false,false,false,false,false,false,false,false,false,false,false,false,false,false,false,false,false,false,false,false,false,false,false,false,false,false,false,false,false,false,false] (λL s=>L= [(3,.slice cJ (am.1).length cK),(11,.slice c9 (cI.1).length da),(13,.slice cu (am.2.1).length cv),(14,iV fe.2.2),(18,.pointer (some ⟨cw,0,none⟩)),(19,iV cM.2),(21,iV dK.2),(288,.bool hk)]/\s=Aj cP H [[],[],[],[],[],[],[],[],[],[],[],[],[],[],[],[],[],[],[]]) ?_ ?_
                                  ·rintro _ _ ⟨rfl,rfl⟩;refine BR 14 K rfl rfl ?_;obtain⟨hm,hn,qa⟩:=bs p9;refine DL 31 #[true,true,true,true,true,true,true,true,true,true,true,true,true,true,true,true,true,true,false,false,false,false,false,false,false,false,false,false,false,false,false,false,false,false,false,false,false,false,false,false,false,false,false,false,false,false,false,false,false] (λL s=>L= [(3,.slice cJ (am.1).length cK),(11,.slice c9 (cI.1).length da),(13,.slice cu (am.2.1).length cv),(18,.pointer (some ⟨cw,0,none⟩)),(19,iV cM.2),(21,iV dK.2),(292,.bool hm)]/\s=Aj cP H [[],[],[],[],[],[],[],[],[],[],[],[],[],[],[],[],[],[],[]]) ?_ ?_
                                   ·rintro _ _ ⟨rfl,rfl⟩;refine BR 18 K rfl rfl ?_;obtain⟨ho,hp,qb⟩:=bs qa;refine DL 27 #[true,true,true,true,true,true,true,true,true,true,true,true,true,true,true,true,true,true,true,true,true,true,false,false,false,false,false,false,false,false,false,false,false,false,false,false,false,false,false,false,false,false,false,false,false,false,false,false,false] (λL s=>L= [(3,.slice cJ (am.1).length cK),(11,.slice c9 (cI.1).length da),(13,.slice cu (am.2.1).length cv),(18,.pointer (some ⟨cw,0,none⟩)),(21,iV dK.2),(296,.bool ho)]/\s=Aj cP H [[],[],[],[],[],[],[],[],[],[],[],[],[],[],[],[],[],[],[]]) ?_ ?_
                                    ·rintro _ _ ⟨rfl,rfl⟩;refine BR 22 K rfl rfl ?_;obtain⟨hq,hr,qc⟩:=bs qb;refine DL 23 #[true,true,true,true,true,true,true,true,true,true,true,true,true,true,true,true,true,true,true,true,true,true,true,true,true,true,false,false,false,false,false,false,false,false,false,false,false,false,false,false,false,false,false,false,false,false,false,false,false] (λL s=>L= [(3,.slice cJ (am.1).length cK),(11,.slice c9 (cI.1).length da),(13,.slice cu (am.2.1).length cv),(18,.pointer (some ⟨cw,0,none⟩)),(300,.bool hq)]/\s=Aj cP H [[],[],[],[],[],[],[],[],[],[],[],[],[],[],[],[],[],[],[]]) ?_ ?_
                                     ·rintro _ _ ⟨rfl,rfl⟩;refine BR 26 K rfl rfl ?_;obtain⟨hs,ht,qd⟩:=bs qc;refine DL 18 #[true,true,true,true,true,true,true,true,true,true,true,true,true,true,true,true,true,true,true,true,true,true,true,true,true,true,true,true,true,true,true,false,false,false,false,false,false,false,false,false,false,false,false,false,false,false,false,false,false] (λL s=>∃(ei:LH),Jm cP H ei [] [(3,.slice cJ (am.1).length cK),(13,.slice cu (am.2.1).length cv),(18,.pointer (some ⟨cw,0,none⟩)),(305,.bool hs)] L s) ?_ ?_
                                      ·rintro _ _ ⟨ei,rfl,rfl,dc,hu⟩;refine BR 31 K rfl rfl ?_;obtain⟨hv,hw,qe⟩:=bs qd;refine DL 13 #[true,true,true,true,true,true,true,true,true,true,true,true,true,true,true,true,true,true,true,true,true,true,true,true,true,true,true,true,true,true,true,true,true,true,true,true,false,false,false,false,false,false,false,false,false,false,false,false,false] (λL s=>∃(ej:LH),Jm ei H ej [] [(13,.slice cu (am.2.1).length cv),(18,.pointer (some ⟨cw,0,none⟩)),(310,.bool hv)] L s) ?_ ?_
                                       ·rintro _ _ ⟨ej,rfl,rfl,dw,hx⟩;refine BR 36 K rfl rfl ?_;obtain⟨hy,hz,qf⟩:=bs qe;refine DL 8 #[true,true,true,true,true,true,true,true,true,true,true,true,true,true,true,true,true,true,true,true,true,true,true,true,true,true,true,true,true,true,true,true,true,true,true,true,true,true,true,true,true,false,false,false,false,false,false,false,false] (λL s=>∃(ek:LH),Jm ej H ek [] [(18,.pointer (some ⟨cw,0,none⟩)),(315,.bool hy)] L s) ?_ ?_
                                        ·rintro _ _ ⟨ek,rfl,rfl,dL,fj⟩;refine BR 41 K rfl rfl ?_;obtain⟨hA,hB,qg⟩:=bs qf;refine DL 1 #[true,true,true,true,true,true,true,true,true,true,true,true,true,true,true,true,true,true,true,true,true,true,true,true,true,true,true,true,true,true,true,true,true,true,true,true,true,true,true,true,true,true,true,true,true,true,true,true,false] (λL s=>∃(hC:LH),Jm ek H hC [] [(322,.bool hA)] L s) ?_ ?_
                                         ·rintro _ _ ⟨hC,rfl,rfl,aav,aaw⟩;refine Cz [48] (C 2 rfl ?_);obtain rfl:=oi qg;exact GR rfl (JO.end (v:= .bool hA) rfl (by decide+kernel) Tryz.func9 rfl rfl rfl)
                                         ·intro fk;refine IQ (c:=hy) (i:=316) rfl (λfl=>?_) (λfl=>?_)
                                          ·have hD:=ip hB fl;refine H9 42 K (pG.Ag ((((((cN.trans cy).trans cO).trans cQ).trans dc).trans dw).trans dL)) Dk BP rfl rfl rfl ?_;refine DJ (i:=43) (j:=44) rfl (by decide+kernel) ?_ ?_
                                           ·refine Take.Co (pp:=rI) [iV 1,iV 2,iV 3] ([1,2,3]:List Int) fj rfl rfl rfl Tryz.underlying22 Ay Bx (by decide) rfl rfl rfl ⟨rfl,rfl,rfl,trivial⟩ λqh aax qi qj=>Cs 0 qi qj rfl λaay fm qk ql=>JG.one (i:=44) rfl (by decide+kernel) (Take.Co (pp:=rI) [iV 2,iV 0,iV 9] ([2,0,9]:List Int) ql rfl rfl rfl Tryz.underlying22 Ay Bx (by decide) rfl rfl rfl ⟨rfl,rfl,rfl,trivial⟩ λqm aaz qn qo=>?_);refine Cs 1 qn qo rfl λaaA el qp qq=>?_;obtain⟨hE,qr,qs⟩:=bs hD;refine JG.call (i:=45) (vs:= [.slice (some ⟨qh,0,none⟩) (([1,2,3]:List Int)).length 3,.slice (some ⟨qm,0,none⟩) (([2,0,9]:List Int)).length 3]) (Ke (qk.Ag el) qp qr) (by decide+kernel) rfl rfl rfl Iu rfl qq ?_;rintro _ aaB aaC fo ⟨qt,qu,_,qv,qw,rfl,rfl,qx,qy⟩ qz;refine Cs 2 qx qz rfl λaaD em qB qC=>RN (S':= [[],[],[]]) rfl qC λqD=>?_;obtain⟨aaE,qE,qF⟩:=bs qs;refine JG.call (i:=46) (vs:= [.agg #[.slice g7 (cM.1.1).length g8,.slice g9 (cM.1.2).length ha],.agg #[.slice qt (hE.1).length qu,.slice qv (hE.2).length qw]]) (TX (hb.Ag (((((((((((db.trans cN).trans cy).trans cO).trans cQ).trans dc).trans dw).trans dL).trans fm).trans el).trans fo).trans em)) (hc.Ag (((((((((((db.trans cN).trans cy).trans cO).trans cQ).trans dc).trans dw).trans dL).trans fm).trans el).trans fo).trans em)) qB (qy.Ag em) qE) (by decide+kernel) rfl rfl rfl (A1 Tryz.func33 rfl) rfl qD ?_;rintro _ qG _ qH ⟨rfl,rfl⟩ qI;refine BR 47 K rfl rfl ?_;obtain rfl:=oi qF;refine B8 ?_ (fk _ _ ⟨qG,rfl,rfl,((((fm.trans el).trans fo).trans em).trans qH),qI⟩);exact⟨rfl,trivial⟩
                                           ·refine Take.Co (pp:=rI) [iV 2,iV 0,iV 9] ([2,0,9]:List Int) fj rfl rfl rfl Tryz.underlying22 Ay Bx (by decide) rfl rfl rfl ⟨rfl,rfl,rfl,trivial⟩ λqJ aaF qK qL=>Cs 0 qK qL rfl λaaG fp qM qN=>JG.one (i:=43) rfl (by decide+kernel) (Take.Co (pp:=rI) [iV 1,iV 2,iV 3] ([1,2,3]:List Int) qN rfl rfl rfl Tryz.underlying22 Ay Bx (by decide) rfl rfl rfl ⟨rfl,rfl,rfl,trivial⟩ λqO aaH qP qQ=>?_);refine Cs 1 qP qQ rfl λaaI en qR qS=>?_;obtain⟨hF,qT,qU⟩:=bs hD;refine JG.call (i:=45) (vs:= [.slice (some ⟨qO,0,none⟩) (([1,2,3]:List Int)).length 3,.slice (some ⟨qJ,0,none⟩) (([2,0,9]:List Int)).length 3]) (Ke qR (qM.Ag en) qT) (by decide+kernel) rfl rfl rfl Iu rfl qS ?_;rintro _ aaJ aaK fq ⟨qV,qW,_,qX,qY,rfl,rfl,qZ,q0⟩ q1;refine Cs 2 qZ q1 rfl λaaL eo q2 q3=>RN (S':= [[],[],[]]) rfl q3 λq4=>?_;obtain⟨aaM,q5,q6⟩:=bs qU;refine JG.call (i:=46) (vs:= [.agg #[.slice g7 (cM.1.1).length g8,.slice g9 (cM.1.2).length ha],.agg #[.slice qV (hF.1).length qW,.slice qX (hF.2).length qY]]) (TX (hb.Ag (((((((((((db.trans cN).trans cy).trans cO).trans cQ).trans dc).trans dw).trans dL).trans fp).trans en).trans fq).trans eo)) (hc.Ag (((((((((((db.trans cN).trans cy).trans cO).trans cQ).trans dc).trans dw).trans dL).trans fp).trans en).trans fq).trans eo)) q2 (q0.Ag eo) q5) (by decide+kernel) rfl rfl rfl (A1 Tryz.func33 rfl) rfl q4 ?_;rintro _ q7 _ q8 ⟨rfl,rfl⟩ q9;refine BR 47 K rfl rfl ?_;obtain rfl:=oi q6;refine B8 ?_ (fk _ _ ⟨q7,rfl,rfl,((((fp.trans en).trans fq).trans eo).trans q8),q9⟩);exact⟨rfl,trivial⟩
                                          ·have ra:=ib hB fl;refine A3 K rfl [42,43,44,45,46,47] rfl ?_;obtain rfl:=oi ra;refine B8 ?_ (fk _ _ ⟨ek,rfl,rfl,(Le.refl _),fj⟩);exact⟨rfl,trivial⟩
                                        ·intro hG;refine IQ (c:=hv) (i:=311) rfl (λfs=>?_) (λfs=>?_)
                                         ·have rb:=ip hz fs;refine BR 37 K rfl rfl ?_;refine JG.one (i:=38) rfl (by decide+kernel) ?_;refine Take.Co (pp:=rI) [iV 0,iV 1,iV 2] ([0,1,2]:List Int) hx rfl rfl rfl Tryz.underlying22 Ay Bx (by decide) rfl rfl rfl ⟨rfl,rfl,rfl,trivial⟩ λrc aaN rd re=>?_;refine Cs 0 rd re rfl λaaO hH rf rg=>?_;obtain⟨aaP,rh,ri⟩:=bs rb;refine JG.call (i:=39) (vs:= [.slice cu (am.2.1).length cv,.slice (some ⟨rc,0,none⟩) (([0,1,2]:List Int)).length 3]) (I8 (pc.Ag ((((((((((((fc.trans ff).trans fg).trans eh).trans fh).trans db).trans cN).trans cy).trans cO).trans cQ).trans dc).trans dw).trans hH)) rf rh) (by decide+kernel) rfl rfl rfl IN rfl rg ?_;rintro _ rj _ rk ⟨rfl,rfl⟩ rl;refine BR 40 K rfl rfl ?_;obtain rfl:=oi ri;refine B8 ?_ (hG _ _ ⟨rj,rfl,rfl,(hH.trans rk),rl⟩);exact⟨rfl,rfl,trivial⟩
                                         ·have rm:=ib hz fs;refine A3 K rfl [37,38,39,40] rfl ?_;obtain rfl:=oi rm;refine B8 ?_ (hG _ _ ⟨ej,rfl,rfl,(Le.refl _),hx⟩);exact⟨rfl,rfl,trivial⟩
                                       ·intro hI;refine IQ (c:=hs) (i:=306) rfl (λfu=>?_) (λfu=>?_)
                                        ·have ro:=ip hw fu;refine BR 32 K rfl rfl ?_;obtain⟨rp,rq,rr⟩:=bs ro;refine JG.call (i:=33) (vs:= []) (Ki rq) (by decide+kernel) rfl rfl rfl Jf rfl hu ?_;rintro _ aaQ aaR hJ ⟨rt,ru,_,rfl,rfl,rv⟩ rx;refine Cs 0 rv rx rfl λaaS hK ry rz=>?_;obtain⟨aaT,rC,rD⟩:=bs rr;refine JG.call (i:=34) (vs:= [.slice cJ (am.1).length cK,.slice rt (rp).length ru]) (K5 (pb.Ag ((((((((((((fc.trans ff).trans fg).trans eh).trans fh).trans db).trans cN).trans cy).trans cO).trans cQ).trans dc).trans hJ).trans hK)) ry rC) (by decide+kernel) rfl rfl rfl KB rfl rz ?_;rintro _ rE _ rF ⟨rfl,rfl⟩ rG;refine BR 35 K rfl rfl ?_;obtain rfl:=oi rD;refine B8 ?_ (hI _ _ ⟨rE,rfl,rfl,((hJ.trans hK).trans rF),rG⟩);exact⟨rfl,rfl,rfl,trivial⟩
                                        ·have rH:=ib hw fu;refine A3 K rfl [32,33,34,35] rfl ?_;obtain rfl:=oi rH;refine B8 ?_ (hI _ _ ⟨ei,rfl,rfl,(Le.refl _),hu⟩);exact⟨rfl,rfl,rfl,trivial⟩
                                      ·intro hL;refine IQ (c:=hq) (i:=301) rfl (λfv=>?_) (λfv=>?_)
                                       ·have rJ:=ip ht fv;refine BR 27 K rfl rfl ?_;refine JG.one (i:=28) rfl (by decide+kernel) ?_;refine Take.Co (pp:=rI) [iV 0,iV 1,iV 2] ([0,1,2]:List Int) hd rfl rfl rfl Tryz.underlying22 Ay Bx (by decide) rfl rfl rfl ⟨rfl,rfl,rfl,trivial⟩ λrO aaU rQ rR=>?_;refine Cs 19 rQ rR rfl λaaV hM rS rT=>?_;obtain⟨aaW,rU,rW⟩:=bs rJ;refine JG.call (i:=29) (vs:= [.slice c9 (cI.1).length da,.slice (some ⟨rO,0,none⟩) (([0,1,2]:List Int)).length 3]) (I8 (oh.Ag (((((((((((((((((((((fb.trans dI).trans dJ).trans g4).trans g5).trans ef).trans eg).trans oW).trans o1).trans g6).trans pa).trans fc).trans ff).trans fg).trans eh).trans fh).trans db).trans cN).trans cy).trans cO).trans cQ).trans hM)) rS rU) (by decide+kernel) rfl rfl rfl IN rfl rT ?_;rintro _ rX _ rY ⟨rfl,rfl⟩ rZ;refine BR 30 K rfl rfl ?_;obtain rfl:=oi rW;refine B8 ?_ (hL _ _ ⟨rX,rfl,rfl,(hM.trans rY),rZ⟩);exact⟨rfl,rfl,rfl,rfl,trivial⟩
                                       ·have r0:=ib ht fv;refine A3 K rfl [27,28,29,30] rfl ?_;obtain rfl:=oi r0;refine B8 ?_ (hL _ _ ⟨cP,rfl,rfl,(Le.refl _),hd⟩);exact⟨rfl,rfl,rfl,rfl,trivial⟩
                                     ·intro hN;refine IQ (c:=ho) (i:=297) rfl (λfw=>?_) (λfw=>?_)
                                      ·have r1:=ip hr fw;refine A3 K rfl [23,24,25] rfl ?_;obtain rfl:=oi r1;refine B8 ?_ (hN _ _ ⟨rfl,rfl⟩);exact⟨rfl,rfl,rfl,rfl,rfl,trivial⟩
                                      ·have r2:=ib hr fw;refine A3 K rfl [23,24,25] rfl ?_;obtain rfl:=oi r2;refine B8 ?_ (hN _ _ ⟨rfl,rfl⟩);exact⟨rfl,rfl,rfl,rfl,rfl,trivial⟩
                                    ·intro hO;refine IQ (c:=hm) (i:=293) rfl (λfx=>?_) (λfx=>?_)
                                     ·have r3:=ip hp fx;refine A3 K rfl [19,20,21] rfl ?_;obtain rfl:=oi r3;refine B8 ?_ (hO _ _ ⟨rfl,rfl⟩);exact⟨rfl,rfl,rfl,rfl,rfl,rfl,trivial⟩
                                     ·have r4:=ib hp fx;refine A3 K rfl [19,20,21] rfl ?_;obtain rfl:=oi r4;refine B8 ?_ (hO _ _ ⟨rfl,rfl⟩);exact⟨rfl,rfl,rfl,rfl,rfl,rfl,trivial⟩
                                   ·intro hP;refine IQ (c:=hk) (i:=289) rfl (λfy=>?_) (λfy=>?_)
                                    ·have r5:=ip hn fy;refine A3 K rfl [15,16,17] rfl ?_;obtain rfl:=oi r5;refine B8 ?_ (hP _ _ ⟨rfl,rfl⟩);exact⟨rfl,rfl,rfl,rfl,rfl,rfl,rfl,trivial⟩
                                    ·have r6:=ib hn fy;refine A3 K rfl [15,16,17] rfl ?_;obtain rfl:=oi r6;refine B8 ?_ (hP _ _ ⟨rfl,rfl⟩);exact⟨rfl,rfl,rfl,rfl,rfl,rfl,rfl,trivial⟩
                                  ·intro hQ;refine IQ (c:=hg) (i:=285) rfl (λfz=>?_) (λfz=>?_)
                                   ·have r7:=ip hl fz;refine A3 K rfl [11,12,13] rfl ?_;obtain rfl:=oi r7;refine B8 ?_ (hQ _ _ ⟨rfl,rfl⟩);exact⟨rfl,rfl,rfl,rfl,rfl,rfl,rfl,rfl,trivial⟩
                                   ·have r8:=ib hl fz;refine A3 K rfl [11,12,13] rfl ?_;obtain rfl:=oi r8;refine B8 ?_ (hQ _ _ ⟨rfl,rfl⟩);exact⟨rfl,rfl,rfl,rfl,rfl,rfl,rfl,rfl,trivial⟩
                                 ·intro hR;refine IQ (c:=he) (i:=281) rfl (λfA=>?_) (λfA=>?_)
                                  ·have r9:=ip hj fA;refine A3 K rfl [7,8,9] rfl ?_;obtain rfl:=oi r9;refine B8 ?_ (hR _ _ ⟨rfl,rfl⟩);exact⟨rfl,rfl,rfl,rfl,rfl,rfl,rfl,rfl,rfl,trivial⟩
                                  ·have sa:=ib hj fA;refine A3 K rfl [7,8,9] rfl ?_;obtain rfl:=oi sa;refine B8 ?_ (hR _ _ ⟨rfl,rfl⟩);exact⟨rfl,rfl,rfl,rfl,rfl,rfl,rfl,rfl,rfl,trivial⟩
                                ·intro hS;refine Gy (q:=cI.2=0) (i:=277) rfl (λfB=>?_) (λfB=>?_)
                                 ·have sb:=ip hf fB;refine A3 K rfl [3,4,5] rfl ?_;obtain rfl:=oi sb;refine B8 ?_ (hS _ _ ⟨rfl,rfl⟩);exact⟨rfl,rfl,rfl,rfl,rfl,rfl,rfl,rfl,rfl,rfl,trivial⟩
                                 ·have sc:=im hf fB;refine A3 K rfl [3,4,5] rfl ?_;obtain rfl:=oi sc;refine B8 ?_ (hS _ _ ⟨rfl,rfl⟩);exact⟨rfl,rfl,rfl,rfl,rfl,rfl,rfl,rfl,rfl,rfl,trivial⟩
                              ·intro hT;refine Ci 228 nO (λsd se=>?_) (λsd sf=>?_)
                               ·refine C 4 rfl ?_;obtain rfl:=oi se;exact Az (hT _ _ ⟨e7,rfl,rfl,(Le.refl _),gZ⟩) rfl
                               ·refine C 1 rfl (JL.ln Tryz.underlying22 rfl rfl rfl ?_);refine C 2 rfl ?_;obtain rfl:=oi sf;exact Az (hT _ _ ⟨e7,rfl,rfl,(Le.refl _),gZ⟩) rfl
                             ·refine Ci 224 nL (λsg si=>?_) (λsg sj=>?_)
                              ·refine C 3 rfl ?_;obtain rfl:=oi si;exact g0 (Le.refl _) gX rfl
                              ·refine C 3 rfl ?_;obtain rfl:=oi sj;exact g0 (Le.refl _) gX rfl
                            ·refine Ci 220 nI (λsk sn=>?_) (λsk so=>?_)
                             ·refine C 3 rfl ?_;obtain rfl:=oi sn;exact gY (Le.refl _) gV rfl
                             ·refine C 3 rfl ?_;obtain rfl:=oi so;exact gY (Le.refl _) gV rfl
                           ·refine Ci 216 nF (λsp sq=>?_) (λsp sr=>?_)
                            ·refine C 3 rfl ?_;obtain rfl:=oi sq;exact gW (Le.refl _) gT rfl
                            ·refine C 3 rfl ?_;obtain rfl:=oi sr;exact gW (Le.refl _) gT rfl
                          ·refine Ci 212 nC (λss su=>?_) (λss sw=>?_)
                           ·refine C 3 rfl ?_;obtain rfl:=oi su;exact gU (Le.refl _) gR rfl
                           ·refine C 3 rfl ?_;obtain rfl:=oi sw;exact gU (Le.refl _) gR rfl
                         ·refine Ci 208 nz (λsx sy=>?_) (λsx sz=>?_)
                          ·refine C 3 rfl ?_;obtain rfl:=oi sy;exact gS (Le.refl _) gP rfl
                          ·refine C 3 rfl ?_;obtain rfl:=oi sz;exact gS (Le.refl _) gP rfl
                        ·refine Ci 204 nu (λsB sC=>?_) (λsB sD=>?_)
                         ·refine C 3 rfl ?_;obtain rfl:=oi sC;exact gQ (Le.refl _) gN rfl
                         ·refine C 3 rfl ?_;obtain rfl:=oi sD;exact gQ (Le.refl _) gN rfl
                       ·refine G1 200 nr (λsE sF=>?_) (λsE sG=>?_)
                        ·refine C 3 rfl ?_;obtain rfl:=oi sF;exact gO (Le.refl _) gM rfl
                        ·refine C 3 rfl ?_;obtain rfl:=oi sG;exact gO (Le.refl _) gM rfl
                     ·intro hU;refine Ci 164 mi (λsH sI=>?_) (λsH sJ=>?_)
                      ·refine C 8 rfl ?_;obtain rfl:=oi sI;exact Az (hU _ _ ⟨gI,rfl,rfl,(Le.refl _),gJ⟩) rfl
                      ·obtain⟨aaX,sK,sL⟩:=bs sJ;refine A2 (Fa sK) rfl rfl Eo gJ ?_;rintro _ aaY hV hW ⟨aaZ,aa0,_,aa1,aa2,rfl,rfl,sM,sN⟩ sO;obtain⟨aa3,sP,sQ⟩:=bs sL;refine A2 (Ki sP) rfl rfl Jf sO ?_;rintro _ aa4 hX ep ⟨aa5,aa6,_,rfl,rfl,sR⟩ sS;refine AQ (S':= [hV,hX]) rfl sS λsT=>Da (pp:=rI) [iV 1,iV 1,iV 1] [1,1,1] rfl rfl rfl Tryz.underlying22 Ay Bx (by decide) rfl rfl rfl ⟨rfl,rfl,rfl,trivial⟩ sT λaa7 aa8 sU sW=>Bd 2 sU sW rfl λaa9 dM sX sY=>?_;obtain⟨aba,sZ,s0⟩:=bs sQ;refine A2 (Jy sX sZ) rfl rfl Gw sY ?_;rintro _ abb s2 dN ⟨abc,abd,_,rfl,rfl,s3⟩ s4;refine AQ (S':= [hV,hX,[],s2]) rfl s4 λs5=>Bd 3 s3 s5 rfl λabe dO s6 s7=>?_;obtain⟨abf,s9,ta⟩:=bs s0;refine Hs (pp:=Au) 1 s9 rfl rfl rfl rfl rfl rfl rfl Tryz.underlying26 Tryz.underlying26 Bi (Dt Tryz.type42) BM rfl (by decide) (by decide) (sR.Ag ((dM.trans dN).trans dO)) s6 s7 rfl λabg abh tb tc td=>Bd 0 (sM.Ag (((ep.trans dM).trans dN).trans dO)) td rfl λabi er tf tg=>AQ (S':= [[],tb,[],[]]) rfl tg λth=>Bd 1 (tc.Ag er) th rfl λabj et ti tj=>?_;obtain⟨abk,tk,tl⟩:=bs ta;refine BH (Nl (cR.Ag ((((((((((((((((((((((((((((((((((((((((((((((((((cT.trans cg).trans b9).trans ca).trans be).trans bi).trans cb).trans cW).trans cX).trans cY).trans cZ).trans c0).trans cB).trans c1).trans cC).trans cD).trans cm).trans cE).trans cn).trans a6).trans a7).trans a8).trans bY).trans bZ).trans b0).trans bn).trans b1).trans b2).trans cd).trans b3).trans b4).trans b5).trans b6).trans ce).trans cp).trans cG).trans c5).trans c6).trans cq).trans cr).trans ct).trans dv).trans dD).trans dY).trans hW).trans ep).trans dM).trans dN).trans dO).trans er).trans et)) (tf.Ag et) (sN.Ag (((((ep.trans dM).trans dN).trans dO).trans er).trans et)) ti tk) rfl rfl Mt tj λtn tp tq=>C 2 rfl ?_;obtain rfl:=oi tl;exact Az (hU _ _ ⟨tn,rfl,rfl,(((((((hW.trans ep).trans dM).trans dN).trans dO).trans er).trans et).trans tp),tq⟩) rfl
                    ·refine Ci 155 mf (λtr ts=>?_) (λtr tt=>?_)
                     ·refine C 8 rfl ?_;obtain rfl:=oi ts;exact gK (Le.refl _) gG rfl
                     ·obtain⟨abl,tu,tv⟩:=bs tt;refine A2 (Fa tu) rfl rfl Eo gG ?_;rintro _ abm hY hZ ⟨abn,abo,_,abp,abq,rfl,rfl,tx,tz⟩ tA;obtain⟨abr,tB,tC⟩:=bs tv;refine A2 (Ki tB) rfl rfl Jf tA ?_;rintro _ abs h0 eu ⟨abt,abu,_,rfl,rfl,tD⟩ tE;refine AQ (S':= [hY,h0]) rfl tE λtF=>Da (pp:=rI) [iV 1,iV 0,iV 1] [1,0,1] rfl rfl rfl Tryz.underlying22 Ay Bx (by decide) rfl rfl rfl ⟨rfl,rfl,rfl,trivial⟩ tF λabv abw tG tH=>Bd 2 tG tH rfl λabx dP tI tJ=>?_;obtain⟨aby,tK,tL⟩:=bs tC;refine A2 (Jy tI tK) rfl rfl Gw tJ ?_;rintro _ abz tM dQ ⟨abA,abB,_,rfl,rfl,tN⟩ tO;refine AQ (S':= [hY,h0,[],tM]) rfl tO λtP=>Bd 3 tN tP rfl λabC dR tQ tR=>?_;obtain⟨abD,tS,tT⟩:=bs tL;refine Hs (pp:=Au) 1 tS rfl rfl rfl rfl rfl rfl rfl Tryz.underlying26 Tryz.underlying26 Bi (Dt Tryz.type42) BM rfl (by decide) (by decide) (tD.Ag ((dP.trans dQ).trans dR)) tQ tR rfl λabE abF tU tV tW=>Bd 0 (tx.Ag (((eu.trans dP).trans dQ).trans dR)) tW rfl λabG ew tX tY=>AQ (S':= [[],tU,[],[]]) rfl tY λtZ=>Bd 1 (tV.Ag ew) tZ rfl λabH ex ua ub=>?_;obtain⟨abI,uc,ud⟩:=bs tT;refine BH (Nl (cR.Ag (((((((((((((((((((((((((((((((((((((((((((((((((cT.trans cg).trans b9).trans ca).trans be).trans bi).trans cb).trans cW).trans cX).trans cY).trans cZ).trans c0).trans cB).trans c1).trans cC).trans cD).trans cm).trans cE).trans cn).trans a6).trans a7).trans a8).trans bY).trans bZ).trans b0).trans bn).trans b1).trans b2).trans cd).trans b3).trans b4).trans b5).trans b6).trans ce).trans cp).trans cG).trans c5).trans c6).trans cq).trans cr).trans ct).trans dv).trans dD).trans hZ).trans eu).trans dP).trans dQ).trans dR).trans ew).trans ex)) (tX.Ag ex) (tz.Ag (((((eu.trans dP).trans dQ).trans dR).trans ew).trans ex)) ua uc) rfl rfl Mt ub λabJ ue uf=>C 2 rfl ?_;obtain rfl:=oi ud;exact gK (((((((hZ.trans eu).trans dP).trans dQ).trans dR).trans ew).trans ex).trans ue) uf rfl
                   ·refine G1 150 mc (λug uh=>?_) (λug ui=>?_)
                    ·refine C 4 rfl ?_;obtain rfl:=oi uh;exact gH (Le.refl _) gF rfl
                    ·obtain⟨abK,uj,uk⟩:=bs ui;refine A2 (Fa uj) rfl rfl Eo gF ?_;rintro _ abL abM h1 ⟨abN,abO,_,abP,abQ,rfl,rfl,ul,um⟩ un;refine Bd 3 ul un rfl λabR fC uo uq=>AQ (S':= [[],[],[],[]]) rfl uq λur=>?_;obtain⟨abS,ut,uu⟩:=bs uk;refine BH (Nl (cR.Ag (((((((((((((((((((((((((((((((((((((((((((cT.trans cg).trans b9).trans ca).trans be).trans bi).trans cb).trans cW).trans cX).trans cY).trans cZ).trans c0).trans cB).trans c1).trans cC).trans cD).trans cm).trans cE).trans cn).trans a6).trans a7).trans a8).trans bY).trans bZ).trans b0).trans bn).trans b1).trans b2).trans cd).trans b3).trans b4).trans b5).trans b6).trans ce).trans cp).trans cG).trans c5).trans c6).trans cq).trans cr).trans ct).trans dv).trans h1).trans fC)) uo (um.Ag fC) Al.nil ut) rfl rfl Mt ur λabT uv uw=>C 2 rfl ?_;obtain rfl:=oi uu;exact gH ((h1.trans fC).trans uv) uw rfl
                 ·intro h2;refine Ci 140 lK (λux uy=>?_) (λux uz=>?_)
                  ·refine C 5 rfl ?_;obtain rfl:=oi uy;exact Az (h2 _ _ ⟨gB,rfl,rfl,(Le.refl _),gC⟩) rfl
                  ·refine C 1 rfl (Da (pp:=rI) [iV 0,iV 1,iV 2,iV 3] [0,1,2,3] rfl rfl rfl Tryz.underlying22 Ay Bx (by decide) rfl rfl rfl ⟨rfl,rfl,rfl,rfl,trivial⟩ gC λabU uB uC uD=>?_);refine AQ (S':= [uB]) rfl uD λuE=>Bd 0 uC uE rfl λabV h3 uF uG=>?_;obtain⟨uH,uI,uJ⟩:=bs uz;refine BH (I8 (lg.Ag (((((((b3.trans b4).trans b5).trans b6).trans ce).trans cp).trans cG).trans h3)) uF uI) rfl rfl IN uG λuK uL uM=>Am (v:= .bool (!uH)) rfl (λρ h=>Yl.not (h _ _ rfl)) (C 1 rfl ?_);obtain rfl:=oi uJ;exact Az (h2 _ _ ⟨uK,rfl,rfl,(h3.trans uL),uM⟩) rfl
                ·refine Ci 134 lH (λuN uO=>?_) (λuN uP=>?_)
                 ·refine C 5 rfl ?_;obtain rfl:=oi uO;exact gD (Le.refl _) gz rfl
                 ·refine C 1 rfl (Da (pp:=rI) [iV 0,iV 0,iV 0,iV 0] [0,0,0,0] rfl rfl rfl Tryz.underlying22 Ay Bx (by decide) rfl rfl rfl ⟨rfl,rfl,rfl,rfl,trivial⟩ gz λabW uQ uR uS=>?_);refine AQ (S':= [uQ]) rfl uS λuT=>Bd 0 uR uT rfl λabX h4 uU uV=>?_;obtain⟨uW,uX,uY⟩:=bs uP;refine BH (I8 (k8.Ag ((((((((b2.trans cd).trans b3).trans b4).trans b5).trans b6).trans ce).trans cp).trans h4)) uU uX) rfl rfl IN uV λabY uZ u0=>Am (v:= .bool (!uW)) rfl (λρ h=>Yl.not (h _ _ rfl)) (C 1 rfl ?_);obtain rfl:=oi uY;exact gD (h4.trans uZ) u0 rfl
               ·refine Ci 127 lE (λu1 u2=>?_) (λu1 u3=>?_)
                ·refine C 6 rfl ?_;obtain rfl:=oi u2;exact gA (Le.refl _) gx rfl
                ·refine C 1 rfl (Da (pp:=rI) [iV 0,iV 3,iV 1,iV 1,iV 0,iV 2,iV 1,iV 2,iV 5,iV 2,iV 3,iV 2,iV 3,iV 1,iV 1] [0,3,1,1,0,2,1,2,5,2,3,2,3,1,1] rfl rfl rfl Tryz.underlying22 Ay Bx (by decide) rfl rfl rfl ⟨rfl,rfl,rfl,rfl,rfl,rfl,rfl,rfl,rfl,rfl,rfl,rfl,rfl,rfl,rfl,trivial⟩ gx λabZ u4 u5 u6=>?_);refine AQ (S':= [u4]) rfl u6 λu7=>Bd 0 u5 u7 rfl λab0 h5 u8 u9=>?_;obtain⟨ab1,vb,vc⟩:=bs u3;refine A2 (Jy u8 vb) rfl rfl Gw u9 ?_;rintro _ ab2 ab3 h6 ⟨ab4,ab5,_,rfl,rfl,vd⟩ ve;refine Bd 1 vd ve rfl λab6 h7 vf vg=>AQ (S':= [[],[]]) rfl vg λvh=>?_;obtain⟨vi,vj,vk⟩:=bs vc;refine BH (K5 (kn.Ag ((((((((((((((((((cn.trans a6).trans a7).trans a8).trans bY).trans bZ).trans b0).trans bn).trans b1).trans b2).trans cd).trans b3).trans b4).trans b5).trans b6).trans ce).trans h5).trans h6).trans h7)) vf vj) rfl rfl KB vh λab7 vl vm=>Am (v:= .bool (!vi)) rfl (λρ h=>Yl.not (h _ _ rfl)) (C 1 rfl ?_);obtain rfl:=oi vk;exact gA (((h5.trans h6).trans h7).trans vl) vm rfl
              ·refine Ci 120 lB (λvn vo=>?_) (λvn vp=>?_)
               ·refine C 6 rfl ?_;obtain rfl:=oi vo;exact gy (Le.refl _) gv rfl
               ·refine C 1 rfl (Da (pp:=rI) [iV 0,iV 1,iV 5,iV 0,iV 3,iV 1,iV 1,iV 2,iV 5,iV 2,iV 3,iV 2,iV 3,iV 1,iV 1] [0,1,5,0,3,1,1,2,5,2,3,2,3,1,1] rfl rfl rfl Tryz.underlying22 Ay Bx (by decide) rfl rfl rfl ⟨rfl,rfl,rfl,rfl,rfl,rfl,rfl,rfl,rfl,rfl,rfl,rfl,rfl,rfl,rfl,trivial⟩ gv λab8 vq vr vt=>?_);refine AQ (S':= [vq]) rfl vt λvu=>Bd 0 vr vu rfl λab9 h8 vv vw=>?_;obtain⟨aca,vx,vy⟩:=bs vp;refine A2 (Jy vv vx) rfl rfl Gw vw ?_;rintro _ acb acc h9 ⟨acd,ace,_,rfl,rfl,vz⟩ vA;refine Bd 1 vz vA rfl λacf ia vB vC=>AQ (S':= [[],[]]) rfl vC λvD=>?_;obtain⟨vE,vF,vG⟩:=bs vy;refine BH (K5 (j2.Ag (((((((((((((((((((((cC.trans cD).trans cm).trans cE).trans cn).trans a6).trans a7).trans a8).trans bY).trans bZ).trans b0).trans bn).trans b1).trans b2).trans cd).trans b3).trans b4).trans b5).trans b6).trans h8).trans h9).trans ia)) vB vF) rfl rfl KB vD λacg vH vI=>Am (v:= .bool (!vE)) rfl (λρ h=>Yl.not (h _ _ rfl)) (C 1 rfl ?_);obtain rfl:=oi vG;exact gy (((h8.trans h9).trans ia).trans vH) vI rfl
             ·refine Ci 116 lx (λvJ vK=>?_) (λvJ vL=>?_)
              ·refine C 3 rfl ?_;obtain rfl:=oi vK;exact gw (Le.refl _) gt rfl
              ·refine C 3 rfl ?_;obtain rfl:=oi vL;exact gw (Le.refl _) gt rfl
            ·refine Ci 112 ls (λvM vN=>?_) (λvM vO=>?_)
             ·refine C 3 rfl ?_;obtain rfl:=oi vN;exact gu (Le.refl _) gq rfl
             ·refine C 3 rfl ?_;obtain rfl:=oi vO;exact gu (Le.refl _) gq rfl
           ·refine Ci 108 lm (λvP vQ=>?_) (λvP vR=>?_)
            ·refine C 3 rfl ?_;obtain rfl:=oi vQ;exact gr (Le.refl _) gn rfl
            ·refine C 3 rfl ?_;obtain rfl:=oi vR;exact gr (Le.refl _) gn rfl
          ·refine G1 104 li (λvS vT=>?_) (λvS vU=>?_)
           ·refine C 3 rfl (JS.drop 7 gm rfl λvV=>?_);refine JS.drop 8 vV rfl λvW=>?_;obtain rfl:=oi vT;exact gp (Le.refl _) vW rfl
           ·refine C 3 rfl (JS.drop 7 gm rfl λvX=>?_);refine JS.drop 8 vX rfl λvY=>?_;obtain rfl:=oi vU;exact gp (Le.refl _) vY rfl
         ·intro fD;refine DJ (i:=1) (j:=3) rfl (by decide+kernel) ?_ ?_
          ·refine Take.y0 (v:= .slice aw (U.2).length ay) rfl rfl rfl (λρ h=>Yl.load Gv (h _ _ rfl) (BC (j:=7) eM rfl rfl)) ?_;obtain⟨ic,ie,vZ,v1⟩:=Al.cut (eK.Ag ((a6.trans a7).trans a8)) eN;refine JG.val (v:= .slice ic (co).length ie) 2 rfl K (by decide+kernel) rfl rfl rfl (λρ h s' dd=>v1 Tryz.underlying26 Bi (h _ _ rfl) (h _ _ rfl) rfl) (JG.fd 5 K Tryz.underlying28 EX rfl rfl rfl rfl ?_);refine JG.one (i:=3) rfl (by decide+kernel) (Take.Co (pp:=rI) [iV 0,iV 1,iV 9,iV 1,iV 0,iV 9] ([0,1,9,1,0,9]:List Int) eM rfl rfl rfl Tryz.underlying22 Ay Bx (by decide) rfl rfl rfl ⟨rfl,rfl,rfl,rfl,rfl,rfl,trivial⟩ λig ach v2 v3=>?_);refine Cs 9 v2 v3 rfl λaci ih ii v4=>JG.one (i:=4) rfl (by decide+kernel) (Take.DU (vs:= [.slice (some ⟨ig,0,none⟩) (([0,1,9,1,0,9]:List Int)).length 6]) v4 (Jy ii eO) rfl rfl rfl Gw rfl ?_);rintro _ v5 ey fE ⟨v6,v7,_,rfl,rfl,v8⟩ v9;exact Ge (S1:= [[],[],[],[],[],[],[],[(al,.cells #[.slice ap (U.1).length aq,.slice aw (U.2).length ay] 28 (0,0))],[(az,.cells #[.slice a0 (V.1).length a1,.slice a3 (V.2).length a4] 28 (0,0))],[],ey]) (S':= [[],[],[],[],[],[],[],[],[(al,.cells #[.slice ap (U.1).length aq,.slice aw (U.2).length ay] 28 (0,0))],[(az,.cells #[.slice a0 (V.1).length a1,.slice a3 (V.2).length a4] 28 (0,0))],ey]) rfl (((((((((List.perm_middle (α:=Seg) (l₁:= [[(al,.cells #[.slice ap (U.1).length aq,.slice aw (U.2).length ay] 28 (0,0))],[(az,.cells #[.slice a0 (V.1).length a1,.slice a3 (V.2).length a4] 28 (0,0))]]) (a:= []) (l₂:= [ey])).trans ((List.Perm.refl _).cons _)).cons _).cons _).cons _).cons _).cons _).cons _).cons _) v9 λwa=>Cu (fD _ _ ⟨v5,ic,ie,(some ⟨ig,0,none⟩),6,v6,v7,ey,rfl,rfl,(ih.trans fE),wa,(vZ.Ag (ih.trans fE)),(ii.Ag fE),v8⟩) rfl
          ·refine Take.Co (pp:=rI) [iV 0,iV 1,iV 9,iV 1,iV 0,iV 9] ([0,1,9,1,0,9]:List Int) eM rfl rfl rfl Tryz.underlying22 Ay Bx (by decide) rfl rfl rfl ⟨rfl,rfl,rfl,rfl,rfl,rfl,trivial⟩ λez acj wb wc=>Cs 9 wb wc rfl λack eA eB fF=>DJ (i:=1) (j:=4) rfl (by decide+kernel) ?_ ?_
           ·refine Take.y0 (v:= .slice aw (U.2).length ay) rfl rfl rfl (λρ h=>Yl.load Gv (h _ _ rfl) (BC (j:=7) fF rfl rfl)) ?_;obtain⟨ij,ik,wd,we⟩:=Al.cut (eK.Ag (((a6.trans a7).trans a8).trans eA)) eN;refine JG.val (v:= .slice ij (co).length ik) 2 rfl K (by decide+kernel) rfl rfl rfl (λρ h s' dd=>we Tryz.underlying26 Bi (h _ _ rfl) (h _ _ rfl) rfl) (JG.fd 5 K Tryz.underlying28 EX rfl rfl rfl rfl ?_);refine JG.one (i:=4) rfl (by decide+kernel) (Take.DU (vs:= [.slice (some ⟨ez,0,none⟩) (([0,1,9,1,0,9]:List Int)).length 6]) fF (Jy eB eO) rfl rfl rfl Gw rfl ?_);rintro _ wh eC fG ⟨wi,wj,_,rfl,rfl,wk⟩ wm;exact Ge (S1:= [[],[],[],[],[],[],[],[(al,.cells #[.slice ap (U.1).length aq,.slice aw (U.2).length ay] 28 (0,0))],[(az,.cells #[.slice a0 (V.1).length a1,.slice a3 (V.2).length a4] 28 (0,0))],[],eC]) (S':= [[],[],[],[],[],[],[],[],[(al,.cells #[.slice ap (U.1).length aq,.slice aw (U.2).length ay] 28 (0,0))],[(az,.cells #[.slice a0 (V.1).length a1,.slice a3 (V.2).length a4] 28 (0,0))],eC]) rfl (((((((((List.perm_middle (α:=Seg) (l₁:= [[(al,.cells #[.slice ap (U.1).length aq,.slice aw (U.2).length ay] 28 (0,0))],[(az,.cells #[.slice a0 (V.1).length a1,.slice a3 (V.2).length a4] 28 (0,0))]]) (a:= []) (l₂:= [eC])).trans ((List.Perm.refl _).cons _)).cons _).cons _).cons _).cons _).cons _).cons _).cons _) wm λwn=>Cu (fD _ _ ⟨wh,ij,ik,(some ⟨ez,0,none⟩),6,wi,wj,eC,rfl,rfl,(eA.trans fG),wn,(wd.Ag fG),(eB.Ag fG),wk⟩) rfl
           ·refine Take.DU (vs:= [.slice (some ⟨ez,0,none⟩) (([0,1,9,1,0,9]:List Int)).length 6]) fF (Jy eB eO) rfl rfl rfl Gw rfl ?_;rintro _ wo eD fH ⟨wp,wq,_,rfl,rfl,wr⟩ il;refine JG.one (i:=1) rfl (by decide+kernel) (Take.y0 (v:= .slice aw (U.2).length ay) rfl rfl rfl (λρ h=>Yl.load Gv (h _ _ rfl) (BC (j:=7) il rfl rfl)) ?_);obtain⟨io,iq,wu,wv⟩:=Al.cut (eK.Ag ((((a6.trans a7).trans a8).trans eA).trans fH)) eN;refine JG.val (v:= .slice io (co).length iq) 2 rfl K (by decide+kernel) rfl rfl rfl (λρ h s' dd=>wv Tryz.underlying26 Bi (h _ _ rfl) (h _ _ rfl) rfl) (JG.fd 5 K Tryz.underlying28 EX rfl rfl rfl rfl ?_);exact Ge (S1:= [[],[],[],[],[],[],[],[(al,.cells #[.slice ap (U.1).length aq,.slice aw (U.2).length ay] 28 (0,0))],[(az,.cells #[.slice a0 (V.1).length a1,.slice a3 (V.2).length a4] 28 (0,0))],[],eD]) (S':= [[],[],[],[],[],[],[],[],[(al,.cells #[.slice ap (U.1).length aq,.slice aw (U.2).length ay] 28 (0,0))],[(az,.cells #[.slice a0 (V.1).length a1,.slice a3 (V.2).length a4] 28 (0,0))],eD]) rfl (((((((((List.perm_middle (α:=Seg) (l₁:= [[(al,.cells #[.slice ap (U.1).length aq,.slice aw (U.2).length ay] 28 (0,0))],[(az,.cells #[.slice a0 (V.1).length a1,.slice a3 (V.2).length a4] 28 (0,0))]]) (a:= []) (l₂:= [eD])).trans ((List.Perm.refl _).cons _)).cons _).cons _).cons _).cons _).cons _).cons _).cons _) il λww=>Cu (fD _ _ ⟨wo,io,iq,(some ⟨ez,0,none⟩),6,wp,wq,eD,rfl,rfl,(eA.trans fH),ww,wu,(eB.Ag fH),wr⟩) rfl
       ·intro ir;refine Ci 61 jL (λwx wy=>?_) (λwx wz=>?_)
        ·refine C 5 rfl ?_;obtain rfl:=oi wy;exact Az (ir _ _ ⟨ge,rfl,rfl,(Le.refl _),gf⟩) rfl
        ·refine Da (pp:=rI) [iV 0,iV 1,iV 0] [0,1,0] rfl rfl rfl Tryz.underlying22 Ay Bx (by decide) rfl rfl rfl ⟨rfl,rfl,rfl,trivial⟩ gf λacl wA wB wC=>AQ (S':= [wA]) rfl wC λwD=>Bd 0 wB wD rfl λacm wE wF wG=>?_;obtain⟨acn,wH,wI⟩:=bs wz;refine A2 (Ke Al.nil wF wH) rfl rfl Iu wG ?_;rintro _ aco acp wJ ⟨acq,acr,_,acs,acu,rfl,rfl,wK,wL⟩ wM;refine Bd 1 wK wM rfl λacv iu wN wP=>AQ (S':= [[],[]]) rfl wP λwQ=>?_;obtain⟨acw,wR,wS⟩:=bs wI;refine BH (JE wN (wL.Ag iu) wR) rfl rfl Jg wQ λwT wU wV=>C 2 rfl ?_;obtain rfl:=oi wS;exact Az (ir _ _ ⟨wT,rfl,rfl,(((wE.trans wJ).trans iu).trans wU),wV⟩) rfl
      ·refine Ci 55 jI (λwW wX=>?_) (λwW wY=>?_)
       ·refine C 5 rfl ?_;obtain rfl:=oi wX;exact gg (Le.refl _) gc rfl
       ·refine Da (pp:=rI) [iV 0,iV 0,iV 1] [0,0,1] rfl rfl rfl Tryz.underlying22 Ay Bx (by decide) rfl rfl rfl ⟨rfl,rfl,rfl,trivial⟩ gc λacx wZ w1 w2=>AQ (S':= [wZ]) rfl w2 λw3=>Bd 0 w1 w3 rfl λacy w4 w5 w6=>?_;obtain⟨acz,w7,w8⟩:=bs wY;refine A2 (Ke Al.nil w5 w7) rfl rfl Iu w6 ?_;rintro _ acA acB w9 ⟨acC,acD,_,acE,acF,rfl,rfl,xa,xb⟩ xc;refine Bd 1 xa xc rfl λacG iv xd xe=>AQ (S':= [[],[]]) rfl xe λxf=>?_;obtain⟨acH,xg,xh⟩:=bs w8;refine BH (JE xd (xb.Ag iv) xg) rfl rfl Jg xf λacI xi xj=>C 2 rfl ?_;obtain rfl:=oi xh;exact gg (((w4.trans w9).trans iv).trans xi) xj rfl
     ·refine Ci 49 jF (λxk xm=>?_) (λxk xn=>?_)
      ·refine C 5 rfl ?_;obtain rfl:=oi xm;exact gd (Le.refl _) gb rfl
      ·refine Da (pp:=rI) [iV 4,iV 0,iV 1] [4,0,1] rfl rfl rfl Tryz.underlying22 Ay Bx (by decide) rfl rfl rfl ⟨rfl,rfl,rfl,trivial⟩ gb λacJ xo xp xq=>AQ (S':= [xo]) rfl xq λxr=>Bd 0 xp xr rfl λacK xu xw xx=>?_;obtain⟨acL,xy,xz⟩:=bs xn;refine A2 (Ke Al.nil xw xy) rfl rfl Iu xx ?_;rintro _ acM acN xA ⟨acO,acP,_,acQ,acR,rfl,rfl,xB,xC⟩ xD;refine Bd 1 xB xD rfl λacS iw xE xF=>AQ (S':= [[],[]]) rfl xF λxG=>?_;obtain⟨acT,xH,xI⟩:=bs xz;refine BH (JE xE (xC.Ag iw) xH) rfl rfl Jg xG λacU xJ xK=>C 2 rfl ?_;obtain rfl:=oi xI;exact gd (((xu.trans xA).trans iw).trans xJ) xK rfl
    ·intro iy;refine Ci 44 jC (λxL xM=>?_) (λxL xN=>?_)
     ·refine C 4 rfl (Bd 0 (fS.Ag ((be.trans bi).trans cb)) eH rfl λxO xP xQ xR=>?_);refine AQ (S':= [[],[(a2,.cells #[.slice Y ((O.1.set (Int.toNat 0) ([1,1,1,1]:List Int))).length Z,.slice a9 (O.2).length bb] 28 (0,0))]]) rfl xR λxS=>JS.drop 1 xS rfl λxT=>?_;obtain rfl:=oi xM;exact Az (iy _ _ ⟨xO,Y,Z,rfl,rfl,xP,xT,xQ⟩) rfl
     ·refine Am rfl (λρ h=>GV (vs:= [.slice Y ((O.1.set (Int.toNat 0) ([1,1,1,1]:List Int))).length Z,.slice a9 (O.2).length bb]) Dk BP (h _ _ rfl) (EY (off:=0) 1 eH rfl rfl)) (Bd 0 (fS.Ag ((be.trans bi).trans cb)) eH rfl λacV iz iA xU=>?_);refine AQ (S':= [[],[(a2,.cells #[.slice Y ((O.1.set (Int.toNat 0) ([1,1,1,1]:List Int))).length Z,.slice a9 (O.2).length bb] 28 (0,0))]]) rfl xU λxV=>?_;obtain⟨acW,xW,xX⟩:=bs xN;refine BH (JE (p0:=((O.1.set (Int.toNat 0) ([1,1,1,1]:List Int)),O.2)) iA (i4.Ag (((((b9.trans ca).trans be).trans bi).trans cb).trans iz)) xW) rfl rfl Jg xV λxY iB xZ=>C 2 rfl (JS.drop 1 xZ rfl λx1=>?_);obtain rfl:=oi xX;exact Az (iy _ _ ⟨xY,Y,Z,rfl,rfl,(iz.trans iB),x1,(iA.Ag iB)⟩) rfl
   ·refine Ci 39 jz (λx3 x4=>?_) (λx3 x5=>?_)
    ·refine C 4 rfl (JS.drop 1 eG rfl λx6=>?_);obtain rfl:=oi x4;exact fX (Le.refl _) x6 rfl
    ·refine Am rfl (λρ h=>GV (vs:= [.slice ci (ac).length ck,.slice b7 (ag.2).length b8]) Dk BP (h _ _ rfl) (EY (off:=0) 1 eG rfl rfl)) ?_;obtain⟨acX,x7,x8⟩:=bs x5;refine BH (JE (p0:=(ac,ag.2)) (jh.Ag (be.trans bi)) (iY.Ag ((((cg.trans b9).trans ca).trans be).trans bi)) x7) rfl rfl Jg eG λacY x9 ya=>AQ (S':= [[(dg,.cells (A7 f63 cV [.slice bx (([1,1,1,1]:List Int)).length bz]) 22 (0,0))],[(a5,.cells #[.slice ci (ac).length ck,.slice b7 (ag.2).length b8] 28 (0,0))],[(a2,.cells #[.slice Y ((O.1.set (Int.toNat 0) ([1,1,1,1]:List Int))).length Z,.slice a9 (O.2).length bb] 28 (0,0))],[]]) rfl ya λyb=>C 2 rfl (JS.drop 1 yb rfl λyc=>?_);obtain rfl:=oi x8;exact fX x9 yc rfl
  ·refine Ci 34 jw (λyd ye=>?_) (λyd yf=>?_)
   ·refine C 4 rfl ?_;obtain rfl:=oi ye;exact fW (Le.refl _) fU rfl
   ·obtain⟨acZ,yg,yh⟩:=bs yf;refine A2 (Fa yg) rfl rfl Eo fU ?_;rintro _ ac0 yi yj ⟨ac1,ac2,_,ac3,ac4,rfl,rfl,yk,yl⟩ ym;refine AQ (S':= [[],[],[(dg,.cells (A7 f63 cV [.slice bx (([1,1,1,1]:List Int)).length bz]) 22 (0,0))],[(a5,.cells #[.slice ci (ac).length ck,.slice b7 (ag.2).length b8] 28 (0,0))],[(a2,.cells #[.slice Y ((O.1.set (Int.toNat 0) ([1,1,1,1]:List Int))).length Z,.slice a9 (O.2).length bb] 28 (0,0))],[],[],yi]) rfl ym λyn=>Bd 7 yk yn rfl λac5 iC yo yp=>?_;obtain⟨ac6,yq,yr⟩:=bs yh;refine BH (JE yo (yl.Ag iC) yq) rfl rfl Jg yp λac7 yt yu=>C 2 rfl ?_;obtain rfl:=oi yr;exact fW ((yj.trans iC).trans yt) yu rfl
 ·intro bo;refine KQ (i:=1) (j:=3) (l:=5) rfl (by decide+kernel) ?_ ?_ ?_
  ·refine Take.y0 (v:= .slice Y (O.1).length Z) rfl rfl rfl (λρ h=>Yl.load CJ (h _ _ rfl) (BC (j:=4) bd rfl rfl)) (DJ (i:=3) (j:=5) rfl (by decide+kernel) ?_ ?_)
   ·refine Take.y0 (v:= .slice cz (ag.1).length cA) rfl rfl rfl (λρ h=>Yl.load CJ (h _ _ rfl) (BC (j:=3) bd rfl rfl)) ?_;obtain⟨dS,dT,iD,yv⟩:=Al.cut dy dz;refine JG.val (v:= .slice dS (ac).length dT) 4 rfl K (by decide+kernel) rfl rfl rfl (λρ h s' dd=>yv Tryz.underlying25 De (h _ _ rfl) (h _ _ rfl) rfl) (JG.fd 6 K Tryz.underlying28 Cc rfl rfl rfl rfl ?_);refine DJ (i:=5) (j:=7) rfl (by decide+kernel) ?_ ?_
    ·refine Take.Co (pp:=rI) [iV 1,iV 1,iV 1,iV 1] ([1,1,1,1]:List Int) bd rfl rfl rfl Tryz.underlying22 Ay Bx (by decide) rfl rfl rfl ⟨rfl,rfl,rfl,rfl,trivial⟩ λyw ac8 yx yy=>Cs 5 yx yy rfl λyz iE yA yB=>JG.one (i:=7) rfl (by decide+kernel) (Take.H8 (v:= .slice dS (ac).length dT) (off:=0) 3 yB rfl rfl rfl rfl rfl Cc (by simp [Value.cells,B3]) rfl (Nat.le_of_ble_eq_true rfl) λyC=>?_);exact Cu (bo _ _ ⟨yz,dS,dT,(some ⟨yw,0,none⟩),4,rfl,rfl,iE,yC,(iD.Ag iE),yA⟩) rfl
    ·refine Take.H8 (v:= .slice dS (ac).length dT) (off:=0) 3 bd rfl rfl rfl rfl rfl Cc (by simp [Value.cells,B3]) rfl (Nat.le_of_ble_eq_true rfl) λyD=>JG.one (i:=5) rfl (by decide+kernel) (Take.Co (pp:=rI) [iV 1,iV 1,iV 1,iV 1] ([1,1,1,1]:List Int) yD rfl rfl rfl Tryz.underlying22 Ay Bx (by decide) rfl rfl rfl ⟨rfl,rfl,rfl,rfl,trivial⟩ λyE ac9 yF yG=>?_);exact Cs 5 yF yG rfl λyH iF yI yJ=>Cu (bo _ _ ⟨yH,dS,dT,(some ⟨yE,0,none⟩),4,rfl,rfl,iF,yJ,(iD.Ag iF),yI⟩) rfl
   ·refine Take.Co (pp:=rI) [iV 1,iV 1,iV 1,iV 1] ([1,1,1,1]:List Int) bd rfl rfl rfl Tryz.underlying22 Ay Bx (by decide) rfl rfl rfl ⟨rfl,rfl,rfl,rfl,trivial⟩ λyK ada yL yM=>Cs 5 yL yM rfl λyN iG yO iH=>JG.one (i:=3) rfl (by decide+kernel) (Take.y0 (v:= .slice cz (ag.1).length cA) rfl rfl rfl (λρ h=>Yl.load CJ (h _ _ rfl) (BC (j:=3) iH rfl rfl)) ?_);obtain⟨fI,fJ,yP,yQ⟩:=Al.cut (dy.Ag iG) dz;refine JG.val (v:= .slice fI (ac).length fJ) 4 rfl K (by decide+kernel) rfl rfl rfl (λρ h s' dd=>yQ Tryz.underlying25 De (h _ _ rfl) (h _ _ rfl) rfl) (JG.fd 6 K Tryz.underlying28 Cc rfl rfl rfl rfl ?_);refine JG.one (i:=7) rfl (by decide+kernel) (Take.H8 (v:= .slice fI (ac).length fJ) (off:=0) 3 iH rfl rfl rfl rfl rfl Cc (by simp [Value.cells,B3]) rfl (Nat.le_of_ble_eq_true rfl) λyR=>?_);exact Cu (bo _ _ ⟨yN,fI,fJ,(some ⟨yK,0,none⟩),4,rfl,rfl,iG,yR,yP,yO⟩) rfl
  ·refine Take.y0 (v:= .slice cz (ag.1).length cA) rfl rfl rfl (λρ h=>Yl.load CJ (h _ _ rfl) (BC (j:=3) bd rfl rfl)) ?_;obtain⟨bv,bw,dx,yS⟩:=Al.cut dy dz;refine JG.val (v:= .slice bv (ac).length bw) 4 rfl K (by decide+kernel) rfl rfl rfl (λρ h s' dd=>yS Tryz.underlying25 De (h _ _ rfl) (h _ _ rfl) rfl) (JG.fd 6 K Tryz.underlying28 Cc rfl rfl rfl rfl ?_);refine KQ (i:=1) (j:=5) (l:=7) rfl (by decide+kernel) ?_ ?_ ?_
   ·refine Take.y0 (v:= .slice Y (O.1).length Z) rfl rfl rfl (λρ h=>Yl.load CJ (h _ _ rfl) (BC (j:=4) bd rfl rfl)) (DJ (i:=5) (j:=7) rfl (by decide+kernel) ?_ ?_)
    ·refine Take.Co (pp:=rI) [iV 1,iV 1,iV 1,iV 1] ([1,1,1,1]:List Int) bd rfl rfl rfl Tryz.underlying22 Ay Bx (by decide) rfl rfl rfl ⟨rfl,rfl,rfl,rfl,trivial⟩ λyT adb yU yV=>Cs 5 yU yV rfl λyW iI yX yY=>JG.one (i:=7) rfl (by decide+kernel) (Take.H8 (v:= .slice bv (ac).length bw) (off:=0) 3 yY rfl rfl rfl rfl rfl Cc (by simp [Value.cells,B3]) rfl (Nat.le_of_ble_eq_true rfl) λyZ=>?_);exact Cu (bo _ _ ⟨yW,bv,bw,(some ⟨yT,0,none⟩),4,rfl,rfl,iI,yZ,(dx.Ag iI),yX⟩) rfl
    ·refine Take.H8 (v:= .slice bv (ac).length bw) (off:=0) 3 bd rfl rfl rfl rfl rfl Cc (by simp [Value.cells,B3]) rfl (Nat.le_of_ble_eq_true rfl) λy1=>JG.one (i:=5) rfl (by decide+kernel) (Take.Co (pp:=rI) [iV 1,iV 1,iV 1,iV 1] ([1,1,1,1]:List Int) y1 rfl rfl rfl Tryz.underlying22 Ay Bx (by decide) rfl rfl rfl ⟨rfl,rfl,rfl,rfl,trivial⟩ λy2 adc y3 y4=>?_);exact Cs 5 y3 y4 rfl λy5 iJ y6 y7=>Cu (bo _ _ ⟨y5,bv,bw,(some ⟨y2,0,none⟩),4,rfl,rfl,iJ,y7,(dx.Ag iJ),y6⟩) rfl
   ·refine Take.Co (pp:=rI) [iV 1,iV 1,iV 1,iV 1] ([1,1,1,1]:List Int) bd rfl rfl rfl Tryz.underlying22 Ay Bx (by decide) rfl rfl rfl ⟨rfl,rfl,rfl,rfl,trivial⟩ λiK ade y8 y9=>Cs 5 y8 y9 rfl λiL eE iM fK=>DJ (i:=1) (j:=7) rfl (by decide+kernel) ?_ ?_
    ·refine Take.y0 (v:= .slice Y (O.1).length Z) rfl rfl rfl (λρ h=>Yl.load CJ (h _ _ rfl) (BC (j:=4) fK rfl rfl)) (JG.one (i:=7) rfl (by decide+kernel) ?_);exact Take.H8 (v:= .slice bv (ac).length bw) (off:=0) 3 fK rfl rfl rfl rfl rfl Cc (by simp [Value.cells,B3]) rfl (Nat.le_of_ble_eq_true rfl) λza=>Cu (bo _ _ ⟨iL,bv,bw,(some ⟨iK,0,none⟩),4,rfl,rfl,eE,za,(dx.Ag eE),iM⟩) rfl
    ·refine Take.H8 (v:= .slice bv (ac).length bw) (off:=0) 3 fK rfl rfl rfl rfl rfl Cc (by simp [Value.cells,B3]) rfl (Nat.le_of_ble_eq_true rfl) λiN=>JG.one (i:=1) rfl (by decide+kernel) (Take.y0 (v:= .slice Y (O.1).length Z) rfl rfl rfl (λρ h=>Yl.load CJ (h _ _ rfl) (BC (j:=4) iN rfl rfl)) ?_);exact Cu (bo _ _ ⟨iL,bv,bw,(some ⟨iK,0,none⟩),4,rfl,rfl,eE,iN,(dx.Ag eE),iM⟩) rfl
   ·refine Take.H8 (v:= .slice bv (ac).length bw) (off:=0) 3 bd rfl rfl rfl rfl rfl Cc (by simp [Value.cells,B3]) rfl (Nat.le_of_ble_eq_true rfl) λfL=>DJ (i:=1) (j:=5) rfl (by decide+kernel) ?_ ?_
    ·refine Take.y0 (v:= .slice Y (O.1).length Z) rfl rfl rfl (λρ h=>Yl.load CJ (h _ _ rfl) (BC (j:=4) fL rfl rfl)) (JG.one (i:=5) rfl (by decide+kernel) ?_);exact Take.Co (pp:=rI) [iV 1,iV 1,iV 1,iV 1] ([1,1,1,1]:List Int) fL rfl rfl rfl Tryz.underlying22 Ay Bx (by decide) rfl rfl rfl ⟨rfl,rfl,rfl,rfl,trivial⟩ λzb adf zc zd=>Cs 5 zc zd rfl λze iO zf zh=>Cu (bo _ _ ⟨ze,bv,bw,(some ⟨zb,0,none⟩),4,rfl,rfl,iO,zh,(dx.Ag iO),zf⟩) rfl
    ·refine Take.Co (pp:=rI) [iV 1,iV 1,iV 1,iV 1] ([1,1,1,1]:List Int) fL rfl rfl rfl Tryz.underlying22 Ay Bx (by decide) rfl rfl rfl ⟨rfl,rfl,rfl,rfl,trivial⟩ λzi adg zj zk=>Cs 5 zj zk rfl λzl iP zn iQ=>JG.one (i:=1) rfl (by decide+kernel) (Take.y0 (v:= .slice Y (O.1).length Z) rfl rfl rfl (λρ h=>Yl.load CJ (h _ _ rfl) (BC (j:=4) iQ rfl rfl)) ?_);exact Cu (bo _ _ ⟨zl,bv,bw,(some ⟨zi,0,none⟩),4,rfl,rfl,iP,iQ,(dx.Ag iP),zn⟩) rfl
  ·refine Take.Co (pp:=rI) [iV 1,iV 1,iV 1,iV 1] ([1,1,1,1]:List Int) bd rfl rfl rfl Tryz.underlying22 Ay Bx (by decide) rfl rfl rfl ⟨rfl,rfl,rfl,rfl,trivial⟩ λfM adh zo zp=>Cs 5 zo zp rfl λfN dU fO de=>DJ (i:=1) (j:=3) rfl (by decide+kernel) ?_ ?_
   ·refine Take.y0 (v:= .slice Y (O.1).length Z) rfl rfl rfl (λρ h=>Yl.load CJ (h _ _ rfl) (BC (j:=4) de rfl rfl)) (JG.one (i:=3) rfl (by decide+kernel) ?_);refine Take.y0 (v:= .slice cz (ag.1).length cA) rfl rfl rfl (λρ h=>Yl.load CJ (h _ _ rfl) (BC (j:=3) de rfl rfl)) ?_;obtain⟨fP,fQ,zq,zr⟩:=Al.cut (dy.Ag dU) dz;refine JG.val (v:= .slice fP (ac).length fQ) 4 rfl K (by decide+kernel) rfl rfl rfl (λρ h s' dd=>zr Tryz.underlying25 De (h _ _ rfl) (h _ _ rfl) rfl) (JG.fd 6 K Tryz.underlying28 Cc rfl rfl rfl rfl ?_);refine JG.one (i:=7) rfl (by decide+kernel) (Take.H8 (v:= .slice fP (ac).length fQ) (off:=0) 3 de rfl rfl rfl rfl rfl Cc (by simp [Value.cells,B3]) rfl (Nat.le_of_ble_eq_true rfl) λzs=>?_);exact Cu (bo _ _ ⟨fN,fP,fQ,(some ⟨fM,0,none⟩),4,rfl,rfl,dU,zs,zq,fO⟩) rfl
   ·refine Take.y0 (v:= .slice cz (ag.1).length cA) rfl rfl rfl (λρ h=>Yl.load CJ (h _ _ rfl) (BC (j:=3) de rfl rfl)) ?_;obtain⟨dV,dW,iR,zt⟩:=Al.cut (dy.Ag dU) dz;refine JG.val (v:= .slice dV (ac).length dW) 4 rfl K (by decide+kernel) rfl rfl rfl (λρ h s' dd=>zt Tryz.underlying25 De (h _ _ rfl) (h _ _ rfl) rfl) (JG.fd 6 K Tryz.underlying28 Cc rfl rfl rfl rfl ?_);refine DJ (i:=1) (j:=7) rfl (by decide+kernel) ?_ ?_
    ·refine Take.y0 (v:= .slice Y (O.1).length Z) rfl rfl rfl (λρ h=>Yl.load CJ (h _ _ rfl) (BC (j:=4) de rfl rfl)) (JG.one (i:=7) rfl (by decide+kernel) ?_);exact Take.H8 (v:= .slice dV (ac).length dW) (off:=0) 3 de rfl rfl rfl rfl rfl Cc (by simp [Value.cells,B3]) rfl (Nat.le_of_ble_eq_true rfl) λzu=>Cu (bo _ _ ⟨fN,dV,dW,(some ⟨fM,0,none⟩),4,rfl,rfl,dU,zu,iR,fO⟩) rfl
    ·refine Take.H8 (v:= .slice dV (ac).length dW) (off:=0) 3 de rfl rfl rfl rfl rfl Cc (by simp [Value.cells,B3]) rfl (Nat.le_of_ble_eq_true rfl) λiS=>JG.one (i:=1) rfl (by decide+kernel) (Take.y0 (v:= .slice Y (O.1).length Z) rfl rfl rfl (λρ h=>Yl.load CJ (h _ _ rfl) (BC (j:=4) iS rfl rfl)) ?_);exact Cu (bo _ _ ⟨fN,dV,dW,(some ⟨fM,0,none⟩),4,rfl,rfl,dU,iS,iR,fO⟩) rfl
end Pal
namespace Pal
def SS:OW:=([[1,2,3],[],[3],[1]],[(0,1,5),(1,2,5),(2,3,2),(0,3,1),(3,1,1)])
def SU:OW:=([[],[],[3],[1]],[(0,1,5),(1,2,5),(2,3,2),(0,3,1),(3,1,1),(1,0,7)])
theorem T1{o:OW}(h:NV 40 o)(K:f47 101 o=some 0):VO o:=by
 obtain⟨r,k1,O⟩:=Tu (F:=101) (by omega) h;rw [K] at k1;exact O.1 (Option.some.inj k1).symm
theorem bG:VO SS:=T1 ⟨by decide,by decide,by decide⟩ (by decide+kernel)
theorem bI:VO SU:=T1 ⟨by decide,by decide,by decide⟩ (by decide+kernel)
theorem YC(O:f18 4001=some true):NM 4001=some true:=by
 have K:EA 4001=some SS:=by decide+kernel
 refine KH ?_;unfold NM;refine Df K (Df K ?_);refine Df (b:= [[1,2,3]]) (by decide+kernel) (Df (b:= [1,2,3]) (by decide+kernel) ?_);refine Df O (Df (b:=false) (by decide+kernel) ?_);refine Df (b:=false) (by decide+kernel) (Df (b:=(false,[[1,1,1,1],[],[3],[1]])) (by decide+kernel) ?_);refine Df (b:=false) (by decide+kernel) (Df (b:=false) (by decide+kernel) ?_);refine Df (b:=false) (by decide+kernel) (Js (by simp) ?_);refine Df K (Df (Ty (by omega) bG) ?_);refine Df (b:=SU) (by decide+kernel) (Df (Ty (by omega) bI) ?_);exact Cx.of_eq (a:=true) (by decide+kernel) V
end Pal
