/-
  What functions compute.
  Conditions: none.
-/
import Derived.Test.YtkidnhldibjiaaaGreatDoorWM
import Derived.Test.YtkidnhldibjiaaaGreatDoorPlain
import Derived.Test.YtkidnhldibjiaaaGreatDoorEngZ
set_option linter.unusedSimpArgs false
set_option linter.unusedVariables false
set_option maxRecDepth 10000
namespace Go.W
open Go Go.Eng Go.Proofs Go.L41 Go.Br
attribute [local irreducible] AWP RWP TD fL
theorem zCv:bM Tryz.prog 63 5=some (9,44):=by kernel_rfl
theorem fd120_0:bM Tryz.prog 120 0=some (0,27):=by kernel_rfl
theorem ok66:bA Tryz.prog 66=true:=by kernel_rfl
theorem ok68:bA Tryz.prog 68=true:=by kernel_rfl
theorem ok69:bA Tryz.prog 69=true:=by kernel_rfl
theorem ok70:bA Tryz.prog 70=true:=by kernel_rfl
theorem ok88:bA Tryz.prog 88=true:=by kernel_rfl
theorem ok89:bA Tryz.prog 89=true:=by kernel_rfl
theorem ok142:bA Tryz.prog 142=true:=by kernel_rfl
theorem ok143:bA Tryz.prog 143=true:=by kernel_rfl
theorem pl120:fR Tryz.prog 120=some [(0,5),(5,1)]:=by kernel_rfl
theorem sz25:(Tryz.prog.info? 25).map (·.size)=some 1:=by kernel_rfl
theorem sz27:(Tryz.prog.info? 27).map (·.size)=some 5:=by kernel_rfl
theorem sz63:(Tryz.prog.info? 63).map (·.size)=some 22:=by kernel_rfl
theorem sz101:(Tryz.prog.info? 101).map (·.size)=some 3:=by kernel_rfl
theorem zr27:fD Tryz.prog 27=some [(Value.slice none 0 0),(Value.slice none 0 0),(Value.slice none 0 0),(Value.slice none 0 0),(Value.slice none 0 0)]:=by kernel_rfl
theorem zr63:fD Tryz.prog 63=some [(Value.string (ByteArray.mk #[])),(Value.int IntKind.i64 0),(Value.int IntKind.i64 0),(Value.int IntKind.i64 0),(Value.int IntKind.i64 0),(Value.int IntKind.i64 0),(Value.slice none 0 0),(Value.slice none 0 0),(Value.int IntKind.i64 0),(Value.int IntKind.i64 0),(Value.string (ByteArray.mk #[])),(Value.int IntKind.i64 0),(Value.int IntKind.i64 0),(Value.int IntKind.i64 0),(Value.int IntKind.i64 0),(Value.int IntKind.i64 0),(Value.int IntKind.i64 0),(Value.int IntKind.i64 0),(Value.int IntKind.i64 0),(Value.slice none 0 0),(Value.slice none 0 0),(Value.slice none 0 0)]:=by kernel_rfl
theorem zr101:fD Tryz.prog 101=some [(Value.int IntKind.i64 0),(Value.slice none 0 0),(Value.bool false)]:=by kernel_rfl
theorem zr120:fD Tryz.prog 120=some [(Value.slice none 0 0),(Value.slice none 0 0),(Value.slice none 0 0),(Value.slice none 0 0),(Value.slice none 0 0),(Value.map none)]:=by kernel_rfl
theorem checker_def (b mb:Nat) (p:Pg) (m:Kn) (hP:p.Ok) (k:Nat) (d:Df) (hd:p.Defs[k]? =some d):
    Con cfg 70 [vP b,vI k] (ckE b mb p m) fun r μ'=>r=vI (mX m ⟨p.Sizes,p.Params,p.Defs.take k⟩ d)/\μ'=ckE b mb p (gD m d.Name 2):=by
 refine zW Tryz.func70 O Tryz.ntmps70 Tryz.results70 O ?_
 intro z hz
 obtain ⟨hD,hR,hA,hA2,hB⟩:=hP.ds d (zX hd)
 have hlen:=zNl hd
 have hpd:=hP.defs
 refine Y O<|G O<|W<|Y O<|G O<|qA O (kC O O)<|zF O fd120_0<|zF O kV<|zK zAq (J 0 O) O<|G O<|qJ O el25 (by omega) (getm (by assumption))<|zP zAi qE O<|zY O O (qF [none,none,none,none,none,none,some 3,some 3,none,none,none,none,none,none,none,none,none,none,none,some 2,some 4,some 13] O zr63 O) ?_
 rintro _ _ ⟨b1,rfl,rfl⟩
 refine rStR 0 sz63 O<|W<|zM<|Y O<|G O<|zF O zOe<|zK one9 (J 0 O) O<|qA O (kF [1,1] O ok67 (zId b mb p m d.Name 2) ⟨U,O,U,O,U,O,T⟩ O)<|G O<|W<|Y O<|G O<|yW O<|W<|zH O (fun c1=>?_) (fun c1=>?_)
 ·try simp only [sx] at c1
  refine Y O<|G O<|G O<|W<|qC _ (Weak.mem [false,true,true] O)<|zO<|zV O ?_
  exact ⟨by rw [def_1 c1],O⟩
 ·try simp only [sx] at c1
  refine zN<|zM<|Y O<|zF O zLr<|zP yO (J 0 O) O<|zF O zAt<|zK kY (J 0 O) O<|qB O N<|zF O kU<|zK kY (J 0 O) O<|qB O N<|yV O el214 zr3<|qQ O ok141 (zHd d.T [(d.Dims.length:Int),(d.Red.length:Int)] _ O (by simp)) ⟨U,O,U,O,T⟩<|G O<|W<|Y O<|G O<|yW O<|W<|zH O (fun c2=>?_) (fun c2=>?_)
  ·try simp only [sx] at c2
   refine Y O<|G O<|G O<|W<|qC _ (Weak.mem [false,true,true] O)<|zO<|zV O ?_
   exact ⟨by rw [def_2 c1 c2],O⟩
  ·try simp only [sx] at c2
   have hX:=def_ok (n:=⟨p.Sizes,p.Params,p.Defs.take k⟩) c1 c2
   refine zN<|zM<|Y O<|G O<|zP zAi (J 0 O) O<|qA O (kF [1,1] O ok142 (checker_axes b mb p (gD m d.Name 2) d hD hR hA hA2) ⟨U,O,U,O,T⟩ O)<|G O<|W<|Y O<|G O<|yW O<|W<|zH O (fun c3=>?_) (fun c3=>?_)
   ·try simp only [sx] at c3
    refine Y O<|G O<|G O<|W<|qC _ (Weak.mem [false,true,true] O)<|zO<|zV O ?_
    exact ⟨by rw [hX,if_neg c3],O⟩
   ·try simp only [sx] at c3
    rw [if_pos c3] at hX
    refine zN<|zM<|Y O<|zP zAi (J 0 O) O<|qQ O ok143 (program_fold d) ⟨U,O,T⟩<|G O<|W<|Y O<|G O<|yW O<|W<|zH O (fun c4=>?_) (fun c4=>?_)
    ·try simp only [sx] at c4
     refine Y O<|G O<|G O<|W<|qC _ (Weak.mem [false,true,true] O)<|zO<|zV O ?_
     exact ⟨by rw [hX,if_neg c4],O⟩
    ·try simp only [sx] at c4
     rw [if_pos c4] at hX
     unfold mJ at hX
     refine zN<|Y O<|G O<|qA O (kC O O)<|zF O fd120_0<|zP wY (J 1 O) O<|zY O O (qF [some 1,some 3,some 7,some 22,some 1] O zr27 O) ?_
     rintro _ _ ⟨b2,rfl,rfl⟩
     refine rStR 0 sz27 O<|W<|Y O<|G O<|qA O (kC O O)<|zF O fd120_0<|zF O kV<|zK zAq (J 2 O) O<|G O<|qA O (zDt O el25 O O (by omega))<|zF O kV<|rStR 0 sz25 O<|W<|zM<|awp_draw_p 10 [.q,.q,.q,.q,.q,.q,.q,.q,.u,.f]  mixed (by kernel_rfl) O O O<|yS O O (zU O wY O (J 0 O) O)<|yS O O (zU O zAi O (J 1 O) O)<|yS O O (qL O ok89 (OwnR.pur (zLd d hD hR)) ⟨U,O,T⟩)<|yS O O (zE O zCv O)<|yS O O (zU O yG O (J 1 O) O)<|yS O O (qL O ok88 (program_TypeOf (⟨p.Sizes,p.Where,p.Params,p.Defs.take k,p.Outs⟩:Pg) (bQ d) d.Body (hP.take k) (by rw [bQ,List.length_append,List.length_map,List.length_map];omega) hB) ⟨U,O,U,O,U,O,T⟩)<|yS O O (kL O O)<|yS O O (yA O O O)<|zDy O O (wW O O O)<|zGo<|zJo<|wN<|wN<|wN<|wN<|wN<|wN<|wN<|wN<|zKw<|zEm (wH (yJ O zr37))<|zJp<|zDh ?_
     rintro _ _ ⟨b3,rfl,rfl⟩
     refine zEy ?_
     refine ⟨_,kN O sz37 O O O (zCu 0 O O),(by rintro _ _ ⟨rfl,rfl⟩;exact ⟨[_],rfl⟩),?_⟩
     rintro _ _ ⟨rfl,rfl⟩
     refine G O<|W<|zM<|Y O<|G O<|yW O<|W<|zH O (fun c5=>?_) (fun c5=>?_)
     ·try simp only [sx] at c5
      refine Y O<|G O<|G O<|W<|qC _ (Weak.mem [false,false,false,true,true] O)<|zO<|zV O ?_
      exact ⟨by rw [hX,if_neg (show ¬(fM ⟨p.Sizes,p.Params,p.Defs.take k⟩ (bQ d) d.Body).2=0 from c5)];rfl,O⟩
     ·try simp only [sx] at c5
      rw [if_pos (show (fM ⟨p.Sizes,p.Params,p.Defs.take k⟩ (bQ d) d.Body).2=0 from c5)] at hX
      refine zN<|zM<|Y O<|zP yO (J 0 O) O<|zF O zLr<|zP yO (J 2 O) O<|qA O (zBg O fl37 O O O)<|W<|zH O (fun c6=>?_) (fun c6=>?_)
      ·refine Y O<|G O<|W<|qC _ (Weak.mem [false,false,false,true,true] O)<|zO<|zV O ?_
       exact ⟨by rw [hX,if_neg (show ¬(fM (⟨p.Sizes,p.Params,p.Defs.take k⟩:En) (bQ d) d.Body).1=d.T from zKr c6)],O⟩
      ·refine zN<|Y O<|G O<|W<|qC _ (Weak.mem [false,false,false,true,true] O)<|zO<|zV O ?_
       exact ⟨by rw [hX,if_pos (show (fM (⟨p.Sizes,p.Params,p.Defs.take k⟩:En) (bQ d) d.Body).1=d.T from zIi c6)],O⟩
theorem zOr (p:Pg) (hP:p.Ok):
    Pur cfg 30 [vPg p] (.tup [vI (dR p).1,vI (dR p).2]):=by
 refine zW Tryz.func30 O Tryz.ntmps30 Tryz.results30 O ?_
 intro z hz
 have hps:=hP.sizes
 have hpw:=hP.wh
 have hpp:=hP.params
 have hpd:=hP.defs
 have hpo:=hP.outs
 refine Y O<|zY O O (qN O O) ?_
 rintro _ _ ⟨b1,rfl,rfl⟩
 refine G O<|G O<|W<|zM<|Y O<|zP wY (J 0 O) O<|qQ O ok66 (program_limits p) ⟨U,O,T⟩<|wE O<|W<|zH O (fun c1=>?_) (fun c1=>?_)
 ·have hl:¬dG p:=by simpa using c1
  refine Y O<|G O<|G O<|W<|zO<|fin2 (rs_c O) (rs_c O) ?_
  rw [validM_2 hl]
 ·have hl:dG p:=by simpa using c1
  have ho64:p.Outs.length<=64:=hl.2.2.2.1
  refine zN<|Y O<|zP wY (J 0 O) O<|zY O O (zQz vI O O) ?_
  rintro _ _ ⟨b2,rfl,rfl⟩
  refine yN O zr120 pl120<|zY O O (qN O O) ?_
  rintro _ _ ⟨b3,rfl,rfl⟩
  refine G O<|W<|zM<|Y O<|zF O zCl<|zK zBn (J 2 O) O<|qB O el22<|G O<|W<|zR<|qC ⟨[(29,.c _),(1,.c _),(4,.c _),(27,.c _),(28,.c _)],[_,_,_]⟩ (Weak.mk [true,true,true] ⟨U,U,U,U,U,T⟩ O)<|qG 1 2 O O (Nat) (fun k=>[(29,vI k)]) (fun k=>[pM 120 b3 b2 p,E.blk b2 (MapR vI (gK [] (p.Sizes.take k) 1))]) (fun k=>k<=p.Sizes.length/\(gC [] p.Sizes=gC (gK [] (p.Sizes.take k) 1) (p.Sizes.drop k))) (fun k=>p.Sizes.length-k) ⟨0,⟨by omega,O⟩,Weak.mk [true,true,true] ⟨U,U,U,U,U,T⟩ O⟩ ?_
  rintro k ⟨hk,hp⟩
  refine Y O<|yI O<|W<|zM<|zH O (fun c2=>?_) (fun c2=>?_)
  ·try simp only [sx] at c2
   obtain ⟨x,hx⟩:=qU p.Sizes k (by omega)
   refine zN<|zM<|zR<|Y O<|qJ O el22 (by omega) (getm (by assumption))<|zK one9 qE O<|G O<|W<|Y O<|G O<|G O<|qA O (kF [0,0] O ok67 (zId b3 b2 p (gK [] (p.Sizes.take k) 1) x 1) ⟨U,O,U,O,U,O,T⟩ O)<|G O<|W<|Y O<|G O<|yW O<|W<|zH O (fun c3=>?_) (fun c3=>?_)
   ·try simp only [sx] at c3
    refine Y O<|G O<|G O<|G O<|W<|zO<|fin2 (rs_c O) (rs_c O) ?_
    rw [validM_s hl (by rw [hp,sizesM_no hx c3];exact c3),hp,sizesM_no hx c3]
   ·try simp only [sx] at c3
    rw [zNg c3]
    refine zN<|zT O<|qK O ⟨by omega,by omega⟩<|G O<|W ?_
    refine ⟨k+1,⟨by omega,by rw [hp,sizesM_next hx c3,zKx hx]⟩,(by omega),Weak.mk [true,true,true] ⟨U,U,U,U,U,T⟩ (by show _=[pM 120 b3 b2 p,E.blk b2 (MapR vI (gK [] (p.Sizes.take (k+1)) 1))]++_;rw [zKx hx];rfl)⟩
  ·try simp only [sx] at c2
   rw [qY (l:=p.Sizes) (k:=k) (by omega)]
   rw [wV (l:=p.Sizes) (k:=k) (by omega)] at hp
   have hs0:gC [] p.Sizes=0:=hp
   refine qO<|zM<|Y O<|zF O zBu<|zK zHj (J 2 O) O<|qB O el23<|G O<|W<|zR<|qC ⟨[(43,.c _),(1,.c _),(4,.c _),(41,.c _),(42,.c _)],[_,_,_]⟩ (Weak.mk [true,true,true] ⟨U,U,U,U,U,T⟩ O)<|qG 1 0 O O (Nat) (fun k=>[(43,vI k)]) (fun k=>[]) (fun k=>k<=p.Where.length/\(jC (gK [] p.Sizes 1) p.Where=jC (gK [] p.Sizes 1) (p.Where.drop k))) (fun k=>p.Where.length-k) ⟨0,⟨by omega,O⟩,Weak.mk [true,true,true] ⟨U,U,U,U,U,T⟩ O⟩ ?_
   rintro k ⟨hk,hp⟩
   refine Y O<|yI O<|W<|zM<|zH O (fun c4=>?_) (fun c4=>?_)
   ·try simp only [sx] at c4
    obtain ⟨x,hx⟩:=qU p.Where k (by omega)
    refine zN<|zM<|zR<|Y O<|qJ O el23 (by omega) (getm (by assumption))<|zP zTe qE O<|zY O O (qF [none,some 2,none] O zr101 O) ?_
    rintro _ _ ⟨b4,rfl,rfl⟩
    refine rStR 0 sz101 O<|W<|Y O<|G O<|zP zTe (J 0 O) O<|qA O (kF [1,1] O ok68 (zLx b3 b2 p (gK [] p.Sizes 1) x (hP.whs x (zX hx))) ⟨U,O,U,O,T⟩ O)<|G O<|W<|Y O<|G O<|yW O<|W<|zH O (fun c5=>?_) (fun c5=>?_)
    ·try simp only [sx] at c5
     refine Y O<|G O<|G O<|G O<|W<|zO<|fin2 (rs_c O) (rs_c O) ?_
     rw [validM_w hl hs0 (by rw [hp,whereM_no hx c5];exact c5),hp,whereM_no hx c5]
    ·try simp only [sx] at c5
     refine zN<|zT O<|qK O ⟨by omega,by omega⟩<|G O<|W ?_
     refine ⟨k+1,⟨by omega,hp.trans (whereM_next hx c5)⟩,(by omega),Weak.mk [false,true,true,true] ⟨U,U,U,U,U,T⟩ O⟩
   ·try simp only [sx] at c4
    rw [wV (l:=p.Where) (k:=k) (by omega)] at hp
    have hw0:jC (gK [] p.Sizes 1) p.Where=0:=hp
    have hV:=validM_p hl hs0 hw0
    refine qO<|Y O<|G O<|W<|zM<|Y O<|zF O wM<|zK zBm (J 2 O) O<|qB O el24<|G O<|W<|zR<|qC ⟨[(57,.c _),(11,.c _),(1,.c _),(4,.c _),(55,.c _),(56,.c _)],[_,_,_]⟩ (Weak.mk [true,true,true] ⟨U,U,U,U,U,U,T⟩ O)<|qG 2 2 O O (Nat) (fun k=>[(57,vI k),(11,vI (2+(k:Int)))]) (fun k=>[pM 120 b3 b2 p,E.blk b2 (MapR vI (pL (gK [] p.Sizes 1) (p.Params.take k)))]) (fun k=>k<=p.Params.length/\(dR p=gZ p (2+(k:Int)) (pL (gK [] p.Sizes 1) (p.Params.take k)) (p.Params.drop k))) (fun k=>p.Params.length-k) ⟨0,⟨by omega,hV⟩,Weak.mk [true,true,true] ⟨U,VLe.of_eq (O),U,U,U,U,T⟩ O⟩ ?_
    rintro k ⟨hk,hp⟩
    refine Y O<|yI O<|W<|zM<|zH O (fun c6=>?_) (fun c6=>?_)
    ·try simp only [sx] at c6
     obtain ⟨x,hx⟩:=qU p.Params k (by omega)
     refine zN<|zM<|zR<|Y O<|qJ O el24 (by omega) (getm (by assumption))<|zP agg67 qE O<|zY O O (qF [none,none,none,none,none,none,some 2] O zr67 O) ?_
     rintro _ _ ⟨b5,rfl,rfl⟩
     refine rStR 0 sz67 O<|W<|zM<|Y O<|G O<|zP agg67 (J 0 O) O<|qA O (kF [1,1] O ok69 (checker_param b3 b2 p (pL (gK [] p.Sizes 1) (p.Params.take k)) x (hP.ps x (zX hx)).1 (hP.ps x (zX hx)).2) ⟨U,O,U,O,T⟩ O)<|G O<|W<|Y O<|G O<|yW O<|W<|zH O (fun c7=>?_) (fun c7=>?_)
     ·try simp only [sx] at c7
      refine Y O<|G O<|G O<|G O<|G O<|W<|zO<|fin2 (rs_c O) (rs_c O) ?_
      rw [hp,paramsM_no hx c7]
     ·try simp only [sx] at c7
      rw [param_map c7]
      refine zN<|zT O<|G O<|qK O ⟨by omega,by omega⟩<|G O<|W<|zT O<|qK O ⟨by omega,by omega⟩<|G O<|W ?_
      refine ⟨k+1,⟨by omega,by rw [hp,paramsM_next hx c7,tabP_next hx];congr 1<;>first|omega|rfl⟩,(by omega),Weak.mk [false,true,true,true] ⟨U,VLe.of_eq (congrArg vI (by omega)),U,U,U,U,T⟩ (by show _=[pM 120 b3 b2 p,E.blk b2 (MapR vI (pL (gK [] p.Sizes 1) (p.Params.take (k+1))))]++_;rw [tabP_next hx];rfl)⟩
    ·try simp only [sx] at c6
     rw [qY (l:=p.Params) (k:=k) (by omega)]
     rw [wV (l:=p.Params) (k:=k) (by omega),qY (l:=p.Params) (k:=k) (by omega),gZ] at hp
     refine qO<|zM<|Y O<|zF O kV<|zK zAq (J 2 O) O<|qB O el25<|G O<|W<|zR<|qC ⟨[(74,.c _),(11,.c _),(1,.c _),(4,.c _),(73,.c _)],[_,_,_]⟩ (Weak.mk [true,true,true] ⟨U,U,U,U,U,T⟩ O) ?_
     refine qG 2 2 O O (Nat) (fun k=>[(74,vI k),(11,vI (2+(p.Params.length:Int)+(k:Int)))]) (fun k=>[pM 120 b3 b2 p,E.blk b2 (MapR vI (sF (pL (gK [] p.Sizes 1) p.Params) (p.Defs.take k)))]) (fun k=>k<=p.Defs.length/\(dR p=mU p (2+(p.Params.length:Int)+(k:Int)) (sF (pL (gK [] p.Sizes 1) p.Params) (p.Defs.take k)) (p.Defs.take k) (p.Defs.drop k))) (fun k=>p.Defs.length-k) ⟨0,⟨by omega,by rw [hp];congr 1<;>first|omega|rfl⟩,Weak.mk [true,true,true] ⟨U,VLe.of_eq (congrArg vI (by omega)),U,U,U,T⟩ O⟩ ?_
     rintro k ⟨hk,hq⟩
     refine Y O<|yI O<|W<|zM<|zH O (fun c8=>?_) (fun c8=>?_)
     ·try simp only [sx] at c8
      obtain ⟨x,hx⟩:=qU p.Defs k (by omega)
      refine zN<|zM<|zR<|Y O<|G O<|G O<|W<|zM<|Y O<|G O<|G O<|qA O (kF [0,0] O ok70 (checker_def b3 b2 p (sF (pL (gK [] p.Sizes 1) p.Params) (p.Defs.take k)) hP k x hx) ⟨U,O,U,O,T⟩ O)<|G O<|W<|Y O<|G O<|yW O<|W<|zH O (fun c9=>?_) (fun c9=>?_)
      ·try simp only [sx] at c9
       refine Y O<|G O<|G O<|G O<|G O<|W<|zO<|fin2 (rs_c O) (rs_c O) ?_
       rw [hq,defsM_no hx c9]
      ·try simp only [sx] at c9
       rw [def_map c9]
       refine zN<|zT O<|G O<|qK O ⟨by omega,by omega⟩<|G O<|W<|zT O<|qK O ⟨by omega,by omega⟩<|G O<|W ?_
       refine ⟨k+1,⟨by omega,by rw [hq,defsM_next hx c9,tabD_next hx];congr 1<;>first|omega|rfl⟩,(by omega),Weak.mk [true,true,true] ⟨U,VLe.of_eq (congrArg vI (by omega)),U,U,U,T⟩ (by show _=[pM 120 b3 b2 p,E.blk b2 (MapR vI (sF (pL (gK [] p.Sizes 1) p.Params) (p.Defs.take (k+1))))]++_;rw [tabD_next hx];rfl)⟩
     ·try simp only [sx] at c8
      rw [qY (l:=p.Defs) (k:=k) (by omega)]
      rw [wV (l:=p.Defs) (k:=k) (by omega),qY (l:=p.Defs) (k:=k) (by omega),mU] at hq
      refine qO<|zM<|Y O<|zF O zFh<|zK zBn (J 2 O) O<|qB O el22<|G O<|W<|zR<|qC ⟨[(90,.c _),(11,.c _),(1,.c _),(4,.c _),(88,.c _),(89,.c _)],[_,_,_]⟩ (Weak.mk [true,true,true] ⟨U,U,U,U,U,U,T⟩ O) ?_
      refine qG 2 0 O O (Nat) (fun k=>[(90,vI k),(11,vI (2+(p.Params.length:Int)+(p.Defs.length:Int)+(k:Int)))]) (fun k=>[]) (fun k=>k<=p.Outs.length/\(dR p=mT (sF (pL (gK [] p.Sizes 1) p.Params) p.Defs) (2+(p.Params.length:Int)+(p.Defs.length:Int)+(k:Int)) (p.Outs.take k) (p.Outs.drop k))) (fun k=>p.Outs.length-k) ⟨0,⟨by omega,by rw [hq];congr 1<;>first|omega|rfl⟩,Weak.mk [true,true,true] ⟨U,VLe.of_eq (congrArg vI (by omega)),U,U,U,U,T⟩ O⟩ ?_
      rintro k ⟨hk,ho⟩
      refine Y O<|yI O<|W<|zM<|zH O (fun c10=>?_) (fun c10=>?_)
      ·try simp only [sx] at c10
       obtain ⟨x,hx⟩:=qU p.Outs k (by omega)
       refine zN<|zM<|zR<|Y O<|G O<|qJ O el22 (by omega) (getm (by assumption))<|zK one9 qE O<|G O<|G O<|W<|zM<|zR<|Y O<|G O<|qA O (kC O O)<|zF O zSa<|zK zNx (J 0 O) O<|G O<|qA O (zEl 1 (0:Int) O sm118 O O O (fun _ _=>CRep.lit _ O))<|yW O<|G O<|W<|zH O (fun c11=>?_) (fun c11=>?_)
       ·try simp only [sx] at c11
        refine Y O<|G O<|G O<|G O<|W<|zO<|fin2 (rs_c O) (rs_c O) ?_
        rw [ho,outsM_9 hx c11]
       ·try simp only [sx] at c11
        refine Y O<|zF O zFh<|zK zBn (J 2 O) O<|G O<|qA O (zDt O el22 O O (by omega))<|G O<|qQ O ok52 (zEo (p.Outs.take k) x (by rw [List.length_take];omega)) ⟨U,O,U,O,T⟩<|G O<|W<|zH O (fun c12=>?_) (fun c12=>?_)
        ·try simp only [sx] at c12
         refine Y O<|G O<|G O<|G O<|W<|zO<|fin2 (rs_c O) (rs_c O) ?_
         rw [ho,outsM_8 hx c11 c12]
        ·try simp only [sx] at c12
         refine zN<|zT O<|G O<|qK O ⟨by omega,by omega⟩<|G O<|W<|zT O<|qK O ⟨by omega,by omega⟩<|G O<|W ?_
         refine ⟨k+1,⟨by omega,by rw [ho,outsM_next hx c11 c12];congr 1<;>first|omega|rfl⟩,(by omega),Weak.mk [true,true,true] ⟨U,VLe.of_eq (congrArg vI (by omega)),U,U,U,U,T⟩ O⟩
      ·try simp only [sx] at c10
       refine qO<|Y O<|G O<|G O<|W<|zO<|fin2 (rs_c O) (rs_c O) ?_
       rw [ho,wV (by omega)];rfl
end Go.W
