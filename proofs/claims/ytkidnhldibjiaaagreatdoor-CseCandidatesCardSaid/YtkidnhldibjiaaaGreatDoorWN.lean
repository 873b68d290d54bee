/-
  Walks: what functions of the program compute. Printed by wip/gen/mk2.py.
  Conditions: none.
-/
import Derived.Test.YtkidnhldibjiaaaGreatDoorWM
import Derived.Test.YtkidnhldibjiaaaGreatDoorPlain
import Derived.Test.YtkidnhldibjiaaaGreatDoorEngZ
set_option linter.unusedSimpArgs false
set_option linter.unusedVariables false
set_option maxRecDepth 10000
namespace Go.W
open Go Go.Eng Go.Proofs Go.L41 Go.Br
attribute [local irreducible] AWP RWP TD finQ
theorem zBx:fieldT Tryz.prog 63 5=some (9,44):=by kernel_rfl
theorem fd120_0:fieldT Tryz.prog 120 0=some (0,27):=by kernel_rfl
theorem ok66:callOk Tryz.prog 66=true:=by kernel_rfl
theorem ok68:callOk Tryz.prog 68=true:=by kernel_rfl
theorem ok69:callOk Tryz.prog 69=true:=by kernel_rfl
theorem ok70:callOk Tryz.prog 70=true:=by kernel_rfl
theorem ok88:callOk Tryz.prog 88=true:=by kernel_rfl
theorem ok89:callOk Tryz.prog 89=true:=by kernel_rfl
theorem ok142:callOk Tryz.prog 142=true:=by kernel_rfl
theorem ok143:callOk Tryz.prog 143=true:=by kernel_rfl
theorem pl120:placesT Tryz.prog 120=some [(0,5),(5,1)]:=by kernel_rfl
theorem sz25:(Tryz.prog.info? 25).map (·.size)=some 1:=by kernel_rfl
theorem sz27:(Tryz.prog.info? 27).map (·.size)=some 5:=by kernel_rfl
theorem sz63:(Tryz.prog.info? 63).map (·.size)=some 22:=by kernel_rfl
theorem sz101:(Tryz.prog.info? 101).map (·.size)=some 3:=by kernel_rfl
theorem zr27:zeroT Tryz.prog 27=some [(Value.slice none 0 0),(Value.slice none 0 0),(Value.slice none 0 0),(Value.slice none 0 0),(Value.slice none 0 0)]:=by kernel_rfl
theorem zr63:zeroT Tryz.prog 63=some [(Value.string (ByteArray.mk #[])),(Value.int IntKind.i64 0),(Value.int IntKind.i64 0),(Value.int IntKind.i64 0),(Value.int IntKind.i64 0),(Value.int IntKind.i64 0),(Value.slice none 0 0),(Value.slice none 0 0),(Value.int IntKind.i64 0),(Value.int IntKind.i64 0),(Value.string (ByteArray.mk #[])),(Value.int IntKind.i64 0),(Value.int IntKind.i64 0),(Value.int IntKind.i64 0),(Value.int IntKind.i64 0),(Value.int IntKind.i64 0),(Value.int IntKind.i64 0),(Value.int IntKind.i64 0),(Value.int IntKind.i64 0),(Value.slice none 0 0),(Value.slice none 0 0),(Value.slice none 0 0)]:=by kernel_rfl
theorem zr101:zeroT Tryz.prog 101=some [(Value.int IntKind.i64 0),(Value.slice none 0 0),(Value.bool false)]:=by kernel_rfl
theorem zr120:zeroT Tryz.prog 120=some [(Value.slice none 0 0),(Value.slice none 0 0),(Value.slice none 0 0),(Value.slice none 0 0),(Value.slice none 0 0),(Value.map none)]:=by kernel_rfl
theorem checker_def (b mb:Nat) (p:Pg) (m:Kn) (hP:p.Ok) (k:Nat) (d:Df) (hd:p.Defs[k]? =some d):
    Con cfg 70 [vP b,vI k] (ckE b mb p m) fun r μ'=>r=vI (defM m ⟨p.Sizes,p.Params,p.Defs.take k⟩ d)/\μ'=ckE b mb p (nameMap m d.Name 2):=by
 refine zR Tryz.func70 O Tryz.ntmps70 Tryz.results70 O ?_
 intro z hz
 obtain ⟨hD,hR,hA,hA2,hB⟩:=hP.ds d (zW hd)
 have hlen:=zLc hd
 have hpd:=hP.defs
 refine G O<|Y O<|W<|G O<|Y O<|zX O (yU O O)<|zD O fd120_0<|zD O yZ<|zH wL (J 0 O) O<|Y O<|zZ O el25 (by omega) (getm (by assumption))<|zL wM zY O<|zS O O (qD [none,none,none,none,none,none,some 3,some 3,none,none,none,none,none,none,none,none,none,none,none,some 2,some 4,some 13] O zr63 O) ?_
 rintro _ _ ⟨b1,rfl,rfl⟩
 refine N 0 sz63 O<|W<|zG<|G O<|Y O<|zD O zGf<|zH one9 (J 0 O) O<|zX O (yQ [1,1] O ok67 (zGl b mb p m d.Name 2) ⟨U,O,U,O,U,O,T⟩ O)<|Y O<|W<|G O<|Y O<|yR O<|W<|zE O (fun c1=>?_) (fun c1=>?_)
 ·try simp only [sx] at c1
  refine G O<|Y O<|Y O<|W<|zU _ (Weak.mem [false,true,true] O)<|zJ<|zP O ?_
  exact ⟨by rw [def_1 c1],O⟩
 ·try simp only [sx] at c1
  refine zI<|zG<|G O<|zD O zLx<|zL yD (J 0 O) O<|zD O zAl<|zH kQ (J 0 O) O<|zV O D<|zD O zAc<|zH kQ (J 0 O) O<|zV O D<|qX O el214 zr3<|qK O ok141 (zFj d.T [(d.Dims.length:Int),(d.Red.length:Int)] _ O (by simp)) ⟨U,O,U,O,T⟩<|Y O<|W<|G O<|Y O<|yR O<|W<|zE O (fun c2=>?_) (fun c2=>?_)
  ·try simp only [sx] at c2
   refine G O<|Y O<|Y O<|W<|zU _ (Weak.mem [false,true,true] O)<|zJ<|zP O ?_
   exact ⟨by rw [def_2 c1 c2],O⟩
  ·try simp only [sx] at c2
   have hX:=def_ok (n:=⟨p.Sizes,p.Params,p.Defs.take k⟩) c1 c2
   refine zI<|zG<|G O<|Y O<|zL wM (J 0 O) O<|zX O (yQ [1,1] O ok142 (checker_axes b mb p (nameMap m d.Name 2) d hD hR hA hA2) ⟨U,O,U,O,T⟩ O)<|Y O<|W<|G O<|Y O<|yR O<|W<|zE O (fun c3=>?_) (fun c3=>?_)
   ·try simp only [sx] at c3
    refine G O<|Y O<|Y O<|W<|zU _ (Weak.mem [false,true,true] O)<|zJ<|zP O ?_
    exact ⟨by rw [hX,if_neg c3],O⟩
   ·try simp only [sx] at c3
    rw [if_pos c3] at hX
    refine zI<|zG<|G O<|zL wM (J 0 O) O<|qK O ok143 (program_fold d) ⟨U,O,T⟩<|Y O<|W<|G O<|Y O<|yR O<|W<|zE O (fun c4=>?_) (fun c4=>?_)
    ·try simp only [sx] at c4
     refine G O<|Y O<|Y O<|W<|zU _ (Weak.mem [false,true,true] O)<|zJ<|zP O ?_
     exact ⟨by rw [hX,if_neg c4],O⟩
    ·try simp only [sx] at c4
     rw [if_pos c4] at hX
     unfold tyErrD at hX
     refine zI<|G O<|Y O<|zX O (yU O O)<|zD O fd120_0<|zL wC (J 1 O) O<|zS O O (qD [some 1,some 3,some 7,some 22,some 1] O zr27 O) ?_
     rintro _ _ ⟨b2,rfl,rfl⟩
     refine N 0 sz27 O<|W<|G O<|Y O<|zX O (yU O O)<|zD O fd120_0<|zD O yZ<|zH wL (J 2 O) O<|Y O<|zX O (zAd O el25 O O (by omega))<|zD O yZ<|N 0 sz25 O<|W<|zG<|awp_draw_p 10 [.q,.q,.q,.q,.q,.q,.q,.q,.u,.f]  mixed (by kernel_rfl) O O O<|kK O O (zT O wC O (J 0 O) O)<|kK O O (zT O wM O (J 1 O) O)<|kK O O (qH O ok89 (OwnR.pur (wP d hD hR)) ⟨U,O,T⟩)<|kK O O (zF O zBx O)<|kK O O (zT O qZ O (J 1 O) O)<|kK O O (qH O ok88 (zHl (⟨p.Sizes,p.Where,p.Params,p.Defs.take k,p.Outs⟩:Pg) (namesD d) d.Body (hP.take k) (by rw [namesD,List.length_append,List.length_map,List.length_map];omega) hB) ⟨U,O,U,O,U,O,T⟩)<|kK O O (yE O O)<|kK O O (kA O O O)<|zIt O O (yP O O O)<|zMr<|tdq_nil<|zAy<|zAy<|zAy<|zAy<|zAy<|zAy<|zAy<|zAy<|tdf_u<|zIu (zBo (yB O zr37))<|tdf_nil<|zHe ?_
     rintro _ _ ⟨b3,rfl,rfl⟩
     refine zJw ?_
     refine ⟨_,kU O sz37 O O O (zHi 0 O O),(by rintro _ _ ⟨rfl,rfl⟩;exact ⟨[_],rfl⟩),?_⟩
     rintro _ _ ⟨rfl,rfl⟩
     refine Y O<|W<|zG<|G O<|Y O<|yR O<|W<|zE O (fun c5=>?_) (fun c5=>?_)
     ·try simp only [sx] at c5
      refine G O<|Y O<|Y O<|W<|zU _ (Weak.mem [false,false,false,true,true] O)<|zJ<|zP O ?_
      exact ⟨by rw [hX,if_neg (show ¬(typeT ⟨p.Sizes,p.Params,p.Defs.take k⟩ (namesD d) d.Body).2=0 from c5)];rfl,O⟩
     ·try simp only [sx] at c5
      rw [if_pos (show (typeT ⟨p.Sizes,p.Params,p.Defs.take k⟩ (namesD d) d.Body).2=0 from c5)] at hX
      refine zI<|zG<|G O<|zL yD (J 0 O) O<|zD O zLx<|zL yD (J 2 O) O<|zX O (zBf O fl37 O O O)<|W<|zE O (fun c6=>?_) (fun c6=>?_)
      ·refine G O<|Y O<|W<|zU _ (Weak.mem [false,false,false,true,true] O)<|zJ<|zP O ?_
       exact ⟨by rw [hX,if_neg (show ¬(typeT (⟨p.Sizes,p.Params,p.Defs.take k⟩:En) (namesD d) d.Body).1=d.T from zIr c6)],O⟩
      ·refine zI<|G O<|Y O<|W<|zU _ (Weak.mem [false,false,false,true,true] O)<|zJ<|zP O ?_
       exact ⟨by rw [hX,if_pos (show (typeT (⟨p.Sizes,p.Params,p.Defs.take k⟩:En) (namesD d) d.Body).1=d.T from zGq c6)],O⟩
theorem zCs (p:Pg) (hP:p.Ok):
    Pur cfg 30 [vPg p] (.tup [vI (validM p).1,vI (validM p).2]):=by
 refine zR Tryz.func30 O Tryz.ntmps30 Tryz.results30 O ?_
 intro z hz
 have hps:=hP.sizes
 have hpw:=hP.wh
 have hpp:=hP.params
 have hpd:=hP.defs
 have hpo:=hP.outs
 refine G O<|zS O O (qG O O) ?_
 rintro _ _ ⟨b1,rfl,rfl⟩
 refine Y O<|Y O<|W<|zG<|G O<|zL wC (J 0 O) O<|qK O ok66 (program_limits p) ⟨U,O,T⟩<|wD O<|W<|zE O (fun c1=>?_) (fun c1=>?_)
 ·have hl:¬limitOk p:=by simpa using c1
  refine G O<|Y O<|Y O<|W<|zJ<|fin2 (v O) (v O) ?_
  rw [validM_2 hl]
 ·have hl:limitOk p:=by simpa using c1
  have ho64:p.Outs.length<=64:=hl.2.2.2.1
  refine zI<|G O<|zL wC (J 0 O) O<|zS O O (zJd vI O O) ?_
  rintro _ _ ⟨b2,rfl,rfl⟩
  refine yW O zr120 pl120<|zS O O (qG O O) ?_
  rintro _ _ ⟨b3,rfl,rfl⟩
  refine Y O<|W<|zG<|G O<|zD O zCp<|zH zBq (J 2 O) O<|zV O r<|Y O<|W<|zN<|zU ⟨[(29,.c _),(1,.c _),(4,.c _),(27,.c _),(28,.c _)],[_,_,_]⟩ (Weak.mk [true,true,true] ⟨U,U,U,U,U,T⟩ O)<|qA 1 2 O O (Nat) (fun k=>[(29,vI k)]) (fun k=>[pRow 120 b3 b2 p,E.blk b2 (MapR vI (tabV [] (p.Sizes.take k) 1))]) (fun k=>k<=p.Sizes.length/\(sizesM [] p.Sizes=sizesM (tabV [] (p.Sizes.take k) 1) (p.Sizes.drop k))) (fun k=>p.Sizes.length-k) ⟨0,⟨by omega,O⟩,Weak.mk [true,true,true] ⟨U,U,U,U,U,T⟩ O⟩ ?_
  rintro k ⟨hk,hp⟩
  refine G O<|qW O<|W<|zG<|zE O (fun c2=>?_) (fun c2=>?_)
  ·try simp only [sx] at c2
   obtain ⟨x,hx⟩:=qP p.Sizes k (by omega)
   refine zI<|zG<|zN<|G O<|zZ O r (by omega) (getm (by assumption))<|zH one9 zY O<|Y O<|W<|G O<|Y O<|Y O<|zX O (yQ [0,0] O ok67 (zGl b3 b2 p (tabV [] (p.Sizes.take k) 1) x 1) ⟨U,O,U,O,U,O,T⟩ O)<|Y O<|W<|G O<|Y O<|yR O<|W<|zE O (fun c3=>?_) (fun c3=>?_)
   ·try simp only [sx] at c3
    refine G O<|Y O<|Y O<|Y O<|W<|zJ<|fin2 (v O) (v O) ?_
    rw [validM_s hl (by rw [hp,sizesM_no hx c3];exact c3),hp,sizesM_no hx c3]
   ·try simp only [sx] at c3
    rw [zKw c3]
    refine zI<|zO O<|qB O ⟨by omega,by omega⟩<|Y O<|W ?_
    refine ⟨k+1,⟨by omega,by rw [hp,sizesM_next hx c3,zIv hx]⟩,(by omega),Weak.mk [true,true,true] ⟨U,U,U,U,U,T⟩ (by show _=[pRow 120 b3 b2 p,E.blk b2 (MapR vI (tabV [] (p.Sizes.take (k+1)) 1))]++_;rw [zIv hx];rfl)⟩
  ·try simp only [sx] at c2
   rw [qS (l:=p.Sizes) (k:=k) (by omega)]
   rw [wE (l:=p.Sizes) (k:=k) (by omega)] at hp
   have hs0:sizesM [] p.Sizes=0:=hp
   refine qE<|zG<|G O<|zD O zJl<|zH one23 (J 2 O) O<|zV O el23<|Y O<|W<|zN<|zU ⟨[(43,.c _),(1,.c _),(4,.c _),(41,.c _),(42,.c _)],[_,_,_]⟩ (Weak.mk [true,true,true] ⟨U,U,U,U,U,T⟩ O)<|qA 1 0 O O (Nat) (fun k=>[(43,vI k)]) (fun k=>[]) (fun k=>k<=p.Where.length/\(whereM (tabV [] p.Sizes 1) p.Where=whereM (tabV [] p.Sizes 1) (p.Where.drop k))) (fun k=>p.Where.length-k) ⟨0,⟨by omega,O⟩,Weak.mk [true,true,true] ⟨U,U,U,U,U,T⟩ O⟩ ?_
   rintro k ⟨hk,hp⟩
   refine G O<|qW O<|W<|zG<|zE O (fun c4=>?_) (fun c4=>?_)
   ·try simp only [sx] at c4
    obtain ⟨x,hx⟩:=qP p.Where k (by omega)
    refine zI<|zG<|zN<|G O<|zZ O el23 (by omega) (getm (by assumption))<|zL agg101 zY O<|zS O O (qD [none,some 2,none] O zr101 O) ?_
    rintro _ _ ⟨b4,rfl,rfl⟩
    refine N 0 sz101 O<|W<|G O<|Y O<|zL agg101 (J 0 O) O<|zX O (yQ [1,1] O ok68 (zJs b3 b2 p (tabV [] p.Sizes 1) x (hP.whs x (zW hx))) ⟨U,O,U,O,T⟩ O)<|Y O<|W<|G O<|Y O<|yR O<|W<|zE O (fun c5=>?_) (fun c5=>?_)
    ·try simp only [sx] at c5
     refine G O<|Y O<|Y O<|Y O<|W<|zJ<|fin2 (v O) (v O) ?_
     rw [validM_w hl hs0 (by rw [hp,whereM_no hx c5];exact c5),hp,whereM_no hx c5]
    ·try simp only [sx] at c5
     refine zI<|zO O<|qB O ⟨by omega,by omega⟩<|Y O<|W ?_
     refine ⟨k+1,⟨by omega,hp.trans (whereM_next hx c5)⟩,(by omega),Weak.mk [false,true,true,true] ⟨U,U,U,U,U,T⟩ O⟩
   ·try simp only [sx] at c4
    rw [wE (l:=p.Where) (k:=k) (by omega)] at hp
    have hw0:whereM (tabV [] p.Sizes 1) p.Where=0:=hp
    have hV:=validM_p hl hs0 hw0
    refine qE<|G O<|Y O<|W<|zG<|G O<|zD O zBu<|zH zFp (J 2 O) O<|zV O el24<|Y O<|W<|zN<|zU ⟨[(57,.c _),(11,.c _),(1,.c _),(4,.c _),(55,.c _),(56,.c _)],[_,_,_]⟩ (Weak.mk [true,true,true] ⟨U,U,U,U,U,U,T⟩ O)<|qA 2 2 O O (Nat) (fun k=>[(57,vI k),(11,vI (2+(k:Int)))]) (fun k=>[pRow 120 b3 b2 p,E.blk b2 (MapR vI (tabP (tabV [] p.Sizes 1) (p.Params.take k)))]) (fun k=>k<=p.Params.length/\(validM p=paramsM p (2+(k:Int)) (tabP (tabV [] p.Sizes 1) (p.Params.take k)) (p.Params.drop k))) (fun k=>p.Params.length-k) ⟨0,⟨by omega,hV⟩,Weak.mk [true,true,true] ⟨U,VLe.of_eq (O),U,U,U,U,T⟩ O⟩ ?_
    rintro k ⟨hk,hp⟩
    refine G O<|qW O<|W<|zG<|zE O (fun c6=>?_) (fun c6=>?_)
    ·try simp only [sx] at c6
     obtain ⟨x,hx⟩:=qP p.Params k (by omega)
     refine zI<|zG<|zN<|G O<|zZ O el24 (by omega) (getm (by assumption))<|zL agg67 zY O<|zS O O (qD [none,none,none,none,none,none,some 2] O zr67 O) ?_
     rintro _ _ ⟨b5,rfl,rfl⟩
     refine N 0 sz67 O<|W<|zG<|G O<|Y O<|zL agg67 (J 0 O) O<|zX O (yQ [1,1] O ok69 (checker_param b3 b2 p (tabP (tabV [] p.Sizes 1) (p.Params.take k)) x (hP.ps x (zW hx)).1 (hP.ps x (zW hx)).2) ⟨U,O,U,O,T⟩ O)<|Y O<|W<|G O<|Y O<|yR O<|W<|zE O (fun c7=>?_) (fun c7=>?_)
     ·try simp only [sx] at c7
      refine G O<|Y O<|Y O<|Y O<|Y O<|W<|zJ<|fin2 (v O) (v O) ?_
      rw [hp,paramsM_no hx c7]
     ·try simp only [sx] at c7
      rw [param_map c7]
      refine zI<|zO O<|Y O<|qB O ⟨by omega,by omega⟩<|Y O<|W<|zO O<|qB O ⟨by omega,by omega⟩<|Y O<|W ?_
      refine ⟨k+1,⟨by omega,by rw [hp,paramsM_next hx c7,tabP_next hx];congr 1<;>first|omega|rfl⟩,(by omega),Weak.mk [false,true,true,true] ⟨U,VLe.of_eq (congrArg vI (by omega)),U,U,U,U,T⟩ (by show _=[pRow 120 b3 b2 p,E.blk b2 (MapR vI (tabP (tabV [] p.Sizes 1) (p.Params.take (k+1))))]++_;rw [tabP_next hx];rfl)⟩
    ·try simp only [sx] at c6
     rw [qS (l:=p.Params) (k:=k) (by omega)]
     rw [wE (l:=p.Params) (k:=k) (by omega),qS (l:=p.Params) (k:=k) (by omega),paramsM] at hp
     refine qE<|zG<|G O<|zD O yZ<|zH wL (J 2 O) O<|zV O el25<|Y O<|W<|zN<|zU ⟨[(74,.c _),(11,.c _),(1,.c _),(4,.c _),(73,.c _)],[_,_,_]⟩ (Weak.mk [true,true,true] ⟨U,U,U,U,U,T⟩ O) ?_
     refine qA 2 2 O O (Nat) (fun k=>[(74,vI k),(11,vI (2+(p.Params.length:Int)+(k:Int)))]) (fun k=>[pRow 120 b3 b2 p,E.blk b2 (MapR vI (tabD (tabP (tabV [] p.Sizes 1) p.Params) (p.Defs.take k)))]) (fun k=>k<=p.Defs.length/\(validM p=defsM p (2+(p.Params.length:Int)+(k:Int)) (tabD (tabP (tabV [] p.Sizes 1) p.Params) (p.Defs.take k)) (p.Defs.take k) (p.Defs.drop k))) (fun k=>p.Defs.length-k) ⟨0,⟨by omega,by rw [hp];congr 1<;>first|omega|rfl⟩,Weak.mk [true,true,true] ⟨U,VLe.of_eq (congrArg vI (by omega)),U,U,U,T⟩ O⟩ ?_
     rintro k ⟨hk,hq⟩
     refine G O<|qW O<|W<|zG<|zE O (fun c8=>?_) (fun c8=>?_)
     ·try simp only [sx] at c8
      obtain ⟨x,hx⟩:=qP p.Defs k (by omega)
      refine zI<|zG<|zN<|G O<|Y O<|Y O<|W<|zG<|G O<|Y O<|Y O<|zX O (yQ [0,0] O ok70 (checker_def b3 b2 p (tabD (tabP (tabV [] p.Sizes 1) p.Params) (p.Defs.take k)) hP k x hx) ⟨U,O,U,O,T⟩ O)<|Y O<|W<|G O<|Y O<|yR O<|W<|zE O (fun c9=>?_) (fun c9=>?_)
      ·try simp only [sx] at c9
       refine G O<|Y O<|Y O<|Y O<|Y O<|W<|zJ<|fin2 (v O) (v O) ?_
       rw [hq,defsM_no hx c9]
      ·try simp only [sx] at c9
       rw [def_map c9]
       refine zI<|zO O<|Y O<|qB O ⟨by omega,by omega⟩<|Y O<|W<|zO O<|qB O ⟨by omega,by omega⟩<|Y O<|W ?_
       refine ⟨k+1,⟨by omega,by rw [hq,defsM_next hx c9,tabD_next hx];congr 1<;>first|omega|rfl⟩,(by omega),Weak.mk [true,true,true] ⟨U,VLe.of_eq (congrArg vI (by omega)),U,U,U,T⟩ (by show _=[pRow 120 b3 b2 p,E.blk b2 (MapR vI (tabD (tabP (tabV [] p.Sizes 1) p.Params) (p.Defs.take (k+1))))]++_;rw [tabD_next hx];rfl)⟩
     ·try simp only [sx] at c8
      rw [qS (l:=p.Defs) (k:=k) (by omega)]
      rw [wE (l:=p.Defs) (k:=k) (by omega),qS (l:=p.Defs) (k:=k) (by omega),defsM] at hq
      refine qE<|zG<|G O<|zD O zGg<|zH zBq (J 2 O) O<|zV O r<|Y O<|W<|zN<|zU ⟨[(90,.c _),(11,.c _),(1,.c _),(4,.c _),(88,.c _),(89,.c _)],[_,_,_]⟩ (Weak.mk [true,true,true] ⟨U,U,U,U,U,U,T⟩ O) ?_
      refine qA 2 0 O O (Nat) (fun k=>[(90,vI k),(11,vI (2+(p.Params.length:Int)+(p.Defs.length:Int)+(k:Int)))]) (fun k=>[]) (fun k=>k<=p.Outs.length/\(validM p=outsM (tabD (tabP (tabV [] p.Sizes 1) p.Params) p.Defs) (2+(p.Params.length:Int)+(p.Defs.length:Int)+(k:Int)) (p.Outs.take k) (p.Outs.drop k))) (fun k=>p.Outs.length-k) ⟨0,⟨by omega,by rw [hq];congr 1<;>first|omega|rfl⟩,Weak.mk [true,true,true] ⟨U,VLe.of_eq (congrArg vI (by omega)),U,U,U,U,T⟩ O⟩ ?_
      rintro k ⟨hk,ho⟩
      refine G O<|qW O<|W<|zG<|zE O (fun c10=>?_) (fun c10=>?_)
      ·try simp only [sx] at c10
       obtain ⟨x,hx⟩:=qP p.Outs k (by omega)
       refine zI<|zG<|zN<|G O<|Y O<|zZ O r (by omega) (getm (by assumption))<|zH one9 zY O<|Y O<|Y O<|W<|zG<|zN<|G O<|Y O<|zX O (yU O O)<|zD O zPn<|zH zLs (J 0 O) O<|Y O<|zX O (zDc 1 (0:Int) O sm118 O O O (fun _ _=>CRep.lit _ O))<|yR O<|Y O<|W<|zE O (fun c11=>?_) (fun c11=>?_)
       ·try simp only [sx] at c11
        refine G O<|Y O<|Y O<|Y O<|W<|zJ<|fin2 (v O) (v O) ?_
        rw [ho,outsM_9 hx c11]
       ·try simp only [sx] at c11
        refine G O<|zD O zGg<|zH zBq (J 2 O) O<|Y O<|zX O (zAd O r O O (by omega))<|Y O<|qK O ok52 (wH (p.Outs.take k) x (by rw [List.length_take];omega)) ⟨U,O,U,O,T⟩<|Y O<|W<|zE O (fun c12=>?_) (fun c12=>?_)
        ·try simp only [sx] at c12
         refine G O<|Y O<|Y O<|Y O<|W<|zJ<|fin2 (v O) (v O) ?_
         rw [ho,outsM_8 hx c11 c12]
        ·try simp only [sx] at c12
         refine zI<|zO O<|Y O<|qB O ⟨by omega,by omega⟩<|Y O<|W<|zO O<|qB O ⟨by omega,by omega⟩<|Y O<|W ?_
         refine ⟨k+1,⟨by omega,by rw [ho,outsM_next hx c11 c12];congr 1<;>first|omega|rfl⟩,(by omega),Weak.mk [true,true,true] ⟨U,VLe.of_eq (congrArg vI (by omega)),U,U,U,U,T⟩ O⟩
      ·try simp only [sx] at c10
       refine qE<|G O<|Y O<|Y O<|W<|zJ<|fin2 (v O) (v O) ?_
       rw [ho,wE (by omega)];rfl
end Go.W
