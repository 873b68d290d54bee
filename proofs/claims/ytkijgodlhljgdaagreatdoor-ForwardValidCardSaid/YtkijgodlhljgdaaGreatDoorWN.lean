/-
  Walks: what functions of the program compute. Printed by wip/gen/mk2.py.
  Conditions: none.
-/
import Derived.Test.YtkijgodlhljgdaaGreatDoorWM
import Derived.Test.YtkijgodlhljgdaaGreatDoorPlain
import Derived.Test.YtkijgodlhljgdaaGreatDoorEngZ
set_option linter.unusedSimpArgs false
set_option linter.unusedVariables false
set_option maxRecDepth 10000
namespace Go.W
open Go Go.Eng Go.Proofs Go.L41 Go.Br
attribute [local irreducible] AWP RWP TD finQ
theorem zDl:fieldT Tryz.prog 59 5=some (9,38):=by kernel_rfl
theorem fd138_0:fieldT Tryz.prog 138 0=some (0,27):=by kernel_rfl
theorem ok27:callOk Tryz.prog 27=true:=by kernel_rfl
theorem ok102:callOk Tryz.prog 102=true:=by kernel_rfl
theorem ok104:callOk Tryz.prog 104=true:=by kernel_rfl
theorem ok105:callOk Tryz.prog 105=true:=by kernel_rfl
theorem ok106:callOk Tryz.prog 106=true:=by kernel_rfl
theorem ok180:callOk Tryz.prog 180=true:=by kernel_rfl
theorem ok181:callOk Tryz.prog 181=true:=by kernel_rfl
theorem ok182:callOk Tryz.prog 182=true:=by kernel_rfl
theorem pl138:placesT Tryz.prog 138=some [(0,5),(5,1)]:=by kernel_rfl
theorem sz25:(Tryz.prog.info? 25).map (·.size)=some 1:=by kernel_rfl
theorem sz27:(Tryz.prog.info? 27).map (·.size)=some 5:=by kernel_rfl
theorem sz59:(Tryz.prog.info? 59).map (·.size)=some 22:=by kernel_rfl
theorem sz93:(Tryz.prog.info? 93).map (·.size)=some 3:=by kernel_rfl
theorem zr27:zeroT Tryz.prog 27=some [(Value.slice none 0 0),(Value.slice none 0 0),(Value.slice none 0 0),(Value.slice none 0 0),(Value.slice none 0 0)]:=by kernel_rfl
theorem zr59:zeroT Tryz.prog 59=some [(Value.string (ByteArray.mk #[])),(Value.int IntKind.i64 0),(Value.int IntKind.i64 0),(Value.int IntKind.i64 0),(Value.int IntKind.i64 0),(Value.int IntKind.i64 0),(Value.slice none 0 0),(Value.slice none 0 0),(Value.int IntKind.i64 0),(Value.int IntKind.i64 0),(Value.string (ByteArray.mk #[])),(Value.int IntKind.i64 0),(Value.int IntKind.i64 0),(Value.int IntKind.i64 0),(Value.int IntKind.i64 0),(Value.int IntKind.i64 0),(Value.int IntKind.i64 0),(Value.int IntKind.i64 0),(Value.int IntKind.i64 0),(Value.slice none 0 0),(Value.slice none 0 0),(Value.slice none 0 0)]:=by kernel_rfl
theorem zr93:zeroT Tryz.prog 93=some [(Value.int IntKind.i64 0),(Value.slice none 0 0),(Value.bool false)]:=by kernel_rfl
theorem zr138:zeroT Tryz.prog 138=some [(Value.slice none 0 0),(Value.slice none 0 0),(Value.slice none 0 0),(Value.slice none 0 0),(Value.slice none 0 0),(Value.map none)]:=by kernel_rfl
theorem checker_def (b mb:Nat) (p:Pg) (m:Kn) (hP:p.Ok) (k:Nat) (d:Df) (hd:p.Defs[k]? =some d):
    Con cfg 106 [vP b,vI k] (ckE b mb p m) fun r μ'=>r=vI (defM m ⟨p.Sizes,p.Params,p.Defs.take k⟩ d)/\μ'=ckE b mb p (nameMap m d.Name 2):=by
 refine zT Tryz.func106 O Tryz.ntmps106 Tryz.results106 O ?_
 intro z hz
 obtain ⟨hD,hR,hA,hA2,hB⟩:=hP.ds d (qD hd)
 have hlen:=zKc hd
 have hpd:=hP.defs
 refine B O<|G O<|U<|B O<|G O<|zX O (yP O O)<|zG O fd138_0<|zG O kE<|zK wX (J 0 O) O<|G O<|qE O el25 (by omega) (getm (by assumption))<|zL zCv qB O<|zZ O O (qH [none,none,none,none,none,none,some 3,some 3,none,none,none,none,none,none,none,none,none,none,none,some 2,some 4,some 13] O zr59 O) ?_
 rintro _ _ ⟨b1,rfl,rfl⟩
 refine N 0 sz59 O<|U<|zI<|B O<|G O<|zG O zEn<|zK one9 (J 0 O) O<|zX O (yR [1,1] O ok103 (zGa b mb p m d.Name 2) ⟨Y,O,Y,O,Y,O,T⟩ O)<|G O<|U<|B O<|G O<|yN O<|U<|zE O (fun c1=>?_) (fun c1=>?_)
 ·try simp only [W] at c1
  refine B O<|G O<|G O<|U<|zU _ (Weak.mem [false,true,true] O)<|zH<|zQ O ?_
  exact ⟨by rw [def_1 c1],O⟩
 ·try simp only [W] at c1
  refine zJ<|zI<|B O<|zG O zIo<|zL qZ (J 0 O) O<|zG O zAv<|zK wK (J 0 O) O<|zY O el57<|zG O zAm<|zK wK (J 0 O) O<|zY O el57<|yE O el209 zr3<|qK O ok179 (zFc d.T [(d.Dims.length:Int),(d.Red.length:Int)] _ O (by simp)) ⟨Y,O,Y,O,T⟩<|G O<|U<|B O<|G O<|yN O<|U<|zE O (fun c2=>?_) (fun c2=>?_)
  ·try simp only [W] at c2
   refine B O<|G O<|G O<|U<|zU _ (Weak.mem [false,true,true] O)<|zH<|zQ O ?_
   exact ⟨by rw [def_2 c1 c2],O⟩
  ·try simp only [W] at c2
   have hX:=def_ok (n:=⟨p.Sizes,p.Params,p.Defs.take k⟩) c1 c2
   refine zJ<|zI<|B O<|G O<|zL zCv (J 0 O) O<|zX O (yR [1,1] O ok180 (checker_axes b mb p (nameMap m d.Name 2) d hD hR hA hA2) ⟨Y,O,Y,O,T⟩ O)<|G O<|U<|B O<|G O<|yN O<|U<|zE O (fun c3=>?_) (fun c3=>?_)
   ·try simp only [W] at c3
    refine B O<|G O<|G O<|U<|zU _ (Weak.mem [false,true,true] O)<|zH<|zQ O ?_
    exact ⟨by rw [hX,if_neg c3],O⟩
   ·try simp only [W] at c3
    rw [if_pos c3] at hX
    refine zJ<|zI<|B O<|zL zCv (J 0 O) O<|qK O ok181 (program_fold d) ⟨Y,O,T⟩<|G O<|U<|B O<|G O<|yN O<|U<|zE O (fun c4=>?_) (fun c4=>?_)
    ·try simp only [W] at c4
     refine B O<|G O<|G O<|U<|zU _ (Weak.mem [false,true,true] O)<|zH<|zQ O ?_
     exact ⟨by rw [hX,if_neg c4],O⟩
    ·try simp only [W] at c4
     rw [if_pos c4] at hX
     unfold tyErrD at hX
     refine zJ<|B O<|G O<|zX O (yP O O)<|zG O fd138_0<|zL kO (J 1 O) O<|zZ O O (qH [some 1,some 3,some 7,some 22,some 1] O zr27 O) ?_
     rintro _ _ ⟨b2,rfl,rfl⟩
     refine N 0 sz27 O<|U<|B O<|G O<|zX O (yP O O)<|zG O fd138_0<|zG O kE<|zK wX (J 2 O) O<|G O<|zX O (zAr O el25 O O (by omega))<|zG O kE<|N 0 sz25 O<|U<|zI<|awp_draw_p 10 [.q,.q,.q,.q,.q,.q,.q,.q,.u,.f]  mixed (by kernel_rfl) O O O<|kF O O (zN O kO O (J 0 O) O)<|kF O O (zN O zCv O (J 1 O) O)<|kF O O (qG O ok182 (OwnR.pur (zIi d hD hR)) ⟨Y,O,T⟩)<|kF O O (zD O zDl O)<|kF O O (zN O qN O (J 1 O) O)<|kF O O (qG O ok27 (zCd (⟨p.Sizes,p.Where,p.Params,p.Defs.take k,p.Outs⟩:Pg) (namesD d) d.Body (hP.take k) (by rw [namesD,List.length_append,List.length_map,List.length_map];omega) hB) ⟨Y,O,Y,O,Y,O,T⟩)<|kF O O (qV O O)<|kF O O (yJ O O O)<|zHx O O (yI O O O)<|zLi<|tdq_nil<|zAx<|zAx<|zAx<|zAx<|zAx<|zAx<|zAx<|zAx<|tdf_u<|zHy (zAc (yB O zr31))<|tdf_nil<|zGr ?_
     rintro _ _ ⟨b3,rfl,rfl⟩
     refine zJc ?_
     refine ⟨_,kW O sz31 O O O (zEe 0 O O),(by rintro _ _ ⟨rfl,rfl⟩;exact ⟨[_],rfl⟩),?_⟩
     rintro _ _ ⟨rfl,rfl⟩
     refine G O<|U<|zI<|B O<|G O<|yN O<|U<|zE O (fun c5=>?_) (fun c5=>?_)
     ·try simp only [W] at c5
      refine B O<|G O<|G O<|U<|zU _ (Weak.mem [false,false,false,true,true] O)<|zH<|zQ O ?_
      exact ⟨by rw [hX,if_neg (show ¬(typeT ⟨p.Sizes,p.Params,p.Defs.take k⟩ (namesD d) d.Body).2=0 from c5)];rfl,O⟩
     ·try simp only [W] at c5
      rw [if_pos (show (typeT ⟨p.Sizes,p.Params,p.Defs.take k⟩ (namesD d) d.Body).2=0 from c5)] at hX
      refine zJ<|zI<|B O<|zL qZ (J 0 O) O<|zG O zIo<|zL qZ (J 2 O) O<|zX O (zCf O fl31 O O O)<|U<|zE O (fun c6=>?_) (fun c6=>?_)
      ·refine B O<|G O<|U<|zU _ (Weak.mem [false,false,false,true,true] O)<|zH<|zQ O ?_
       exact ⟨by rw [hX,if_neg (show ¬(typeT (⟨p.Sizes,p.Params,p.Defs.take k⟩:En) (namesD d) d.Body).1=d.T from zHv c6)],O⟩
      ·refine zJ<|B O<|G O<|U<|zU _ (Weak.mem [false,false,false,true,true] O)<|zH<|zQ O ?_
       exact ⟨by rw [hX,if_pos (show (typeT (⟨p.Sizes,p.Params,p.Defs.take k⟩:En) (namesD d) d.Body).1=d.T from zGe c6)],O⟩
theorem zFd (p:Pg) (hP:p.Ok):
    Pur cfg 41 [vPg p] (.tup [vI (validM p).1,vI (validM p).2]):=by
 refine zT Tryz.func41 O Tryz.ntmps41 Tryz.results41 O ?_
 intro z hz
 have hps:=hP.sizes
 have hpw:=hP.wh
 have hpp:=hP.params
 have hpd:=hP.defs
 have hpo:=hP.outs
 refine B O<|zZ O O (qI O O) ?_
 rintro _ _ ⟨b1,rfl,rfl⟩
 refine G O<|G O<|U<|zI<|B O<|zL kO (J 0 O) O<|qK O ok102 (program_limits p) ⟨Y,O,T⟩<|wB O<|U<|zE O (fun c1=>?_) (fun c1=>?_)
 ·have hl:¬limitOk p:=by simpa using c1
  refine B O<|G O<|G O<|U<|zH<|fin2 (v O) (v O) ?_
  rw [validM_2 hl]
 ·have hl:limitOk p:=by simpa using c1
  have ho64:p.Outs.length<=64:=hl.2.2.2.1
  refine zJ<|B O<|zL kO (J 0 O) O<|zZ O O (zMz vI O O) ?_
  rintro _ _ ⟨b2,rfl,rfl⟩
  refine yV O zr138 pl138<|zZ O O (qI O O) ?_
  rintro _ _ ⟨b3,rfl,rfl⟩
  refine G O<|U<|zI<|B O<|zG O zCm<|zK wY (J 2 O) O<|zY O el22<|G O<|U<|zP<|zU ⟨[(29,.c _),(1,.c _),(4,.c _),(27,.c _),(28,.c _)],[_,_,_]⟩ (Weak.mk [true,true,true] ⟨Y,Y,Y,Y,Y,T⟩ O)<|qF 1 2 O O (Nat) (fun k=>[(29,vI k)]) (fun k=>[pRow 138 b3 b2 p,E.blk b2 (MapR vI (tabV [] (p.Sizes.take k) 1))]) (fun k=>k<=p.Sizes.length/\(sizesM [] p.Sizes=sizesM (tabV [] (p.Sizes.take k) 1) (p.Sizes.drop k))) (fun k=>p.Sizes.length-k) ⟨0,⟨by omega,O⟩,Weak.mk [true,true,true] ⟨Y,Y,Y,Y,Y,T⟩ O⟩ ?_
  rintro k ⟨hk,hp⟩
  refine B O<|yA O<|U<|zI<|zE O (fun c2=>?_) (fun c2=>?_)
  ·try simp only [W] at c2
   obtain ⟨x,hx⟩:=qQ p.Sizes k (by omega)
   refine zJ<|zI<|zP<|B O<|qE O el22 (by omega) (getm (by assumption))<|zK one9 qB O<|G O<|U<|B O<|G O<|G O<|zX O (yR [0,0] O ok103 (zGa b3 b2 p (tabV [] (p.Sizes.take k) 1) x 1) ⟨Y,O,Y,O,Y,O,T⟩ O)<|G O<|U<|B O<|G O<|yN O<|U<|zE O (fun c3=>?_) (fun c3=>?_)
   ·try simp only [W] at c3
    refine B O<|G O<|G O<|G O<|U<|zH<|fin2 (v O) (v O) ?_
    rw [validM_s hl (by rw [hp,sizesM_no hx c3];exact c3),hp,sizesM_no hx c3]
   ·try simp only [W] at c3
    rw [zJy c3]
    refine zJ<|zS O<|qJ O ⟨by omega,by omega⟩<|G O<|U ?_
    refine ⟨k+1,⟨by omega,by rw [hp,sizesM_next hx c3,zIa hx]⟩,(by omega),Weak.mk [true,true,true] ⟨Y,Y,Y,Y,Y,T⟩ (by show _=[pRow 138 b3 b2 p,E.blk b2 (MapR vI (tabV [] (p.Sizes.take (k+1)) 1))]++_;rw [zIa hx];rfl)⟩
  ·try simp only [W] at c2
   rw [qX (l:=p.Sizes) (k:=k) (by omega)]
   rw [wC (l:=p.Sizes) (k:=k) (by omega)] at hp
   have hs0:sizesM [] p.Sizes=0:=hp
   refine qO<|zI<|B O<|zG O zFg<|zK one23 (J 2 O) O<|zY O el23<|G O<|U<|zP<|zU ⟨[(43,.c _),(1,.c _),(4,.c _),(41,.c _),(42,.c _)],[_,_,_]⟩ (Weak.mk [true,true,true] ⟨Y,Y,Y,Y,Y,T⟩ O)<|qF 1 0 O O (Nat) (fun k=>[(43,vI k)]) (fun k=>[]) (fun k=>k<=p.Where.length/\(whereM (tabV [] p.Sizes 1) p.Where=whereM (tabV [] p.Sizes 1) (p.Where.drop k))) (fun k=>p.Where.length-k) ⟨0,⟨by omega,O⟩,Weak.mk [true,true,true] ⟨Y,Y,Y,Y,Y,T⟩ O⟩ ?_
   rintro k ⟨hk,hp⟩
   refine B O<|yA O<|U<|zI<|zE O (fun c4=>?_) (fun c4=>?_)
   ·try simp only [W] at c4
    obtain ⟨x,hx⟩:=qQ p.Where k (by omega)
    refine zJ<|zI<|zP<|B O<|qE O el23 (by omega) (getm (by assumption))<|zL agg93 qB O<|zZ O O (qH [none,some 2,none] O zr93 O) ?_
    rintro _ _ ⟨b4,rfl,rfl⟩
    refine N 0 sz93 O<|U<|B O<|G O<|zL agg93 (J 0 O) O<|zX O (yR [1,1] O ok104 (zIw b3 b2 p (tabV [] p.Sizes 1) x (hP.whs x (qD hx))) ⟨Y,O,Y,O,T⟩ O)<|G O<|U<|B O<|G O<|yN O<|U<|zE O (fun c5=>?_) (fun c5=>?_)
    ·try simp only [W] at c5
     refine B O<|G O<|G O<|G O<|U<|zH<|fin2 (v O) (v O) ?_
     rw [validM_w hl hs0 (by rw [hp,whereM_no hx c5];exact c5),hp,whereM_no hx c5]
    ·try simp only [W] at c5
     refine zJ<|zS O<|qJ O ⟨by omega,by omega⟩<|G O<|U ?_
     refine ⟨k+1,⟨by omega,hp.trans (whereM_next hx c5)⟩,(by omega),Weak.mk [false,true,true,true] ⟨Y,Y,Y,Y,Y,T⟩ O⟩
   ·try simp only [W] at c4
    rw [wC (l:=p.Where) (k:=k) (by omega)] at hp
    have hw0:whereM (tabV [] p.Sizes 1) p.Where=0:=hp
    have hV:=validM_p hl hs0 hw0
    refine qO<|B O<|G O<|U<|zI<|B O<|zG O wN<|zK zCk (J 2 O) O<|zY O el24<|G O<|U<|zP<|zU ⟨[(57,.c _),(11,.c _),(1,.c _),(4,.c _),(55,.c _),(56,.c _)],[_,_,_]⟩ (Weak.mk [true,true,true] ⟨Y,Y,Y,Y,Y,Y,T⟩ O)<|qF 2 2 O O (Nat) (fun k=>[(57,vI k),(11,vI (2+(k:Int)))]) (fun k=>[pRow 138 b3 b2 p,E.blk b2 (MapR vI (tabP (tabV [] p.Sizes 1) (p.Params.take k)))]) (fun k=>k<=p.Params.length/\(validM p=paramsM p (2+(k:Int)) (tabP (tabV [] p.Sizes 1) (p.Params.take k)) (p.Params.drop k))) (fun k=>p.Params.length-k) ⟨0,⟨by omega,hV⟩,Weak.mk [true,true,true] ⟨Y,VLe.of_eq (O),Y,Y,Y,Y,T⟩ O⟩ ?_
    rintro k ⟨hk,hp⟩
    refine B O<|yA O<|U<|zI<|zE O (fun c6=>?_) (fun c6=>?_)
    ·try simp only [W] at c6
     obtain ⟨x,hx⟩:=qQ p.Params k (by omega)
     refine zJ<|zI<|zP<|B O<|qE O el24 (by omega) (getm (by assumption))<|zL zLd qB O<|zZ O O (qH [none,none,none,none,none,none,some 2] O zr65 O) ?_
     rintro _ _ ⟨b5,rfl,rfl⟩
     refine N 0 sz65 O<|U<|zI<|B O<|G O<|zL zLd (J 0 O) O<|zX O (yR [1,1] O ok105 (checker_param b3 b2 p (tabP (tabV [] p.Sizes 1) (p.Params.take k)) x (hP.ps x (qD hx)).1 (hP.ps x (qD hx)).2) ⟨Y,O,Y,O,T⟩ O)<|G O<|U<|B O<|G O<|yN O<|U<|zE O (fun c7=>?_) (fun c7=>?_)
     ·try simp only [W] at c7
      refine B O<|G O<|G O<|G O<|G O<|U<|zH<|fin2 (v O) (v O) ?_
      rw [hp,paramsM_no hx c7]
     ·try simp only [W] at c7
      rw [param_map c7]
      refine zJ<|zS O<|G O<|qJ O ⟨by omega,by omega⟩<|G O<|U<|zS O<|qJ O ⟨by omega,by omega⟩<|G O<|U ?_
      refine ⟨k+1,⟨by omega,by rw [hp,paramsM_next hx c7,tabP_next hx];congr 1<;>first|omega|rfl⟩,(by omega),Weak.mk [false,true,true,true] ⟨Y,VLe.of_eq (congrArg vI (by omega)),Y,Y,Y,Y,T⟩ (by show _=[pRow 138 b3 b2 p,E.blk b2 (MapR vI (tabP (tabV [] p.Sizes 1) (p.Params.take (k+1))))]++_;rw [tabP_next hx];rfl)⟩
    ·try simp only [W] at c6
     rw [qX (l:=p.Params) (k:=k) (by omega)]
     rw [wC (l:=p.Params) (k:=k) (by omega),qX (l:=p.Params) (k:=k) (by omega),paramsM] at hp
     refine qO<|zI<|B O<|zG O kE<|zK wX (J 2 O) O<|zY O el25<|G O<|U<|zP<|zU ⟨[(74,.c _),(11,.c _),(1,.c _),(4,.c _),(73,.c _)],[_,_,_]⟩ (Weak.mk [true,true,true] ⟨Y,Y,Y,Y,Y,T⟩ O) ?_
     refine qF 2 2 O O (Nat) (fun k=>[(74,vI k),(11,vI (2+(p.Params.length:Int)+(k:Int)))]) (fun k=>[pRow 138 b3 b2 p,E.blk b2 (MapR vI (tabD (tabP (tabV [] p.Sizes 1) p.Params) (p.Defs.take k)))]) (fun k=>k<=p.Defs.length/\(validM p=defsM p (2+(p.Params.length:Int)+(k:Int)) (tabD (tabP (tabV [] p.Sizes 1) p.Params) (p.Defs.take k)) (p.Defs.take k) (p.Defs.drop k))) (fun k=>p.Defs.length-k) ⟨0,⟨by omega,by rw [hp];congr 1<;>first|omega|rfl⟩,Weak.mk [true,true,true] ⟨Y,VLe.of_eq (congrArg vI (by omega)),Y,Y,Y,T⟩ O⟩ ?_
     rintro k ⟨hk,hq⟩
     refine B O<|yA O<|U<|zI<|zE O (fun c8=>?_) (fun c8=>?_)
     ·try simp only [W] at c8
      obtain ⟨x,hx⟩:=qQ p.Defs k (by omega)
      refine zJ<|zI<|zP<|B O<|G O<|G O<|U<|zI<|B O<|G O<|G O<|zX O (yR [0,0] O ok106 (checker_def b3 b2 p (tabD (tabP (tabV [] p.Sizes 1) p.Params) (p.Defs.take k)) hP k x hx) ⟨Y,O,Y,O,T⟩ O)<|G O<|U<|B O<|G O<|yN O<|U<|zE O (fun c9=>?_) (fun c9=>?_)
      ·try simp only [W] at c9
       refine B O<|G O<|G O<|G O<|G O<|U<|zH<|fin2 (v O) (v O) ?_
       rw [hq,defsM_no hx c9]
      ·try simp only [W] at c9
       rw [def_map c9]
       refine zJ<|zS O<|G O<|qJ O ⟨by omega,by omega⟩<|G O<|U<|zS O<|qJ O ⟨by omega,by omega⟩<|G O<|U ?_
       refine ⟨k+1,⟨by omega,by rw [hq,defsM_next hx c9,tabD_next hx];congr 1<;>first|omega|rfl⟩,(by omega),Weak.mk [true,true,true] ⟨Y,VLe.of_eq (congrArg vI (by omega)),Y,Y,Y,T⟩ (by show _=[pRow 138 b3 b2 p,E.blk b2 (MapR vI (tabD (tabP (tabV [] p.Sizes 1) p.Params) (p.Defs.take (k+1))))]++_;rw [tabD_next hx];rfl)⟩
     ·try simp only [W] at c8
      rw [qX (l:=p.Defs) (k:=k) (by omega)]
      rw [wC (l:=p.Defs) (k:=k) (by omega),qX (l:=p.Defs) (k:=k) (by omega),defsM] at hq
      refine qO<|zI<|B O<|zG O zBb<|zK wY (J 2 O) O<|zY O el22<|G O<|U<|zP<|zU ⟨[(90,.c _),(11,.c _),(1,.c _),(4,.c _),(88,.c _),(89,.c _)],[_,_,_]⟩ (Weak.mk [true,true,true] ⟨Y,Y,Y,Y,Y,Y,T⟩ O) ?_
      refine qF 2 0 O O (Nat) (fun k=>[(90,vI k),(11,vI (2+(p.Params.length:Int)+(p.Defs.length:Int)+(k:Int)))]) (fun k=>[]) (fun k=>k<=p.Outs.length/\(validM p=outsM (tabD (tabP (tabV [] p.Sizes 1) p.Params) p.Defs) (2+(p.Params.length:Int)+(p.Defs.length:Int)+(k:Int)) (p.Outs.take k) (p.Outs.drop k))) (fun k=>p.Outs.length-k) ⟨0,⟨by omega,by rw [hq];congr 1<;>first|omega|rfl⟩,Weak.mk [true,true,true] ⟨Y,VLe.of_eq (congrArg vI (by omega)),Y,Y,Y,Y,T⟩ O⟩ ?_
      rintro k ⟨hk,ho⟩
      refine B O<|yA O<|U<|zI<|zE O (fun c10=>?_) (fun c10=>?_)
      ·try simp only [W] at c10
       obtain ⟨x,hx⟩:=qQ p.Outs k (by omega)
       refine zJ<|zI<|zP<|B O<|G O<|qE O el22 (by omega) (getm (by assumption))<|zK one9 qB O<|G O<|G O<|U<|zI<|zP<|B O<|G O<|zX O (yP O O)<|zG O zNt<|zK zKq (J 0 O) O<|G O<|zX O (zDd 1 (0:Int) O sm111 O O O (fun _ _=>CRep.lit _ O))<|yN O<|G O<|U<|zE O (fun c11=>?_) (fun c11=>?_)
       ·try simp only [W] at c11
        refine B O<|G O<|G O<|G O<|U<|zH<|fin2 (v O) (v O) ?_
        rw [ho,outsM_9 hx c11]
       ·try simp only [W] at c11
        refine B O<|zG O zBb<|zK wY (J 2 O) O<|G O<|zX O (zAr O el22 O O (by omega))<|G O<|qK O ok46 (kD (p.Outs.take k) x (by rw [List.length_take];omega)) ⟨Y,O,Y,O,T⟩<|G O<|U<|zE O (fun c12=>?_) (fun c12=>?_)
        ·try simp only [W] at c12
         refine B O<|G O<|G O<|G O<|U<|zH<|fin2 (v O) (v O) ?_
         rw [ho,outsM_8 hx c11 c12]
        ·try simp only [W] at c12
         refine zJ<|zS O<|G O<|qJ O ⟨by omega,by omega⟩<|G O<|U<|zS O<|qJ O ⟨by omega,by omega⟩<|G O<|U ?_
         refine ⟨k+1,⟨by omega,by rw [ho,outsM_next hx c11 c12];congr 1<;>first|omega|rfl⟩,(by omega),Weak.mk [true,true,true] ⟨Y,VLe.of_eq (congrArg vI (by omega)),Y,Y,Y,Y,T⟩ O⟩
      ·try simp only [W] at c10
       refine qO<|B O<|G O<|G O<|U<|zH<|fin2 (v O) (v O) ?_
       rw [ho,wC (by omega)];rfl
end Go.W
