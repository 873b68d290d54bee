/-
  Walks: what functions of the program compute. Printed by wip/gen/mk2.py.
  Conditions: none.
-/
import Derived.Test.YtkijgodlhljgdaaGreatDoorWM
import Derived.Test.YtkijgodlhljgdaaGreatDoorPlain
import Derived.Test.YtkijgodlhljgdaaGreatDoorEngZ
set_option linter.unusedSimpArgs false
set_option linter.unusedVariables false
set_option maxRecDepth 10000
namespace Go.W
open Go Go.Eng Go.Proofs Go.L41 Go.Br
attribute [local irreducible] AWP RWP TD finQ
theorem zCg:fieldT Tryz.prog 59 5=some (9,38):=by kernel_rfl
theorem fd138_0:fieldT Tryz.prog 138 0=some (0,27):=by kernel_rfl
theorem ok27:callOk Tryz.prog 27=true:=by kernel_rfl
theorem ok102:callOk Tryz.prog 102=true:=by kernel_rfl
theorem ok104:callOk Tryz.prog 104=true:=by kernel_rfl
theorem ok105:callOk Tryz.prog 105=true:=by kernel_rfl
theorem ok106:callOk Tryz.prog 106=true:=by kernel_rfl
theorem ok180:callOk Tryz.prog 180=true:=by kernel_rfl
theorem ok181:callOk Tryz.prog 181=true:=by kernel_rfl
theorem ok182:callOk Tryz.prog 182=true:=by kernel_rfl
theorem pl138:placesT Tryz.prog 138=some [(0,5),(5,1)]:=by kernel_rfl
theorem sz25:(Tryz.prog.info? 25).map (·.size)=some 1:=by kernel_rfl
theorem sz27:(Tryz.prog.info? 27).map (·.size)=some 5:=by kernel_rfl
theorem sz59:(Tryz.prog.info? 59).map (·.size)=some 22:=by kernel_rfl
theorem sz93:(Tryz.prog.info? 93).map (·.size)=some 3:=by kernel_rfl
theorem zr27:zeroT Tryz.prog 27=some [(Value.slice none 0 0),(Value.slice none 0 0),(Value.slice none 0 0),(Value.slice none 0 0),(Value.slice none 0 0)]:=by kernel_rfl
theorem zr59:zeroT Tryz.prog 59=some [(Value.string (ByteArray.mk #[])),(Value.int IntKind.i64 0),(Value.int IntKind.i64 0),(Value.int IntKind.i64 0),(Value.int IntKind.i64 0),(Value.int IntKind.i64 0),(Value.slice none 0 0),(Value.slice none 0 0),(Value.int IntKind.i64 0),(Value.int IntKind.i64 0),(Value.string (ByteArray.mk #[])),(Value.int IntKind.i64 0),(Value.int IntKind.i64 0),(Value.int IntKind.i64 0),(Value.int IntKind.i64 0),(Value.int IntKind.i64 0),(Value.int IntKind.i64 0),(Value.int IntKind.i64 0),(Value.int IntKind.i64 0),(Value.slice none 0 0),(Value.slice none 0 0),(Value.slice none 0 0)]:=by kernel_rfl
theorem zr93:zeroT Tryz.prog 93=some [(Value.int IntKind.i64 0),(Value.slice none 0 0),(Value.bool false)]:=by kernel_rfl
theorem zr138:zeroT Tryz.prog 138=some [(Value.slice none 0 0),(Value.slice none 0 0),(Value.slice none 0 0),(Value.slice none 0 0),(Value.slice none 0 0),(Value.map none)]:=by kernel_rfl
theorem checker_def (b mb:Nat) (p:Pg) (m:Kn) (hP:p.Ok) (k:Nat) (d:Df) (hd:p.Defs[k]? =some d):
    Con cfg 106 [vP b,vI k] (ckE b mb p m) fun r μ'=>r=vI (defM m ⟨p.Sizes,p.Params,p.Defs.take k⟩ d)/\μ'=ckE b mb p (nameMap m d.Name 2):=by
 refine zV Tryz.func106 O Tryz.ntmps106 Tryz.results106 O ?_
 intro z hz
 obtain ⟨hD,hR,hA,hA2,hB⟩:=hP.ds d (qD hd)
 have hlen:=zHf hd
 have hpd:=hP.defs
 refine B O<|F O<|H<|B O<|F O<|qB O (yW O O)<|zG O fd138_0<|zG O kE<|zK zAc (K 0 O) O<|F O<|qE O el25 (by omega) (Q (by assumption))<|zL zCn qA O<|zW O O (qI [none,none,none,none,none,none,some 3,some 3,none,none,none,none,none,none,none,none,none,none,none,some 2,some 4,some 13] O zr59 O) ?_
 rintro _ _ ⟨b1,rfl,rfl⟩
 refine N 0 sz59 O<|H<|U<|B O<|F O<|zG O zEk<|zK i (K 0 O) O<|qB O (yY [1,1] O ok103 (zGs b mb p m d.Name 2) ⟨G,O,G,O,G,O,T⟩ O)<|F O<|H<|B O<|F O<|yP O<|H<|g O (fun c1=>?_) (fun c1=>?_)
 ·try simp only [I] at c1
  refine B O<|F O<|F O<|H<|zT _ (Weak.mem [false,true,true] O)<|W<|R O ?_
  exact ⟨by rw [def_1 c1],O⟩
 ·try simp only [I] at c1
  refine zJ<|U<|B O<|zG O zHz<|zL yF (K 0 O) O<|zG O zBi<|zK wW (K 0 O) O<|zZ O el57<|zG O zAx<|zK wW (K 0 O) O<|zZ O el57<|qZ O el209 zr3<|qK O ok179 (zFu d.T [(d.Dims.length:Int),(d.Red.length:Int)] _ O (by simp)) ⟨G,O,G,O,T⟩<|F O<|H<|B O<|F O<|yP O<|H<|g O (fun c2=>?_) (fun c2=>?_)
  ·try simp only [I] at c2
   refine B O<|F O<|F O<|H<|zT _ (Weak.mem [false,true,true] O)<|W<|R O ?_
   exact ⟨by rw [def_2 c1 c2],O⟩
  ·try simp only [I] at c2
   have hX:=def_ok (n:=⟨p.Sizes,p.Params,p.Defs.take k⟩) c1 c2
   refine zJ<|U<|B O<|F O<|zL zCn (K 0 O) O<|qB O (yY [1,1] O ok180 (checker_axes b mb p (nameMap m d.Name 2) d hD hR hA hA2) ⟨G,O,G,O,T⟩ O)<|F O<|H<|B O<|F O<|yP O<|H<|g O (fun c3=>?_) (fun c3=>?_)
   ·try simp only [I] at c3
    refine B O<|F O<|F O<|H<|zT _ (Weak.mem [false,true,true] O)<|W<|R O ?_
    exact ⟨by rw [hX,if_neg c3],O⟩
   ·try simp only [I] at c3
    rw [if_pos c3] at hX
    refine zJ<|U<|B O<|zL zCn (K 0 O) O<|qK O ok181 (program_fold d) ⟨G,O,T⟩<|F O<|H<|B O<|F O<|yP O<|H<|g O (fun c4=>?_) (fun c4=>?_)
    ·try simp only [I] at c4
     refine B O<|F O<|F O<|H<|zT _ (Weak.mem [false,true,true] O)<|W<|R O ?_
     exact ⟨by rw [hX,if_neg c4],O⟩
    ·try simp only [I] at c4
     rw [if_pos c4] at hX
     unfold tyErrD at hX
     refine zJ<|B O<|F O<|qB O (yW O O)<|zG O fd138_0<|zL kC (K 1 O) O<|zW O O (qI [some 1,some 3,some 7,some 22,some 1] O zr27 O) ?_
     rintro _ _ ⟨b2,rfl,rfl⟩
     refine N 0 sz27 O<|H<|B O<|F O<|qB O (yW O O)<|zG O fd138_0<|zG O kE<|zK zAc (K 2 O) O<|F O<|qB O (zAo O el25 O O (by omega))<|zG O kE<|N 0 sz25 O<|H<|U<|awp_draw_p 10 [.q,.q,.q,.q,.q,.q,.q,.q,.u,.f]  mixed (by kernel_rfl) O O O<|kN O O (zN O kC O (K 0 O) O)<|kN O O (zN O zCn O (K 1 O) O)<|kN O O (qF O ok182 (OwnR.pur (zJl d hD hR)) ⟨G,O,T⟩)<|kN O O (zD O zCg O)<|kN O O (zN O qH O (K 1 O) O)<|kN O O (qF O ok27 (zCq (⟨p.Sizes,p.Where,p.Params,p.Defs.take k,p.Outs⟩:Pg) (namesD d) d.Body (hP.take k) (by rw [namesD,List.length_append,List.length_map,List.length_map];omega) hB) ⟨G,O,G,O,G,O,T⟩)<|kN O O (qU O O)<|kN O O (yN O O O)<|zJc O O (yG O O O)<|zMq<|tdq_nil<|zBj<|zBj<|zBj<|zBj<|zBj<|zBj<|zBj<|zBj<|tdf_u<|zJd (wN (yA O zr31))<|tdf_nil<|zHp ?_
     rintro _ _ ⟨b3,rfl,rfl⟩
     refine zKe ?_
     refine ⟨_,kT O sz31 O O O (zDo 0 O O),(by rintro _ _ ⟨rfl,rfl⟩;exact ⟨[_],rfl⟩),?_⟩
     rintro _ _ ⟨rfl,rfl⟩
     refine F O<|H<|U<|B O<|F O<|yP O<|H<|g O (fun c5=>?_) (fun c5=>?_)
     ·try simp only [I] at c5
      refine B O<|F O<|F O<|H<|zT _ (Weak.mem [false,false,false,true,true] O)<|W<|R O ?_
      exact ⟨by rw [hX,if_neg (show ¬(typeT ⟨p.Sizes,p.Params,p.Defs.take k⟩ (namesD d) d.Body).2=0 from c5)];rfl,O⟩
     ·try simp only [I] at c5
      rw [if_pos (show (typeT ⟨p.Sizes,p.Params,p.Defs.take k⟩ (namesD d) d.Body).2=0 from c5)] at hX
      refine zJ<|U<|B O<|zL yF (K 0 O) O<|zG O zHz<|zL yF (K 2 O) O<|qB O (zCj O fl31 O O O)<|H<|g O (fun c6=>?_) (fun c6=>?_)
      ·refine B O<|F O<|H<|zT _ (Weak.mem [false,false,false,true,true] O)<|W<|R O ?_
       exact ⟨by rw [hX,if_neg (show ¬(typeT (⟨p.Sizes,p.Params,p.Defs.take k⟩:En) (namesD d) d.Body).1=d.T from zIz c6)],O⟩
      ·refine zJ<|B O<|F O<|H<|zT _ (Weak.mem [false,false,false,true,true] O)<|W<|R O ?_
       exact ⟨by rw [hX,if_pos (show (typeT (⟨p.Sizes,p.Params,p.Defs.take k⟩:En) (namesD d) d.Body).1=d.T from zGx c6)],O⟩
theorem zFv (p:Pg) (hP:p.Ok):
    Pur cfg 41 [vPg p] (.tup [vI (validM p).1,vI (validM p).2]):=by
 refine zV Tryz.func41 O Tryz.ntmps41 Tryz.results41 O ?_
 intro z hz
 have hps:=hP.sizes
 have hpw:=hP.wh
 have hpp:=hP.params
 have hpd:=hP.defs
 have hpo:=hP.outs
 refine B O<|zW O O (qJ O O) ?_
 rintro _ _ ⟨b1,rfl,rfl⟩
 refine F O<|F O<|H<|U<|B O<|zL kC (K 0 O) O<|qK O ok102 (program_limits p) ⟨G,O,T⟩<|wI O<|H<|g O (fun c1=>?_) (fun c1=>?_)
 ·have hl:¬limitOk p:=by simpa using c1
  refine B O<|F O<|F O<|H<|W<|fin2 (o O) (o O) ?_
  rw [validM_2 hl]
 ·have hl:limitOk p:=by simpa using c1
  have ho64:p.Outs.length<=64:=hl.2.2.2.1
  refine zJ<|B O<|zL kC (K 0 O) O<|zW O O (zOg vI O O) ?_
  rintro _ _ ⟨b2,rfl,rfl⟩
  refine kA O zr138 pl138<|zW O O (qJ O O) ?_
  rintro _ _ ⟨b3,rfl,rfl⟩
  refine F O<|H<|U<|B O<|zG O zBy<|zK wT (K 2 O) O<|zZ O el22<|F O<|H<|zP<|zT ⟨[(29,.c _),(1,.c _),(4,.c _),(27,.c _),(28,.c _)],[_,_,_]⟩ (Weak.mk [true,true,true] ⟨G,G,G,G,G,T⟩ O)<|qG 1 2 O O (Nat) (fun k=>[(29,vI k)]) (fun k=>[pRow 138 b3 b2 p,E.blk b2 (MapR vI (tabV [] (p.Sizes.take k) 1))]) (fun k=>k<=p.Sizes.length/\(sizesM [] p.Sizes=sizesM (tabV [] (p.Sizes.take k) 1) (p.Sizes.drop k))) (fun k=>p.Sizes.length-k) ⟨0,⟨by omega,O⟩,Weak.mk [true,true,true] ⟨G,G,G,G,G,T⟩ O⟩ ?_
  rintro k ⟨hk,hp⟩
  refine B O<|yB O<|H<|U<|g O (fun c2=>?_) (fun c2=>?_)
  ·try simp only [I] at c2
   obtain ⟨x,hx⟩:=qP p.Sizes k (by omega)
   refine zJ<|U<|zP<|B O<|qE O el22 (by omega) (Q (by assumption))<|zK i qA O<|F O<|H<|B O<|F O<|F O<|qB O (yY [0,0] O ok103 (zGs b3 b2 p (tabV [] (p.Sizes.take k) 1) x 1) ⟨G,O,G,O,G,O,T⟩ O)<|F O<|H<|B O<|F O<|yP O<|H<|g O (fun c3=>?_) (fun c3=>?_)
   ·try simp only [I] at c3
    refine B O<|F O<|F O<|F O<|H<|W<|fin2 (o O) (o O) ?_
    rw [validM_s hl (by rw [hp,sizesM_no hx c3];exact c3),hp,sizesM_no hx c3]
   ·try simp only [I] at c3
    rw [zLa c3]
    refine zJ<|zU O<|qL O ⟨by omega,by omega⟩<|F O<|H ?_
    refine ⟨k+1,⟨by omega,by rw [hp,sizesM_next hx c3,zJf hx]⟩,(by omega),Weak.mk [true,true,true] ⟨G,G,G,G,G,T⟩ (by show _=[pRow 138 b3 b2 p,E.blk b2 (MapR vI (tabV [] (p.Sizes.take (k+1)) 1))]++_;rw [zJf hx];rfl)⟩
  ·try simp only [I] at c2
   rw [qY (l:=p.Sizes) (k:=k) (by omega)]
   rw [wK (l:=p.Sizes) (k:=k) (by omega)] at hp
   have hs0:sizesM [] p.Sizes=0:=hp
   refine qM<|U<|B O<|zG O zDz<|zK zKv (K 2 O) O<|zZ O el23<|F O<|H<|zP<|zT ⟨[(43,.c _),(1,.c _),(4,.c _),(41,.c _),(42,.c _)],[_,_,_]⟩ (Weak.mk [true,true,true] ⟨G,G,G,G,G,T⟩ O)<|qG 1 0 O O (Nat) (fun k=>[(43,vI k)]) (fun k=>[]) (fun k=>k<=p.Where.length/\(whereM (tabV [] p.Sizes 1) p.Where=whereM (tabV [] p.Sizes 1) (p.Where.drop k))) (fun k=>p.Where.length-k) ⟨0,⟨by omega,O⟩,Weak.mk [true,true,true] ⟨G,G,G,G,G,T⟩ O⟩ ?_
   rintro k ⟨hk,hp⟩
   refine B O<|yB O<|H<|U<|g O (fun c4=>?_) (fun c4=>?_)
   ·try simp only [I] at c4
    obtain ⟨x,hx⟩:=qP p.Where k (by omega)
    refine zJ<|U<|zP<|B O<|qE O el23 (by omega) (Q (by assumption))<|zL agg93 qA O<|zW O O (qI [none,some 2,none] O zr93 O) ?_
    rintro _ _ ⟨b4,rfl,rfl⟩
    refine N 0 sz93 O<|H<|B O<|F O<|zL agg93 (K 0 O) O<|qB O (yY [1,1] O ok104 (zJz b3 b2 p (tabV [] p.Sizes 1) x (hP.whs x (qD hx))) ⟨G,O,G,O,T⟩ O)<|F O<|H<|B O<|F O<|yP O<|H<|g O (fun c5=>?_) (fun c5=>?_)
    ·try simp only [I] at c5
     refine B O<|F O<|F O<|F O<|H<|W<|fin2 (o O) (o O) ?_
     rw [validM_w hl hs0 (by rw [hp,whereM_no hx c5];exact c5),hp,whereM_no hx c5]
    ·try simp only [I] at c5
     refine zJ<|zU O<|qL O ⟨by omega,by omega⟩<|F O<|H ?_
     refine ⟨k+1,⟨by omega,hp.trans (whereM_next hx c5)⟩,(by omega),Weak.mk [false,true,true,true] ⟨G,G,G,G,G,T⟩ O⟩
   ·try simp only [I] at c4
    rw [wK (l:=p.Where) (k:=k) (by omega)] at hp
    have hw0:whereM (tabV [] p.Sizes 1) p.Where=0:=hp
    have hV:=validM_p hl hs0 hw0
    refine qM<|B O<|F O<|H<|U<|B O<|zG O kM<|zK zAl (K 2 O) O<|zZ O el24<|F O<|H<|zP<|zT ⟨[(57,.c _),(11,.c _),(1,.c _),(4,.c _),(55,.c _),(56,.c _)],[_,_,_]⟩ (Weak.mk [true,true,true] ⟨G,G,G,G,G,G,T⟩ O)<|qG 2 2 O O (Nat) (fun k=>[(57,vI k),(11,vI (2+(k:Int)))]) (fun k=>[pRow 138 b3 b2 p,E.blk b2 (MapR vI (tabP (tabV [] p.Sizes 1) (p.Params.take k)))]) (fun k=>k<=p.Params.length/\(validM p=paramsM p (2+(k:Int)) (tabP (tabV [] p.Sizes 1) (p.Params.take k)) (p.Params.drop k))) (fun k=>p.Params.length-k) ⟨0,⟨by omega,hV⟩,Weak.mk [true,true,true] ⟨G,VLe.of_eq (O),G,G,G,G,T⟩ O⟩ ?_
    rintro k ⟨hk,hp⟩
    refine B O<|yB O<|H<|U<|g O (fun c6=>?_) (fun c6=>?_)
    ·try simp only [I] at c6
     obtain ⟨x,hx⟩:=qP p.Params k (by omega)
     refine zJ<|U<|zP<|B O<|qE O el24 (by omega) (Q (by assumption))<|zL zMm qA O<|zW O O (qI [none,none,none,none,none,none,some 2] O zr65 O) ?_
     rintro _ _ ⟨b5,rfl,rfl⟩
     refine N 0 sz65 O<|H<|U<|B O<|F O<|zL zMm (K 0 O) O<|qB O (yY [1,1] O ok105 (checker_param b3 b2 p (tabP (tabV [] p.Sizes 1) (p.Params.take k)) x (hP.ps x (qD hx)).1 (hP.ps x (qD hx)).2) ⟨G,O,G,O,T⟩ O)<|F O<|H<|B O<|F O<|yP O<|H<|g O (fun c7=>?_) (fun c7=>?_)
     ·try simp only [I] at c7
      refine B O<|F O<|F O<|F O<|F O<|H<|W<|fin2 (o O) (o O) ?_
      rw [hp,paramsM_no hx c7]
     ·try simp only [I] at c7
      rw [param_map c7]
      refine zJ<|zU O<|F O<|qL O ⟨by omega,by omega⟩<|F O<|H<|zU O<|qL O ⟨by omega,by omega⟩<|F O<|H ?_
      refine ⟨k+1,⟨by omega,by rw [hp,paramsM_next hx c7,tabP_next hx];congr 1<;>first|omega|rfl⟩,(by omega),Weak.mk [false,true,true,true] ⟨G,VLe.of_eq (congrArg vI (by omega)),G,G,G,G,T⟩ (by show _=[pRow 138 b3 b2 p,E.blk b2 (MapR vI (tabP (tabV [] p.Sizes 1) (p.Params.take (k+1))))]++_;rw [tabP_next hx];rfl)⟩
    ·try simp only [I] at c6
     rw [qY (l:=p.Params) (k:=k) (by omega)]
     rw [wK (l:=p.Params) (k:=k) (by omega),qY (l:=p.Params) (k:=k) (by omega),paramsM] at hp
     refine qM<|U<|B O<|zG O kE<|zK zAc (K 2 O) O<|zZ O el25<|F O<|H<|zP<|zT ⟨[(74,.c _),(11,.c _),(1,.c _),(4,.c _),(73,.c _)],[_,_,_]⟩ (Weak.mk [true,true,true] ⟨G,G,G,G,G,T⟩ O) ?_
     refine qG 2 2 O O (Nat) (fun k=>[(74,vI k),(11,vI (2+(p.Params.length:Int)+(k:Int)))]) (fun k=>[pRow 138 b3 b2 p,E.blk b2 (MapR vI (tabD (tabP (tabV [] p.Sizes 1) p.Params) (p.Defs.take k)))]) (fun k=>k<=p.Defs.length/\(validM p=defsM p (2+(p.Params.length:Int)+(k:Int)) (tabD (tabP (tabV [] p.Sizes 1) p.Params) (p.Defs.take k)) (p.Defs.take k) (p.Defs.drop k))) (fun k=>p.Defs.length-k) ⟨0,⟨by omega,by rw [hp];congr 1<;>first|omega|rfl⟩,Weak.mk [true,true,true] ⟨G,VLe.of_eq (congrArg vI (by omega)),G,G,G,T⟩ O⟩ ?_
     rintro k ⟨hk,hq⟩
     refine B O<|yB O<|H<|U<|g O (fun c8=>?_) (fun c8=>?_)
     ·try simp only [I] at c8
      obtain ⟨x,hx⟩:=qP p.Defs k (by omega)
      refine zJ<|U<|zP<|B O<|F O<|F O<|H<|U<|B O<|F O<|F O<|qB O (yY [0,0] O ok106 (checker_def b3 b2 p (tabD (tabP (tabV [] p.Sizes 1) p.Params) (p.Defs.take k)) hP k x hx) ⟨G,O,G,O,T⟩ O)<|F O<|H<|B O<|F O<|yP O<|H<|g O (fun c9=>?_) (fun c9=>?_)
      ·try simp only [I] at c9
       refine B O<|F O<|F O<|F O<|F O<|H<|W<|fin2 (o O) (o O) ?_
       rw [hq,defsM_no hx c9]
      ·try simp only [I] at c9
       rw [def_map c9]
       refine zJ<|zU O<|F O<|qL O ⟨by omega,by omega⟩<|F O<|H<|zU O<|qL O ⟨by omega,by omega⟩<|F O<|H ?_
       refine ⟨k+1,⟨by omega,by rw [hq,defsM_next hx c9,tabD_next hx];congr 1<;>first|omega|rfl⟩,(by omega),Weak.mk [true,true,true] ⟨G,VLe.of_eq (congrArg vI (by omega)),G,G,G,T⟩ (by show _=[pRow 138 b3 b2 p,E.blk b2 (MapR vI (tabD (tabP (tabV [] p.Sizes 1) p.Params) (p.Defs.take (k+1))))]++_;rw [tabD_next hx];rfl)⟩
     ·try simp only [I] at c8
      rw [qY (l:=p.Defs) (k:=k) (by omega)]
      rw [wK (l:=p.Defs) (k:=k) (by omega),qY (l:=p.Defs) (k:=k) (by omega),defsM] at hq
      refine qM<|U<|B O<|zG O zAt<|zK wT (K 2 O) O<|zZ O el22<|F O<|H<|zP<|zT ⟨[(90,.c _),(11,.c _),(1,.c _),(4,.c _),(88,.c _),(89,.c _)],[_,_,_]⟩ (Weak.mk [true,true,true] ⟨G,G,G,G,G,G,T⟩ O) ?_
      refine qG 2 0 O O (Nat) (fun k=>[(90,vI k),(11,vI (2+(p.Params.length:Int)+(p.Defs.length:Int)+(k:Int)))]) (fun k=>[]) (fun k=>k<=p.Outs.length/\(validM p=outsM (tabD (tabP (tabV [] p.Sizes 1) p.Params) p.Defs) (2+(p.Params.length:Int)+(p.Defs.length:Int)+(k:Int)) (p.Outs.take k) (p.Outs.drop k))) (fun k=>p.Outs.length-k) ⟨0,⟨by omega,by rw [hq];congr 1<;>first|omega|rfl⟩,Weak.mk [true,true,true] ⟨G,VLe.of_eq (congrArg vI (by omega)),G,G,G,G,T⟩ O⟩ ?_
      rintro k ⟨hk,ho⟩
      refine B O<|yB O<|H<|U<|g O (fun c10=>?_) (fun c10=>?_)
      ·try simp only [I] at c10
       obtain ⟨x,hx⟩:=qP p.Outs k (by omega)
       refine zJ<|U<|zP<|B O<|F O<|qE O el22 (by omega) (Q (by assumption))<|zK i qA O<|F O<|F O<|H<|U<|zP<|B O<|F O<|qB O (yW O O)<|zG O zPf<|zK zLy (K 0 O) O<|F O<|qB O (zDm 1 (0:Int) O sm111 O O O (fun _ _=>CRep.lit _ O))<|yP O<|F O<|H<|g O (fun c11=>?_) (fun c11=>?_)
       ·try simp only [I] at c11
        refine B O<|F O<|F O<|F O<|H<|W<|fin2 (o O) (o O) ?_
        rw [ho,outsM_9 hx c11]
       ·try simp only [I] at c11
        refine B O<|zG O zAt<|zK wT (K 2 O) O<|F O<|qB O (zAo O el22 O O (by omega))<|F O<|qK O ok46 (kK (p.Outs.take k) x (by rw [List.length_take];omega)) ⟨G,O,G,O,T⟩<|F O<|H<|g O (fun c12=>?_) (fun c12=>?_)
        ·try simp only [I] at c12
         refine B O<|F O<|F O<|F O<|H<|W<|fin2 (o O) (o O) ?_
         rw [ho,outsM_8 hx c11 c12]
        ·try simp only [I] at c12
         refine zJ<|zU O<|F O<|qL O ⟨by omega,by omega⟩<|F O<|H<|zU O<|qL O ⟨by omega,by omega⟩<|F O<|H ?_
         refine ⟨k+1,⟨by omega,by rw [ho,outsM_next hx c11 c12];congr 1<;>first|omega|rfl⟩,(by omega),Weak.mk [true,true,true] ⟨G,VLe.of_eq (congrArg vI (by omega)),G,G,G,G,T⟩ O⟩
      ·try simp only [I] at c10
       refine qM<|B O<|F O<|F O<|H<|W<|fin2 (o O) (o O) ?_
       rw [ho,wK (by omega)];rfl
end Go.W
