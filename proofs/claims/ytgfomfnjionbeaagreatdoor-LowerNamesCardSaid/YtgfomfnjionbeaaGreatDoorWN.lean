/-
  Walks: what functions of the program compute. Printed by wip/gen/mk2.py.
  Conditions: none.
-/
import Derived.Test.YtgfomfnjionbeaaGreatDoorWM
import Derived.Test.YtgfomfnjionbeaaGreatDoorPlain
import Derived.Test.YtgfomfnjionbeaaGreatDoorEngZ
set_option linter.unusedSimpArgs false
set_option linter.unusedVariables false
set_option maxRecDepth 10000
namespace Go.W
open Go Go.Eng Go.Proofs Go.L41 Go.Br
attribute [local irreducible] AWP RWP TD finQ
theorem fd70_5:fieldT Tryz.prog 70 5=some (9,62):=by kernel_rfl
theorem fd119_0:fieldT Tryz.prog 119 0=some (0,30):=by kernel_rfl
theorem ok58:callOk Tryz.prog 58=true:=by kernel_rfl
theorem ok60:callOk Tryz.prog 60=true:=by kernel_rfl
theorem ok61:callOk Tryz.prog 61=true:=by kernel_rfl
theorem ok62:callOk Tryz.prog 62=true:=by kernel_rfl
theorem ok115:callOk Tryz.prog 115=true:=by kernel_rfl
theorem ok116:callOk Tryz.prog 116=true:=by kernel_rfl
theorem ok117:callOk Tryz.prog 117=true:=by kernel_rfl
theorem ok118:callOk Tryz.prog 118=true:=by kernel_rfl
theorem pl119:placesT Tryz.prog 119=some [(0,5),(5,1)]:=by kernel_rfl
theorem sz28:(Tryz.prog.info? 28).map (·.size)=some 1:=by kernel_rfl
theorem sz30:(Tryz.prog.info? 30).map (·.size)=some 5:=by kernel_rfl
theorem sz70:(Tryz.prog.info? 70).map (·.size)=some 22:=by kernel_rfl
theorem sz123:(Tryz.prog.info? 123).map (·.size)=some 3:=by kernel_rfl
theorem zr30:zeroT Tryz.prog 30=some [(Value.slice none 0 0),(Value.slice none 0 0),(Value.slice none 0 0),(Value.slice none 0 0),(Value.slice none 0 0)]:=by kernel_rfl
theorem zr70:zeroT Tryz.prog 70=some [(Value.string (ByteArray.mk #[])),(Value.int IntKind.i64 0),(Value.int IntKind.i64 0),(Value.int IntKind.i64 0),(Value.int IntKind.i64 0),(Value.int IntKind.i64 0),(Value.slice none 0 0),(Value.slice none 0 0),(Value.int IntKind.i64 0),(Value.int IntKind.i64 0),(Value.string (ByteArray.mk #[])),(Value.int IntKind.i64 0),(Value.int IntKind.i64 0),(Value.int IntKind.i64 0),(Value.int IntKind.i64 0),(Value.int IntKind.i64 0),(Value.int IntKind.i64 0),(Value.int IntKind.i64 0),(Value.int IntKind.i64 0),(Value.slice none 0 0),(Value.slice none 0 0),(Value.slice none 0 0)]:=by kernel_rfl
theorem zr119:zeroT Tryz.prog 119=some [(Value.slice none 0 0),(Value.slice none 0 0),(Value.slice none 0 0),(Value.slice none 0 0),(Value.slice none 0 0),(Value.map none)]:=by kernel_rfl
theorem zr123:zeroT Tryz.prog 123=some [(Value.int IntKind.i64 0),(Value.slice none 0 0),(Value.bool false)]:=by kernel_rfl
theorem checker_def (b mb:Nat) (p:Pg) (m:Kn) (hP:p.Ok) (k:Nat) (d:Df) (hd:p.Defs[k]? =some d):
    Con cfg 62 [vP b,vI k] (ckE b mb p m) fun r μ'=>r=vI (defM m ⟨p.Sizes,p.Params,p.Defs.take k⟩ d)/\μ'=ckE b mb p (nameMap m d.Name 2):=by
 refine zW Tryz.func62 O Tryz.ntmps62 Tryz.results62 O ?_
 intro z hz
 obtain ⟨hD,hR,hA,hA2,hB⟩:=hP.ds d (qC hd)
 have hlen:=len_of_get hd
 have hpd:=hP.defs
 refine Y O<|G O<|zA<|Y O<|G O<|zN O<|zD O fd119_0<|zD O zIa<|zI one28 (J 0 O) O<|G O<|qD O el28 (by omega) (getm (by assumption))<|zM agg70 qH O<|zZ O O (qF [none,none,none,none,none,none,some 3,some 3,none,none,none,none,none,none,none,none,none,none,none,some 2,some 4,some 13] O zr70 O) ?_
 rintro _ _ ⟨b1,rfl,rfl⟩
 refine D 0 sz70 O<|zA<|zH<|Y O<|G O<|zD O zHw<|zI one9 (J 0 O) O<|zR O (yQ [1,1] O ok59 (zIh b mb p m d.Name 2) ⟨zB,O,zB,O,zB,O,T⟩ O)<|G O<|zA<|Y O<|G O<|yM O<|zA<|zE O (fun c1=>?_) (fun c1=>?_)
 ·try simp only [sx] at c1
  refine Y O<|G O<|G O<|zA<|zU _ (Weak.mem [false,true,true] O)<|zG<|zV O ?_
  exact ⟨by rw [def_1 c1],O⟩
 ·try simp only [sx] at c1
  refine zF<|zH<|Y O<|zD O fd70_1<|zM qZ (J 0 O) O<|zD O zKu<|zI zDe (J 0 O) O<|qB O el68<|zD O zEm<|zI zDe (J 0 O) O<|qB O el68<|zR O (qS O el46 zr3 O O O O)<|qK O ok114 (zGm d.T [(d.Dims.length:Int),(d.Red.length:Int)] _ O (by simp)) ⟨zB,O,zB,O,T⟩<|G O<|zA<|Y O<|G O<|yM O<|zA<|zE O (fun c2=>?_) (fun c2=>?_)
  ·try simp only [sx] at c2
   refine Y O<|G O<|G O<|zA<|zU _ (Weak.mem [false,true,true] O)<|zG<|zV O ?_
   exact ⟨by rw [def_2 c1 c2],O⟩
  ·try simp only [sx] at c2
   have hX:=def_ok (n:=⟨p.Sizes,p.Params,p.Defs.take k⟩) c1 c2
   refine zF<|zH<|Y O<|G O<|zM agg70 (J 0 O) O<|zR O (yQ [1,1] O ok115 (checker_axes b mb p (nameMap m d.Name 2) d hD hR hA hA2) ⟨zB,O,zB,O,T⟩ O)<|G O<|zA<|Y O<|G O<|yM O<|zA<|zE O (fun c3=>?_) (fun c3=>?_)
   ·try simp only [sx] at c3
    refine Y O<|G O<|G O<|zA<|zU _ (Weak.mem [false,true,true] O)<|zG<|zV O ?_
    exact ⟨by rw [hX,if_neg c3],O⟩
   ·try simp only [sx] at c3
    rw [if_pos c3] at hX
    refine zF<|zH<|Y O<|zM agg70 (J 0 O) O<|qK O ok116 (program_fold d) ⟨zB,O,T⟩<|G O<|zA<|Y O<|G O<|yM O<|zA<|zE O (fun c4=>?_) (fun c4=>?_)
    ·try simp only [sx] at c4
     refine Y O<|G O<|G O<|zA<|zU _ (Weak.mem [false,true,true] O)<|zG<|zV O ?_
     exact ⟨by rw [hX,if_neg c4],O⟩
    ·try simp only [sx] at c4
     rw [if_pos c4] at hX
     unfold tyErrD at hX
     refine zF<|Y O<|G O<|zN O<|zD O fd119_0<|zM zEe (J 1 O) O<|zZ O O (qF [some 1,some 3,some 7,some 22,some 1] O zr30 O) ?_
     rintro _ _ ⟨b2,rfl,rfl⟩
     refine D 0 sz30 O<|zA<|Y O<|G O<|zN O<|zD O fd119_0<|zD O zIa<|zI one28 (J 2 O) O<|G O<|zR O (zIe O el28 O O (by omega))<|zD O zIa<|D 0 sz28 O<|zA<|zH<|awp_draw_p 10 [.q,.q,.q,.q,.q,.q,.q,.q,.u,.f]  mixed (by kernel_rfl) O O O<|kS O O (qA O zEe O (J 0 O) O)<|kS O O (qA O agg70 O (J 1 O) O)<|kS O O (qR O ok118 (OwnR.pur (zKd d hD hR)) ⟨zB,O,T⟩)<|kS O O (zJ O fd70_5 O)<|kS O O (qA O kD O (J 1 O) O)<|kS O O (qR O ok117 (program_TypeOf (⟨p.Sizes,p.Where,p.Params,p.Defs.take k,p.Outs⟩:Pg) (namesD d) d.Body (hP.take k) (by rw [namesD,List.length_append,List.length_map,List.length_map];omega) hB) ⟨zB,O,zB,O,zB,O,T⟩)<|kS O O (yR O O)<|kS O O (yA O O O)<|zJw O O (kR O O O)<|zNx<|tdq_nil<|zAy<|zAy<|zAy<|zAy<|zAy<|zAy<|zAy<|zAy<|tdf_u<|zJx (zAh (qX O zr56))<|tdf_nil<|zIr ?_
     rintro _ _ ⟨b3,rfl,rfl⟩
     refine zLm ?_
     refine ⟨_,yT O v O O O (zCx 0 O O),(by rintro _ _ ⟨rfl,rfl⟩;exact ⟨[_],rfl⟩),?_⟩
     rintro _ _ ⟨rfl,rfl⟩
     refine G O<|zA<|zH<|Y O<|G O<|yM O<|zA<|zE O (fun c5=>?_) (fun c5=>?_)
     ·try simp only [sx] at c5
      refine Y O<|G O<|G O<|zA<|zU _ (Weak.mem [false,false,false,true,true] O)<|zG<|zV O ?_
      exact ⟨by rw [hX,if_neg (show ¬(typeT ⟨p.Sizes,p.Params,p.Defs.take k⟩ (namesD d) d.Body).2=0 from c5)];rfl,O⟩
     ·try simp only [sx] at c5
      rw [if_pos (show (typeT ⟨p.Sizes,p.Params,p.Defs.take k⟩ (namesD d) d.Body).2=0 from c5)] at hX
      refine zF<|zH<|Y O<|zM qZ (J 0 O) O<|zD O fd70_1<|zM qZ (J 2 O) O<|zR O (zCi O fl56 O O O)<|zA<|zE O (fun c6=>?_) (fun c6=>?_)
      ·refine Y O<|G O<|zA<|zU _ (Weak.mem [false,false,false,true,true] O)<|zG<|zV O ?_
       exact ⟨by rw [hX,if_neg (show ¬(typeT (⟨p.Sizes,p.Params,p.Defs.take k⟩:En) (namesD d) d.Body).1=d.T from zEi c6)],O⟩
      ·refine zF<|Y O<|G O<|zA<|zU _ (Weak.mem [false,false,false,true,true] O)<|zG<|zV O ?_
       exact ⟨by rw [hX,if_pos (show (typeT (⟨p.Sizes,p.Params,p.Defs.take k⟩:En) (namesD d) d.Body).1=d.T from zEj c6)],O⟩
theorem zDd (p:Pg) (hP:p.Ok):
    Pur cfg 22 [vPg p] (.tup [vI (validM p).1,vI (validM p).2]):=by
 refine zW Tryz.func22 O Tryz.ntmps22 Tryz.results22 O ?_
 intro z hz
 have hps:=hP.sizes
 have hpw:=hP.wh
 have hpp:=hP.params
 have hpd:=hP.defs
 have hpo:=hP.outs
 refine Y O<|zZ O O (qO O O) ?_
 rintro _ _ ⟨b1,rfl,rfl⟩
 refine G O<|G O<|zA<|zH<|Y O<|zM zEe (J 0 O) O<|qK O ok58 (program_limits p) ⟨zB,O,T⟩<|wG O<|zA<|zE O (fun c1=>?_) (fun c1=>?_)
 ·have hl:¬limitOk p:=by simpa using c1
  refine Y O<|G O<|G O<|zA<|zG<|fin2 (N O) (N O) ?_
  rw [validM_2 hl]
 ·have hl:limitOk p:=by simpa using c1
  have ho64:p.Outs.length<=64:=hl.2.2.2.1
  refine zF<|Y O<|zM zEe (J 0 O) O<|zZ O O (zKe vI O O) ?_
  rintro _ _ ⟨b2,rfl,rfl⟩
  refine yF O zr119 pl119<|zZ O O (qO O O) ?_
  rintro _ _ ⟨b3,rfl,rfl⟩
  refine G O<|zA<|zH<|Y O<|zD O fd30_0<|zI zGt (J 2 O) O<|qB O el25<|G O<|zA<|zT<|zU ⟨[(29,.c _),(1,.c _),(4,.c _),(27,.c _),(28,.c _)],[_,_,_]⟩ (Weak.mk [true,true,true] ⟨zB,zB,zB,zB,zB,T⟩ O)<|qJ 1 2 O O (Nat) (fun k=>[(29,vI k)]) (fun k=>[pRow 119 b3 b2 p,E.blk b2 (MapR vI (tabV [] (p.Sizes.take k) 1))]) (fun k=>k<=p.Sizes.length/\(sizesM [] p.Sizes=sizesM (tabV [] (p.Sizes.take k) 1) (p.Sizes.drop k))) (fun k=>p.Sizes.length-k) ⟨0,⟨by omega,O⟩,Weak.mk [true,true,true] ⟨zB,zB,zB,zB,zB,T⟩ O⟩ ?_
  rintro k ⟨hk,hp⟩
  refine Y O<|yB O<|zA<|zH<|zE O (fun c2=>?_) (fun c2=>?_)
  ·try simp only [sx] at c2
   obtain ⟨x,hx⟩:=yD p.Sizes k (by omega)
   refine zF<|zH<|zT<|Y O<|qD O el25 (by omega) (getm (by assumption))<|zI one9 qH O<|G O<|zA<|Y O<|G O<|G O<|zR O (yQ [0,0] O ok59 (zIh b3 b2 p (tabV [] (p.Sizes.take k) 1) x 1) ⟨zB,O,zB,O,zB,O,T⟩ O)<|G O<|zA<|Y O<|G O<|yM O<|zA<|zE O (fun c3=>?_) (fun c3=>?_)
   ·try simp only [sx] at c3
    refine Y O<|G O<|G O<|G O<|zA<|zG<|fin2 (N O) (N O) ?_
    rw [validM_s hl (by rw [hp,sizesM_no hx c3];exact c3),hp,sizesM_no hx c3]
   ·try simp only [sx] at c3
    rw [zMf c3]
    refine zF<|zP O<|qM O ⟨by omega,by omega⟩<|G O<|zA ?_
    refine ⟨k+1,⟨by omega,by rw [hp,sizesM_next hx c3,zJy hx]⟩,(by omega),Weak.mk [true,true,true] ⟨zB,zB,zB,zB,zB,T⟩ (by show _=[pRow 119 b3 b2 p,E.blk b2 (MapR vI (tabV [] (p.Sizes.take (k+1)) 1))]++_;rw [zJy hx];rfl)⟩
  ·try simp only [sx] at c2
   rw [yC (l:=p.Sizes) (k:=k) (by omega)]
   rw [zCv (l:=p.Sizes) (k:=k) (by omega)] at hp
   have hs0:sizesM [] p.Sizes=0:=hp
   refine qP<|zH<|Y O<|zD O fd30_1<|zI one26 (J 2 O) O<|qB O el26<|G O<|zA<|zT<|zU ⟨[(43,.c _),(1,.c _),(4,.c _),(41,.c _),(42,.c _)],[_,_,_]⟩ (Weak.mk [true,true,true] ⟨zB,zB,zB,zB,zB,T⟩ O)<|qJ 1 0 O O (Nat) (fun k=>[(43,vI k)]) (fun k=>[]) (fun k=>k<=p.Where.length/\(whereM (tabV [] p.Sizes 1) p.Where=whereM (tabV [] p.Sizes 1) (p.Where.drop k))) (fun k=>p.Where.length-k) ⟨0,⟨by omega,O⟩,Weak.mk [true,true,true] ⟨zB,zB,zB,zB,zB,T⟩ O⟩ ?_
   rintro k ⟨hk,hp⟩
   refine Y O<|yB O<|zA<|zH<|zE O (fun c4=>?_) (fun c4=>?_)
   ·try simp only [sx] at c4
    obtain ⟨x,hx⟩:=yD p.Where k (by omega)
    refine zF<|zH<|zT<|Y O<|qD O el26 (by omega) (getm (by assumption))<|zM agg123 qH O<|zZ O O (qF [none,some 2,none] O zr123 O) ?_
    rintro _ _ ⟨b4,rfl,rfl⟩
    refine D 0 sz123 O<|zA<|Y O<|G O<|zM agg123 (J 0 O) O<|zR O (yQ [1,1] O ok60 (zLj b3 b2 p (tabV [] p.Sizes 1) x (hP.whs x (qC hx))) ⟨zB,O,zB,O,T⟩ O)<|G O<|zA<|Y O<|G O<|yM O<|zA<|zE O (fun c5=>?_) (fun c5=>?_)
    ·try simp only [sx] at c5
     refine Y O<|G O<|G O<|G O<|zA<|zG<|fin2 (N O) (N O) ?_
     rw [validM_w hl hs0 (by rw [hp,whereM_no hx c5];exact c5),hp,whereM_no hx c5]
    ·try simp only [sx] at c5
     refine zF<|zP O<|qM O ⟨by omega,by omega⟩<|G O<|zA ?_
     refine ⟨k+1,⟨by omega,hp.trans (whereM_next hx c5)⟩,(by omega),Weak.mk [false,true,true,true] ⟨zB,zB,zB,zB,zB,T⟩ O⟩
   ·try simp only [sx] at c4
    rw [zCv (l:=p.Where) (k:=k) (by omega)] at hp
    have hw0:whereM (tabV [] p.Sizes 1) p.Where=0:=hp
    have hV:=validM_p hl hs0 hw0
    refine qP<|Y O<|G O<|zA<|zH<|Y O<|zD O fd30_2<|zI one27 (J 2 O) O<|qB O el27<|G O<|zA<|zT<|zU ⟨[(57,.c _),(11,.c _),(1,.c _),(4,.c _),(55,.c _),(56,.c _)],[_,_,_]⟩ (Weak.mk [true,true,true] ⟨zB,zB,zB,zB,zB,zB,T⟩ O)<|qJ 2 2 O O (Nat) (fun k=>[(57,vI k),(11,vI (2+(k:Int)))]) (fun k=>[pRow 119 b3 b2 p,E.blk b2 (MapR vI (tabP (tabV [] p.Sizes 1) (p.Params.take k)))]) (fun k=>k<=p.Params.length/\(validM p=paramsM p (2+(k:Int)) (tabP (tabV [] p.Sizes 1) (p.Params.take k)) (p.Params.drop k))) (fun k=>p.Params.length-k) ⟨0,⟨by omega,hV⟩,Weak.mk [true,true,true] ⟨zB,VLe.of_eq (O),zB,zB,zB,zB,T⟩ O⟩ ?_
    rintro k ⟨hk,hp⟩
    refine Y O<|yB O<|zA<|zH<|zE O (fun c6=>?_) (fun c6=>?_)
    ·try simp only [sx] at c6
     obtain ⟨x,hx⟩:=yD p.Params k (by omega)
     refine zF<|zH<|zT<|Y O<|qD O el27 (by omega) (getm (by assumption))<|zM agg74 qH O<|zZ O O (qF [none,none,none,none,none,none,some 2] O zr74 O) ?_
     rintro _ _ ⟨b5,rfl,rfl⟩
     refine D 0 sz74 O<|zA<|zH<|Y O<|G O<|zM agg74 (J 0 O) O<|zR O (yQ [1,1] O ok61 (checker_param b3 b2 p (tabP (tabV [] p.Sizes 1) (p.Params.take k)) x (hP.ps x (qC hx)).1 (hP.ps x (qC hx)).2) ⟨zB,O,zB,O,T⟩ O)<|G O<|zA<|Y O<|G O<|yM O<|zA<|zE O (fun c7=>?_) (fun c7=>?_)
     ·try simp only [sx] at c7
      refine Y O<|G O<|G O<|G O<|G O<|zA<|zG<|fin2 (N O) (N O) ?_
      rw [hp,paramsM_no hx c7]
     ·try simp only [sx] at c7
      rw [param_map c7]
      refine zF<|zP O<|G O<|qM O ⟨by omega,by omega⟩<|G O<|zA<|zP O<|qM O ⟨by omega,by omega⟩<|G O<|zA ?_
      refine ⟨k+1,⟨by omega,by rw [hp,paramsM_next hx c7,tabP_next hx];congr 1<;>first|omega|rfl⟩,(by omega),Weak.mk [false,true,true,true] ⟨zB,VLe.of_eq (congrArg vI (by omega)),zB,zB,zB,zB,T⟩ (by show _=[pRow 119 b3 b2 p,E.blk b2 (MapR vI (tabP (tabV [] p.Sizes 1) (p.Params.take (k+1))))]++_;rw [tabP_next hx];rfl)⟩
    ·try simp only [sx] at c6
     rw [yC (l:=p.Params) (k:=k) (by omega)]
     rw [zCv (l:=p.Params) (k:=k) (by omega),yC (l:=p.Params) (k:=k) (by omega),paramsM] at hp
     refine qP<|zH<|Y O<|zD O zIa<|zI one28 (J 2 O) O<|qB O el28<|G O<|zA<|zT<|zU ⟨[(74,.c _),(11,.c _),(1,.c _),(4,.c _),(73,.c _)],[_,_,_]⟩ (Weak.mk [true,true,true] ⟨zB,zB,zB,zB,zB,T⟩ O) ?_
     refine qJ 2 2 O O (Nat) (fun k=>[(74,vI k),(11,vI (2+(p.Params.length:Int)+(k:Int)))]) (fun k=>[pRow 119 b3 b2 p,E.blk b2 (MapR vI (tabD (tabP (tabV [] p.Sizes 1) p.Params) (p.Defs.take k)))]) (fun k=>k<=p.Defs.length/\(validM p=defsM p (2+(p.Params.length:Int)+(k:Int)) (tabD (tabP (tabV [] p.Sizes 1) p.Params) (p.Defs.take k)) (p.Defs.take k) (p.Defs.drop k))) (fun k=>p.Defs.length-k) ⟨0,⟨by omega,by rw [hp];congr 1<;>first|omega|rfl⟩,Weak.mk [true,true,true] ⟨zB,VLe.of_eq (congrArg vI (by omega)),zB,zB,zB,T⟩ O⟩ ?_
     rintro k ⟨hk,hq⟩
     refine Y O<|yB O<|zA<|zH<|zE O (fun c8=>?_) (fun c8=>?_)
     ·try simp only [sx] at c8
      obtain ⟨x,hx⟩:=yD p.Defs k (by omega)
      refine zF<|zH<|zT<|Y O<|G O<|G O<|zA<|zH<|Y O<|G O<|G O<|zR O (yQ [0,0] O ok62 (checker_def b3 b2 p (tabD (tabP (tabV [] p.Sizes 1) p.Params) (p.Defs.take k)) hP k x hx) ⟨zB,O,zB,O,T⟩ O)<|G O<|zA<|Y O<|G O<|yM O<|zA<|zE O (fun c9=>?_) (fun c9=>?_)
      ·try simp only [sx] at c9
       refine Y O<|G O<|G O<|G O<|G O<|zA<|zG<|fin2 (N O) (N O) ?_
       rw [hq,defsM_no hx c9]
      ·try simp only [sx] at c9
       rw [def_map c9]
       refine zF<|zP O<|G O<|qM O ⟨by omega,by omega⟩<|G O<|zA<|zP O<|qM O ⟨by omega,by omega⟩<|G O<|zA ?_
       refine ⟨k+1,⟨by omega,by rw [hq,defsM_next hx c9,tabD_next hx];congr 1<;>first|omega|rfl⟩,(by omega),Weak.mk [true,true,true] ⟨zB,VLe.of_eq (congrArg vI (by omega)),zB,zB,zB,T⟩ (by show _=[pRow 119 b3 b2 p,E.blk b2 (MapR vI (tabD (tabP (tabV [] p.Sizes 1) p.Params) (p.Defs.take (k+1))))]++_;rw [tabD_next hx];rfl)⟩
     ·try simp only [sx] at c8
      rw [yC (l:=p.Defs) (k:=k) (by omega)]
      rw [zCv (l:=p.Defs) (k:=k) (by omega),yC (l:=p.Defs) (k:=k) (by omega),defsM] at hq
      refine qP<|zH<|Y O<|zD O fd30_4<|zI zGt (J 2 O) O<|qB O el25<|G O<|zA<|zT<|zU ⟨[(90,.c _),(11,.c _),(1,.c _),(4,.c _),(88,.c _),(89,.c _)],[_,_,_]⟩ (Weak.mk [true,true,true] ⟨zB,zB,zB,zB,zB,zB,T⟩ O) ?_
      refine qJ 2 0 O O (Nat) (fun k=>[(90,vI k),(11,vI (2+(p.Params.length:Int)+(p.Defs.length:Int)+(k:Int)))]) (fun k=>[]) (fun k=>k<=p.Outs.length/\(validM p=outsM (tabD (tabP (tabV [] p.Sizes 1) p.Params) p.Defs) (2+(p.Params.length:Int)+(p.Defs.length:Int)+(k:Int)) (p.Outs.take k) (p.Outs.drop k))) (fun k=>p.Outs.length-k) ⟨0,⟨by omega,by rw [hq];congr 1<;>first|omega|rfl⟩,Weak.mk [true,true,true] ⟨zB,VLe.of_eq (congrArg vI (by omega)),zB,zB,zB,zB,T⟩ O⟩ ?_
      rintro k ⟨hk,ho⟩
      refine Y O<|yB O<|zA<|zH<|zE O (fun c10=>?_) (fun c10=>?_)
      ·try simp only [sx] at c10
       obtain ⟨x,hx⟩:=yD p.Outs k (by omega)
       refine zF<|zH<|zT<|Y O<|G O<|qD O el25 (by omega) (getm (by assumption))<|zI one9 qH O<|G O<|G O<|zA<|zH<|zT<|Y O<|G O<|zN O<|zD O zPz<|zI zNe (J 0 O) O<|G O<|zR O (zDo 1 (0:Int) O sm117 O O O (fun _ _=>CRep.lit _ O))<|yM O<|G O<|zA<|zE O (fun c11=>?_) (fun c11=>?_)
       ·try simp only [sx] at c11
        refine Y O<|G O<|G O<|G O<|zA<|zG<|fin2 (N O) (N O) ?_
        rw [ho,outsM_9 hx c11]
       ·try simp only [sx] at c11
        refine Y O<|zD O fd30_4<|zI zGt (J 2 O) O<|G O<|zR O (zIe O el25 O O (by omega))<|G O<|qK O ok44 (wL (p.Outs.take k) x (by rw [List.length_take];omega)) ⟨zB,O,zB,O,T⟩<|G O<|zA<|zE O (fun c12=>?_) (fun c12=>?_)
        ·try simp only [sx] at c12
         refine Y O<|G O<|G O<|G O<|zA<|zG<|fin2 (N O) (N O) ?_
         rw [ho,outsM_8 hx c11 c12]
        ·try simp only [sx] at c12
         refine zF<|zP O<|G O<|qM O ⟨by omega,by omega⟩<|G O<|zA<|zP O<|qM O ⟨by omega,by omega⟩<|G O<|zA ?_
         refine ⟨k+1,⟨by omega,by rw [ho,outsM_next hx c11 c12];congr 1<;>first|omega|rfl⟩,(by omega),Weak.mk [true,true,true] ⟨zB,VLe.of_eq (congrArg vI (by omega)),zB,zB,zB,zB,T⟩ O⟩
      ·try simp only [sx] at c10
       refine qP<|Y O<|G O<|G O<|zA<|zG<|fin2 (N O) (N O) ?_
       rw [ho,zCv (by omega)];rfl
end Go.W
