/-
  What functions compute.
  Conditions: none.
-/
import Derived.Test.YtgfomfnjionbeaaGreatDoorWM
import Derived.Test.YtgfomfnjionbeaaGreatDoorPlain
import Derived.Test.YtgfomfnjionbeaaGreatDoorEngZ
set_option linter.unusedSimpArgs false
set_option linter.unusedVariables false
set_option maxRecDepth 10000
namespace Go.W
open Go Go.Eng Go.Proofs Go.L41 Go.Br
attribute [local irreducible] AWP RWP TD fQ
theorem fd70_5:bD Tryz.prog 70 5=some (9,62):=by kernel_rfl
theorem fd119_0:bD Tryz.prog 119 0=some (0,30):=by kernel_rfl
theorem ok58:bA Tryz.prog 58=true:=by kernel_rfl
theorem ok60:bA Tryz.prog 60=true:=by kernel_rfl
theorem ok61:bA Tryz.prog 61=true:=by kernel_rfl
theorem ok62:bA Tryz.prog 62=true:=by kernel_rfl
theorem ok115:bA Tryz.prog 115=true:=by kernel_rfl
theorem ok116:bA Tryz.prog 116=true:=by kernel_rfl
theorem ok117:bA Tryz.prog 117=true:=by kernel_rfl
theorem ok118:bA Tryz.prog 118=true:=by kernel_rfl
theorem pl119:dL Tryz.prog 119=some [(0,5),(5,1)]:=by kernel_rfl
theorem sz28:(Tryz.prog.info? 28).map (·.size)=some 1:=by kernel_rfl
theorem sz30:(Tryz.prog.info? 30).map (·.size)=some 5:=by kernel_rfl
theorem sz70:(Tryz.prog.info? 70).map (·.size)=some 22:=by kernel_rfl
theorem sz123:(Tryz.prog.info? 123).map (·.size)=some 3:=by kernel_rfl
theorem zr30:dO Tryz.prog 30=some [(Value.slice none 0 0),(Value.slice none 0 0),(Value.slice none 0 0),(Value.slice none 0 0),(Value.slice none 0 0)]:=by kernel_rfl
theorem zr70:dO Tryz.prog 70=some [(Value.string (ByteArray.mk #[])),(Value.int IntKind.i64 0),(Value.int IntKind.i64 0),(Value.int IntKind.i64 0),(Value.int IntKind.i64 0),(Value.int IntKind.i64 0),(Value.slice none 0 0),(Value.slice none 0 0),(Value.int IntKind.i64 0),(Value.int IntKind.i64 0),(Value.string (ByteArray.mk #[])),(Value.int IntKind.i64 0),(Value.int IntKind.i64 0),(Value.int IntKind.i64 0),(Value.int IntKind.i64 0),(Value.int IntKind.i64 0),(Value.int IntKind.i64 0),(Value.int IntKind.i64 0),(Value.int IntKind.i64 0),(Value.slice none 0 0),(Value.slice none 0 0),(Value.slice none 0 0)]:=by kernel_rfl
theorem zr119:dO Tryz.prog 119=some [(Value.slice none 0 0),(Value.slice none 0 0),(Value.slice none 0 0),(Value.slice none 0 0),(Value.slice none 0 0),(Value.map none)]:=by kernel_rfl
theorem zr123:dO Tryz.prog 123=some [(Value.int IntKind.i64 0),(Value.slice none 0 0),(Value.bool false)]:=by kernel_rfl
theorem checker_def (b mb:Nat) (p:Pg) (m:Kn) (hP:p.Ok) (k:Nat) (d:Df) (hd:p.Defs[k]? =some d):
    Con cfg 62 [vP b,vI k] (ckE b mb p m) fun r μ'=>r=vI (nQ m ⟨p.Sizes,p.Params,p.Defs.take k⟩ d)/\μ'=ckE b mb p (gN m d.Name 2):=by
 refine zV Tryz.func62 O Tryz.ntmps62 Tryz.results62 O ?_
 intro z hz
 obtain ⟨hD,hR,hA,hA2,hB⟩:=hP.ds d (qC hd)
 have hlen:=len_of_get hd
 have hpd:=hP.defs
 refine Y O<|G O<|zA<|Y O<|G O<|zS O<|zD O fd119_0<|zD O zEe<|zG zKr (J 0 O) O<|G O<|qE O el28 zC (getm uD)<|zM agg70 qD O<|zY O O (qG [none,none,none,none,none,none,some 3,some 3,none,none,none,none,none,none,none,none,none,none,none,some 2,some 4,some 13] O zr70 O) ?_
 rintro _ _ ⟨b1,rfl,rfl⟩
 refine D 0 sz70 O<|zA<|zH<|Y O<|G O<|zD O zJo<|zG one9 (J 0 O) O<|zW O (yY [1,1] O ok59 (zJv b mb p m d.Name 2) ⟨zB,O,zB,O,zB,O,T⟩ O)<|G O<|zA<|Y O<|G O<|yN O<|zA<|zE O (fun c1=>?_) (fun c1=>?_)
 ·try simp only [sx] at c1
  refine Y O<|G O<|G O<|zA<|zU _ (Weak.mem [false,true,true] O)<|zJ<|zT O ?_
  exact ⟨by rw [def_1 c1],O⟩
 ·try simp only [sx] at c1
  refine zI<|zH<|Y O<|zD O fd70_1<|zM qZ (J 0 O) O<|zD O zKz<|zG zDp (J 0 O) O<|qB O el68<|zD O zFo<|zG zDp (J 0 O) O<|qB O el68<|kA O el46 zr3<|qJ O ok114 (zIb d.T [(d.Dims.length:Int),(d.Red.length:Int)] _ O uG) ⟨zB,O,zB,O,T⟩<|G O<|zA<|Y O<|G O<|yN O<|zA<|zE O (fun c2=>?_) (fun c2=>?_)
  ·try simp only [sx] at c2
   refine Y O<|G O<|G O<|zA<|zU _ (Weak.mem [false,true,true] O)<|zJ<|zT O ?_
   exact ⟨by rw [def_2 c1 c2],O⟩
  ·try simp only [sx] at c2
   have hX:=def_ok (n:=⟨p.Sizes,p.Params,p.Defs.take k⟩) c1 c2
   refine zI<|zH<|Y O<|G O<|zM agg70 (J 0 O) O<|zW O (yY [1,1] O ok115 (checker_axes b mb p (gN m d.Name 2) d hD hR hA hA2) ⟨zB,O,zB,O,T⟩ O)<|G O<|zA<|Y O<|G O<|yN O<|zA<|zE O (fun c3=>?_) (fun c3=>?_)
   ·try simp only [sx] at c3
    refine Y O<|G O<|G O<|zA<|zU _ (Weak.mem [false,true,true] O)<|zJ<|zT O ?_
    exact ⟨by rw [hX,if_neg c3],O⟩
   ·try simp only [sx] at c3
    rw [if_pos c3] at hX
    refine zI<|zH<|Y O<|zM agg70 (J 0 O) O<|qJ O ok116 (program_fold d) ⟨zB,O,T⟩<|G O<|zA<|Y O<|G O<|yN O<|zA<|zE O (fun c4=>?_) (fun c4=>?_)
    ·try simp only [sx] at c4
     refine Y O<|G O<|G O<|zA<|zU _ (Weak.mem [false,true,true] O)<|zJ<|zT O ?_
     exact ⟨by rw [hX,if_neg c4],O⟩
    ·try simp only [sx] at c4
     rw [if_pos c4] at hX
     unfold rK at hX
     refine zI<|Y O<|G O<|zS O<|zD O fd119_0<|zM zEk (J 1 O) O<|zY O O (qG [some 1,some 3,some 7,some 22,some 1] O zr30 O) ?_
     rintro _ _ ⟨b2,rfl,rfl⟩
     refine D 0 sz30 O<|zA<|Y O<|G O<|zS O<|zD O fd119_0<|zD O zEe<|zG zKr (J 2 O) O<|G O<|zW O (zJs O el28 O O zC)<|zD O zEe<|D 0 sz28 O<|zA<|zH<|awp_draw_p 10 [.q,.q,.q,.q,.q,.q,.q,.q,.u,.f]  mixed uC O O O<|wA O O (qA O zEk O (J 0 O) O)<|wA O O (qA O agg70 O (J 1 O) O)<|wA O O (qS O ok118 (OwnR.pur (zMd d hD hR)) ⟨zB,O,T⟩)<|wA O O (zF O fd70_5 O)<|wA O O (qA O yU O (J 1 O) O)<|wA O O (qS O ok117 (program_TypeOf (⟨p.Sizes,p.Where,p.Params,p.Defs.take k,p.Outs⟩:Pg) (bH d) d.Body (hP.take k) (by rw [bH,List.length_append,List.length_map,List.length_map];omega) hB) ⟨zB,O,zB,O,zB,O,T⟩)<|wA O O (yW O O)<|wA O O (qY O O O)<|zLw O O (kT O O O)<|zQt<|tdq_nil<|zCf<|zCf<|zCf<|zCf<|zCf<|zCf<|zCf<|zCf<|tdf_u<|zLx (zAf (yC O zr56))<|tdf_nil<|zKn ?_
     rintro _ _ ⟨b3,rfl,rfl⟩
     refine zNp ?_
     refine ⟨_,yX O v O O O (zDb 0 O O),(by rintro _ _ ⟨rfl,rfl⟩;exact ⟨[_],rfl⟩),?_⟩
     rintro _ _ ⟨rfl,rfl⟩
     refine G O<|zA<|zH<|Y O<|G O<|yN O<|zA<|zE O (fun c5=>?_) (fun c5=>?_)
     ·try simp only [sx] at c5
      refine Y O<|G O<|G O<|zA<|zU _ (Weak.mem [false,false,false,true,true] O)<|zJ<|zT O ?_
      exact ⟨by rw [hX,if_neg (show ¬(gK ⟨p.Sizes,p.Params,p.Defs.take k⟩ (bH d) d.Body).2=0 from c5)];rfl,O⟩
     ·try simp only [sx] at c5
      rw [if_pos (show (gK ⟨p.Sizes,p.Params,p.Defs.take k⟩ (bH d) d.Body).2=0 from c5)] at hX
      refine zI<|zH<|Y O<|zM qZ (J 0 O) O<|zD O fd70_1<|zM qZ (J 2 O) O<|zW O (zAr O fl56 O O O)<|zA<|zE O (fun c6=>?_) (fun c6=>?_)
      ·refine Y O<|G O<|zA<|zU _ (Weak.mem [false,false,false,true,true] O)<|zJ<|zT O ?_
       exact ⟨by rw [hX,if_neg (show ¬(gK (⟨p.Sizes,p.Params,p.Defs.take k⟩:En) (bH d) d.Body).1=d.T from zEp c6)],O⟩
      ·refine zI<|Y O<|G O<|zA<|zU _ (Weak.mem [false,false,false,true,true] O)<|zJ<|zT O ?_
       exact ⟨by rw [hX,if_pos (show (gK (⟨p.Sizes,p.Params,p.Defs.take k⟩:En) (bH d) d.Body).1=d.T from zEq c6)],O⟩
theorem zEh (p:Pg) (hP:p.Ok):
    Pur cfg 22 [vPg p] (.tup [vI (bK p).1,vI (bK p).2]):=by
 refine zV Tryz.func22 O Tryz.ntmps22 Tryz.results22 O ?_
 intro z hz
 have hps:=hP.sizes
 have hpw:=hP.wh
 have hpp:=hP.params
 have hpd:=hP.defs
 have hpo:=hP.outs
 refine Y O<|zY O O (qL O O) ?_
 rintro _ _ ⟨b1,rfl,rfl⟩
 refine G O<|G O<|zA<|zH<|Y O<|zM zEk (J 0 O) O<|qJ O ok58 (program_limits p) ⟨zB,O,T⟩<|kZ O<|zA<|zE O (fun c1=>?_) (fun c1=>?_)
 ·have hl:¬gF p:=by simpa using c1
  refine Y O<|G O<|G O<|zA<|zJ<|fin2 (rs_c O) (rs_c O) ?_
  rw [validM_2 hl]
 ·have hl:gF p:=by simpa using c1
  have ho64:p.Outs.length<=64:=hl.2.2.2.1
  refine zI<|Y O<|zM zEk (J 0 O) O<|zY O O (zMe vI O O) ?_
  rintro _ _ ⟨b2,rfl,rfl⟩
  refine yI O zr119 pl119<|zY O O (qL O O) ?_
  rintro _ _ ⟨b3,rfl,rfl⟩
  refine G O<|zA<|zH<|Y O<|zD O zTq<|zG zFu (J 2 O) O<|qB O el25<|G O<|zA<|zR<|zU ⟨[(29,.c _),(1,.c _),(4,.c _),(27,.c _),(28,.c _)],[_,_,_]⟩ (Weak.mk [true,true,true] ⟨zB,zB,zB,zB,zB,T⟩ O)<|qF 1 2 O O (Nat) (fun k=>[(29,vI k)]) (fun k=>[rW 119 b3 b2 p,E.blk b2 (MapR vI (gR [] (p.Sizes.take k) 1))]) (fun k=>k<=p.Sizes.length/\(gM [] p.Sizes=gM (gR [] (p.Sizes.take k) 1) (p.Sizes.drop k))) (fun k=>p.Sizes.length-k) ⟨0,⟨zC,O⟩,Weak.mk [true,true,true] ⟨zB,zB,zB,zB,zB,T⟩ O⟩ ?_
  rintro k ⟨hk,hp⟩
  refine Y O<|yA O<|zA<|zH<|zE O (fun c2=>?_) (fun c2=>?_)
  ·try simp only [sx] at c2
   obtain ⟨x,hx⟩:=qV p.Sizes k zC
   refine zI<|zH<|zR<|Y O<|qE O el25 zC (getm uD)<|zG one9 qD O<|G O<|zA<|Y O<|G O<|G O<|zW O (yY [0,0] O ok59 (zJv b3 b2 p (gR [] (p.Sizes.take k) 1) x 1) ⟨zB,O,zB,O,zB,O,T⟩ O)<|G O<|zA<|Y O<|G O<|yN O<|zA<|zE O (fun c3=>?_) (fun c3=>?_)
   ·try simp only [sx] at c3
    refine Y O<|G O<|G O<|G O<|zA<|zJ<|fin2 (rs_c O) (rs_c O) ?_
    rw [validM_s hl (by rw [hp,sizesM_no hx c3];exact c3),hp,sizesM_no hx c3]
   ·try simp only [sx] at c3
    rw [zOk c3]
    refine zI<|zO O<|qH O ⟨zC,zC⟩<|G O<|zA ?_
    refine ⟨k+1,⟨zC,by rw [hp,sizesM_next hx c3,zLy hx]⟩,zC,Weak.mk [true,true,true] ⟨zB,zB,zB,zB,zB,T⟩ (by show _=[rW 119 b3 b2 p,E.blk b2 (MapR vI (gR [] (p.Sizes.take (k+1)) 1))]++_;rw [zLy hx];rfl)⟩
  ·try simp only [sx] at c2
   rw [yD (l:=p.Sizes) (k:=k) zC]
   rw [zDv (l:=p.Sizes) (k:=k) zC] at hp
   have hs0:gM [] p.Sizes=0:=hp
   refine qM<|zH<|Y O<|zD O fd30_1<|zG one26 (J 2 O) O<|qB O el26<|G O<|zA<|zR<|zU ⟨[(43,.c _),(1,.c _),(4,.c _),(41,.c _),(42,.c _)],[_,_,_]⟩ (Weak.mk [true,true,true] ⟨zB,zB,zB,zB,zB,T⟩ O)<|qF 1 0 O O (Nat) (fun k=>[(43,vI k)]) (fun k=>[]) (fun k=>k<=p.Where.length/\(jD (gR [] p.Sizes 1) p.Where=jD (gR [] p.Sizes 1) (p.Where.drop k))) (fun k=>p.Where.length-k) ⟨0,⟨zC,O⟩,Weak.mk [true,true,true] ⟨zB,zB,zB,zB,zB,T⟩ O⟩ ?_
   rintro k ⟨hk,hp⟩
   refine Y O<|yA O<|zA<|zH<|zE O (fun c4=>?_) (fun c4=>?_)
   ·try simp only [sx] at c4
    obtain ⟨x,hx⟩:=qV p.Where k zC
    refine zI<|zH<|zR<|Y O<|qE O el26 zC (getm uD)<|zM agg123 qD O<|zY O O (qG [none,some 2,none] O zr123 O) ?_
    rintro _ _ ⟨b4,rfl,rfl⟩
    refine D 0 sz123 O<|zA<|Y O<|G O<|zM agg123 (J 0 O) O<|zW O (yY [1,1] O ok60 (zNm b3 b2 p (gR [] p.Sizes 1) x (hP.whs x (qC hx))) ⟨zB,O,zB,O,T⟩ O)<|G O<|zA<|Y O<|G O<|yN O<|zA<|zE O (fun c5=>?_) (fun c5=>?_)
    ·try simp only [sx] at c5
     refine Y O<|G O<|G O<|G O<|zA<|zJ<|fin2 (rs_c O) (rs_c O) ?_
     rw [validM_w hl hs0 (by rw [hp,whereM_no hx c5];exact c5),hp,whereM_no hx c5]
    ·try simp only [sx] at c5
     refine zI<|zO O<|qH O ⟨zC,zC⟩<|G O<|zA ?_
     refine ⟨k+1,⟨zC,hp.trans (whereM_next hx c5)⟩,zC,Weak.mk [false,true,true,true] ⟨zB,zB,zB,zB,zB,T⟩ O⟩
   ·try simp only [sx] at c4
    rw [zDv (l:=p.Where) (k:=k) zC] at hp
    have hw0:jD (gR [] p.Sizes 1) p.Where=0:=hp
    have hV:=validM_p hl hs0 hw0
    refine qM<|Y O<|G O<|zA<|zH<|Y O<|zD O zMy<|zG one27 (J 2 O) O<|qB O el27<|G O<|zA<|zR<|zU ⟨[(57,.c _),(11,.c _),(1,.c _),(4,.c _),(55,.c _),(56,.c _)],[_,_,_]⟩ (Weak.mk [true,true,true] ⟨zB,zB,zB,zB,zB,zB,T⟩ O)<|qF 2 2 O O (Nat) (fun k=>[(57,vI k),(11,vI (2+(k:Int)))]) (fun k=>[rW 119 b3 b2 p,E.blk b2 (MapR vI (rU (gR [] p.Sizes 1) (p.Params.take k)))]) (fun k=>k<=p.Params.length/\(bK p=hY p (2+(k:Int)) (rU (gR [] p.Sizes 1) (p.Params.take k)) (p.Params.drop k))) (fun k=>p.Params.length-k) ⟨0,⟨zC,hV⟩,Weak.mk [true,true,true] ⟨zB,VLe.of_eq (O),zB,zB,zB,zB,T⟩ O⟩ ?_
    rintro k ⟨hk,hp⟩
    refine Y O<|yA O<|zA<|zH<|zE O (fun c6=>?_) (fun c6=>?_)
    ·try simp only [sx] at c6
     obtain ⟨x,hx⟩:=qV p.Params k zC
     refine zI<|zH<|zR<|Y O<|qE O el27 zC (getm uD)<|zM agg74 qD O<|zY O O (qG [none,none,none,none,none,none,some 2] O zr74 O) ?_
     rintro _ _ ⟨b5,rfl,rfl⟩
     refine D 0 sz74 O<|zA<|zH<|Y O<|G O<|zM agg74 (J 0 O) O<|zW O (yY [1,1] O ok61 (checker_param b3 b2 p (rU (gR [] p.Sizes 1) (p.Params.take k)) x (hP.ps x (qC hx)).1 (hP.ps x (qC hx)).2) ⟨zB,O,zB,O,T⟩ O)<|G O<|zA<|Y O<|G O<|yN O<|zA<|zE O (fun c7=>?_) (fun c7=>?_)
     ·try simp only [sx] at c7
      refine Y O<|G O<|G O<|G O<|G O<|zA<|zJ<|fin2 (rs_c O) (rs_c O) ?_
      rw [hp,paramsM_no hx c7]
     ·try simp only [sx] at c7
      rw [param_map c7]
      refine zI<|zO O<|G O<|qH O ⟨zC,zC⟩<|G O<|zA<|zO O<|qH O ⟨zC,zC⟩<|G O<|zA ?_
      refine ⟨k+1,⟨zC,by rw [hp,paramsM_next hx c7,tabP_next hx];congr 1<;>first|omega|rfl⟩,zC,Weak.mk [false,true,true,true] ⟨zB,VLe.of_eq (congrArg vI zC),zB,zB,zB,zB,T⟩ (by show _=[rW 119 b3 b2 p,E.blk b2 (MapR vI (rU (gR [] p.Sizes 1) (p.Params.take (k+1))))]++_;rw [tabP_next hx];rfl)⟩
    ·try simp only [sx] at c6
     rw [yD (l:=p.Params) (k:=k) zC]
     rw [zDv (l:=p.Params) (k:=k) zC,yD (l:=p.Params) (k:=k) zC,hY] at hp
     refine qM<|zH<|Y O<|zD O zEe<|zG zKr (J 2 O) O<|qB O el28<|G O<|zA<|zR<|zU ⟨[(74,.c _),(11,.c _),(1,.c _),(4,.c _),(73,.c _)],[_,_,_]⟩ (Weak.mk [true,true,true] ⟨zB,zB,zB,zB,zB,T⟩ O) ?_
     refine qF 2 2 O O (Nat) (fun k=>[(74,vI k),(11,vI (2+(p.Params.length:Int)+(k:Int)))]) (fun k=>[rW 119 b3 b2 p,E.blk b2 (MapR vI (tZ (rU (gR [] p.Sizes 1) p.Params) (p.Defs.take k)))]) (fun k=>k<=p.Defs.length/\(bK p=nM p (2+(p.Params.length:Int)+(k:Int)) (tZ (rU (gR [] p.Sizes 1) p.Params) (p.Defs.take k)) (p.Defs.take k) (p.Defs.drop k))) (fun k=>p.Defs.length-k) ⟨0,⟨zC,by rw [hp];congr 1<;>first|omega|rfl⟩,Weak.mk [true,true,true] ⟨zB,VLe.of_eq (congrArg vI zC),zB,zB,zB,T⟩ O⟩ ?_
     rintro k ⟨hk,hq⟩
     refine Y O<|yA O<|zA<|zH<|zE O (fun c8=>?_) (fun c8=>?_)
     ·try simp only [sx] at c8
      obtain ⟨x,hx⟩:=qV p.Defs k zC
      refine zI<|zH<|zR<|Y O<|G O<|G O<|zA<|zH<|Y O<|G O<|G O<|zW O (yY [0,0] O ok62 (checker_def b3 b2 p (tZ (rU (gR [] p.Sizes 1) p.Params) (p.Defs.take k)) hP k x hx) ⟨zB,O,zB,O,T⟩ O)<|G O<|zA<|Y O<|G O<|yN O<|zA<|zE O (fun c9=>?_) (fun c9=>?_)
      ·try simp only [sx] at c9
       refine Y O<|G O<|G O<|G O<|G O<|zA<|zJ<|fin2 (rs_c O) (rs_c O) ?_
       rw [hq,defsM_no hx c9]
      ·try simp only [sx] at c9
       rw [def_map c9]
       refine zI<|zO O<|G O<|qH O ⟨zC,zC⟩<|G O<|zA<|zO O<|qH O ⟨zC,zC⟩<|G O<|zA ?_
       refine ⟨k+1,⟨zC,by rw [hq,defsM_next hx c9,tabD_next hx];congr 1<;>first|omega|rfl⟩,zC,Weak.mk [true,true,true] ⟨zB,VLe.of_eq (congrArg vI zC),zB,zB,zB,T⟩ (by show _=[rW 119 b3 b2 p,E.blk b2 (MapR vI (tZ (rU (gR [] p.Sizes 1) p.Params) (p.Defs.take (k+1))))]++_;rw [tabD_next hx];rfl)⟩
     ·try simp only [sx] at c8
      rw [yD (l:=p.Defs) (k:=k) zC]
      rw [zDv (l:=p.Defs) (k:=k) zC,yD (l:=p.Defs) (k:=k) zC,nM] at hq
      refine qM<|zH<|Y O<|zD O fd30_4<|zG zFu (J 2 O) O<|qB O el25<|G O<|zA<|zR<|zU ⟨[(90,.c _),(11,.c _),(1,.c _),(4,.c _),(88,.c _),(89,.c _)],[_,_,_]⟩ (Weak.mk [true,true,true] ⟨zB,zB,zB,zB,zB,zB,T⟩ O) ?_
      refine qF 2 0 O O (Nat) (fun k=>[(90,vI k),(11,vI (2+(p.Params.length:Int)+(p.Defs.length:Int)+(k:Int)))]) (fun k=>[]) (fun k=>k<=p.Outs.length/\(bK p=nK (tZ (rU (gR [] p.Sizes 1) p.Params) p.Defs) (2+(p.Params.length:Int)+(p.Defs.length:Int)+(k:Int)) (p.Outs.take k) (p.Outs.drop k))) (fun k=>p.Outs.length-k) ⟨0,⟨zC,by rw [hq];congr 1<;>first|omega|rfl⟩,Weak.mk [true,true,true] ⟨zB,VLe.of_eq (congrArg vI zC),zB,zB,zB,zB,T⟩ O⟩ ?_
      rintro k ⟨hk,ho⟩
      refine Y O<|yA O<|zA<|zH<|zE O (fun c10=>?_) (fun c10=>?_)
      ·try simp only [sx] at c10
       obtain ⟨x,hx⟩:=qV p.Outs k zC
       refine zI<|zH<|zR<|Y O<|G O<|qE O el25 zC (getm uD)<|zG one9 qD O<|G O<|G O<|zA<|zH<|zR<|Y O<|G O<|zS O<|zD O zTr<|zG zPr (J 0 O) O<|G O<|zW O (zEz 1 (0:Int) O sm117 O O O (fun _ _=>CRep.lit _ O))<|yN O<|G O<|zA<|zE O (fun c11=>?_) (fun c11=>?_)
       ·try simp only [sx] at c11
        refine Y O<|G O<|G O<|G O<|zA<|zJ<|fin2 (rs_c O) (rs_c O) ?_
        rw [ho,outsM_9 hx c11]
       ·try simp only [sx] at c11
        refine Y O<|zD O fd30_4<|zG zFu (J 2 O) O<|G O<|zW O (zJs O el25 O O zC)<|G O<|qJ O ok44 (zAh (p.Outs.take k) x (by rw [List.length_take];omega)) ⟨zB,O,zB,O,T⟩<|G O<|zA<|zE O (fun c12=>?_) (fun c12=>?_)
        ·try simp only [sx] at c12
         refine Y O<|G O<|G O<|G O<|zA<|zJ<|fin2 (rs_c O) (rs_c O) ?_
         rw [ho,outsM_8 hx c11 c12]
        ·try simp only [sx] at c12
         refine zI<|zO O<|G O<|qH O ⟨zC,zC⟩<|G O<|zA<|zO O<|qH O ⟨zC,zC⟩<|G O<|zA ?_
         refine ⟨k+1,⟨zC,by rw [ho,outsM_next hx c11 c12];congr 1<;>first|omega|rfl⟩,zC,Weak.mk [true,true,true] ⟨zB,VLe.of_eq (congrArg vI zC),zB,zB,zB,zB,T⟩ O⟩
      ·try simp only [sx] at c10
       refine qM<|Y O<|G O<|G O<|zA<|zJ<|fin2 (rs_c O) (rs_c O) ?_
       rw [ho,zDv zC];rfl
end Go.W
