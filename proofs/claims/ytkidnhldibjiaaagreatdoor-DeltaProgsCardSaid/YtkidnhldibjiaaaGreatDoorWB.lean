/-
  What functions compute.
  Conditions: none.
-/
import Derived.Test.YtkidnhldibjiaaaGreatDoorWA
set_option linter.unusedSimpArgs false
set_option linter.unusedVariables false
set_option maxRecDepth 10000
namespace Go.W
open Go Go.Eng Go.Proofs Go.L41 Go.Br
attribute [local irreducible] AWP RWP TD fL
theorem zJe:mY Tryz.prog 35=some 2:=by kernel_rfl
theorem yO:mY Tryz.prog 37=some 5:=by kernel_rfl
theorem zGh:bM Tryz.prog 35 0=some (0,2):=by kernel_rfl
theorem zJj:bM Tryz.prog 35 1=some (1,2):=by kernel_rfl
theorem zFg:bM Tryz.prog 37 0=some (0,3):=by kernel_rfl
theorem zOf:bM Tryz.prog 37 1=some (1,3):=by kernel_rfl
theorem fd37_2:bM Tryz.prog 37 2=some (2,3):=by kernel_rfl
theorem fd37_3:bM Tryz.prog 37 3=some (3,3):=by kernel_rfl
theorem fd37_4:bM Tryz.prog 37 4=some (4,3):=by kernel_rfl
theorem fl37:rF Tryz.prog 37=some [.int,.int,.int,.int,.int]:=by kernel_rfl
theorem ik254:rX Tryz.prog 254=some .u64:=by kernel_rfl
theorem ik262:rX Tryz.prog 262=some .u64:=by kernel_rfl
theorem ok109:bA Tryz.prog 109=true:=by kernel_rfl
theorem ok170:bA Tryz.prog 170=true:=by kernel_rfl
theorem ok171:bA Tryz.prog 171=true:=by kernel_rfl
theorem ok191:bA Tryz.prog 191=true:=by kernel_rfl
theorem ok235:bA Tryz.prog 235=true:=by kernel_rfl
theorem ok236:bA Tryz.prog 236=true:=by kernel_rfl
theorem ok273:bA Tryz.prog 273=true:=by kernel_rfl
theorem ok274:bA Tryz.prog 274=true:=by kernel_rfl
theorem ok275:bA Tryz.prog 275=true:=by kernel_rfl
theorem ok306:bA Tryz.prog 306=true:=by kernel_rfl
theorem ok307:bA Tryz.prog 307=true:=by kernel_rfl
theorem ok308:bA Tryz.prog 308=true:=by kernel_rfl
theorem ok309:bA Tryz.prog 309=true:=by kernel_rfl
theorem ok310:bA Tryz.prog 310=true:=by kernel_rfl
theorem ok329:bA Tryz.prog 329=true:=by kernel_rfl
theorem ok335:bA Tryz.prog 335=true:=by kernel_rfl
theorem one3:lS Tryz.prog 3=true:=by kernel_rfl
theorem pl35:fR Tryz.prog 35=some [(0,1),(1,1)]:=by kernel_rfl
theorem pl37:fR Tryz.prog 37=some [(0,1),(1,1),(2,1),(3,1),(4,1)]:=by kernel_rfl
theorem sz35:(Tryz.prog.info? 35).map (·.size)=some 2:=by kernel_rfl
theorem us2:(Tryz.prog.underlying 2).isSome=true:=by kernel_rfl
theorem us3:(Tryz.prog.underlying 3).isSome=true:=by kernel_rfl
theorem zr35:fD Tryz.prog 35=some [(Value.int IntKind.i64 0),(Value.int IntKind.i64 0)]:=by kernel_rfl
theorem zr37:fD Tryz.prog 37=some [(Value.int IntKind.i64 0),(Value.int IntKind.i64 0),(Value.int IntKind.i64 0),(Value.int IntKind.i64 0),(Value.int IntKind.i64 0)]:=by kernel_rfl
theorem zFq (l:Lf) (s:ByteArray) (hl:l.L.length<=6000000000000):
    Pur cfg 116 [dK l,vS s] (vB (gM l.L s)):=by
 refine zW Tryz.func116 O Tryz.ntmps116 Tryz.results116 O ?_
 intro z hz
 refine Y O<|zY O O (qN O O) ?_
 rintro _ _ ⟨b1,rfl,rfl⟩
 refine zY O O (qN O O) ?_
 rintro _ _ ⟨b2,rfl,rfl⟩
 refine G O<|W<|Y O<|zF O yP<|zK kQ (J 1 O) O<|qA O (zEf O O O O O)<|yE _ (kD 0 O 7 (.c (.fn _ _ [_])) (PLe.fn ⟨.inr ⟨O,O⟩,T⟩))<|qQ O ok170 (zFt l.L _ (fun m=>decide (m.Name=s)) hl (fun m _=>FnPur.of_pur (first:=[]) (cap:=[.iptr [cS s]]) ok171 (zOu m s))) ⟨U,O,U,O,T⟩<|G O<|W<|zO<|zV O ?_
 exact O
theorem zPw (t:Ty):
    Pur cfg 235 [vTy t] (vB (rR t)):=by
 refine zW Tryz.func235 O Tryz.ntmps235 Tryz.results235 O ?_
 intro z hz
 refine Y O<|zY O O (qN O O) ?_
 rintro _ _ ⟨b1,rfl,rfl⟩
 refine G O<|W<|Y O<|zP yO (J 0 O) O<|zF O zFg<|zK one3 (J 0 O) O<|yN O zr37 pl37<|qA O (zPn O fl37 O O O)<|G O<|W<|zO<|zV O ?_
 exact congrArg vB (plainT_eq t)
theorem zCo (t:Ty):
    Pur cfg 236 [vTy t] (vI (bif gH t then 0 else 10)):=by
 refine zW Tryz.func236 O Tryz.ntmps236 Tryz.results236 O ?_
 intro z hz
 refine Y O<|zY O O (qN O O) ?_
 rintro _ _ ⟨b1,rfl,rfl⟩
 refine G O<|W<|Y O<|zF O fd37_3<|zK one3 (J 0 O) O<|qA O (wJ O O O)<|G O<|rL0 O (fun g1_3=>zE O fd37_3 O) O<|rL1 8 O (fun g1_3=>zJ O one3 O (J 0 O) O) O<|rL1 9 O (fun g1_3=>wU O O O) O<|yZ O (fun h=>h)<|G O<|rL0 O (fun g1_8=>zE O fd37_4 O) O<|rL1 13 O (fun g1_8=>zJ O one3 O (J 0 O) O) O<|rL1 14 O (fun g1_8=>yM O O O) O<|rL1 15 O (fun g1_8=>zS O O) O<|rLz [] O q T (fun g1_12=>zE O fd37_4 O) O<|rLz [(17,_)] O q ⟨O,O,T⟩ (fun g1_12=>zJ O one3 O (J 0 O) O) O<|rLz [(18,_)] O q ⟨O,O,T⟩ (fun g1_12=>yM O O O) O<|rL1 16 O (fun g1_8=>zBc O O O O (fun h=>kH (by assumption) (lzf h))) O<|yZ O (fun h=>h)<|G O<|W<|zM<|Y O<|zF O zFg<|zK one3 (J 0 O) O<|yW O<|G O<|rL0 O (fun g2_3=>zE O zOf O) O<|rL1 26 O (fun g2_3=>zJ O one3 O (J 0 O) O) O<|rL1 27 O (fun g2_3=>zBs O O O) O<|r_or O (fun h=>(lzf h))<|G O<|rL0 O (fun g2_8=>zE O zOf O) O<|rL1 31 O (fun g2_8=>zJ O one3 O (J 0 O) O) O<|rL1 32 O (fun g2_8=>yL O O O) O<|r_or O (fun h=>(lzf h))<|G O<|rL0 O (fun g2_13=>zE O fd37_2 O) O<|rL1 36 O (fun g2_13=>zJ O one3 O (J 0 O) O) O<|rL1 37 O (fun g2_13=>zBs O O O) O<|r_or O (fun h=>(lzf h))<|G O<|rL0 O (fun g2_18=>zE O fd37_2 O) O<|rL1 41 O (fun g2_18=>zJ O one3 O (J 0 O) O) O<|rL1 42 O (fun g2_18=>yL O O O) O<|r_or O (fun h=>(lzf h))<|G O<|rL0 O (fun g2_23=>zS O O) O<|rL1 46 O (fun g2_23=>kT O O) O<|r_or O (fun h=>(lzf h))<|W<|zH O (fun c1=>?_) (fun c1=>?_)
 ·refine Y O<|G O<|W<|zO<|zV O ?_
  rw [show gH t=false from fix_no c1];rfl
 ·refine zN<|Y O<|G O<|W<|zO<|zV O ?_
  rw [show gH t=true from fix_yes c1];rfl
theorem zBf (t:Ty):
    Pur cfg 191 [vTy t] (vI (bZ t)):=by
 refine zW Tryz.func191 O Tryz.ntmps191 Tryz.results191 O ?_
 intro z hz
 refine Y O<|zY O O (qN O O) ?_
 rintro _ _ ⟨b1,rfl,rfl⟩
 refine G O<|W<|zM<|Y O<|zF O zFg<|zK one3 (J 0 O) O<|W<|zR<|zM<|Y O<|yK O<|G O<|W<|zH O (fun c1=>?_) (fun c1=>?_)
 ·try simp only [sx] at c1
  refine zN<|zH O (fun c2=>?_) (fun c2=>?_)
  ·try simp only [sx] at c2
   refine Y O<|zP yO (J 0 O) O<|qQ O ok235 (zPw _) ⟨U,O,T⟩<|W<|zH O (fun c3=>?_) (fun c3=>?_)
   ·try simp only [sx] at c3
    refine Y O<|G O<|W<|zO<|zV O ?_
    exact congrArg vI (by first|(exfalso;omega)|(rw [bZ,tyk1 (by omega),c3];rfl)|(rw [bZ,zBr (by omega),fxz c5];rfl)|(rw [bZ,zBr (by omega),fxn c5];rfl)|(rw [bZ,tyk0 (by omega) (by omega) (by omega)];rfl))
   ·try simp only [sx] at c3
    refine zN<|Y O<|G O<|W<|zO<|zV O ?_
    exact congrArg vI (by first|(exfalso;omega)|(rw [bZ,tyk1 (by omega),c3];rfl)|(rw [bZ,zBr (by omega),fxz c5];rfl)|(rw [bZ,zBr (by omega),fxn c5];rfl)|(rw [bZ,tyk0 (by omega) (by omega) (by omega)];rfl))
  ·try simp only [sx] at c2
   refine Y O<|yK O<|G O<|W<|zH O (fun c4=>?_) (fun c4=>?_)
   ·try simp only [sx] at c4
    refine Y O<|zP yO (J 0 O) O<|qQ O ok236 (zCo _) ⟨U,O,T⟩<|yK O<|W<|zH O (fun c5=>?_) (fun c5=>?_)
    ·try simp only [sx] at c5
     refine Y O<|G O<|W<|zO<|zV O ?_
     exact congrArg vI (by first|(exfalso;omega)|(rw [bZ,tyk1 (by omega),c3];rfl)|(rw [bZ,zBr (by omega),fxz c5];rfl)|(rw [bZ,zBr (by omega),fxn c5];rfl)|(rw [bZ,tyk0 (by omega) (by omega) (by omega)];rfl))
    ·try simp only [sx] at c5
     refine zN<|Y O<|G O<|W<|zO<|zV O ?_
     exact congrArg vI (by first|(exfalso;omega)|(rw [bZ,tyk1 (by omega),c3];rfl)|(rw [bZ,zBr (by omega),fxz c5];rfl)|(rw [bZ,zBr (by omega),fxn c5];rfl)|(rw [bZ,tyk0 (by omega) (by omega) (by omega)];rfl))
   ·try simp only [sx] at c4
    refine zN<|Y O<|G O<|W<|zO<|zV O ?_
    exact congrArg vI (by first|(exfalso;omega)|(rw [bZ,tyk1 (by omega),c3];rfl)|(rw [bZ,zBr (by omega),fxz c5];rfl)|(rw [bZ,zBr (by omega),fxn c5];rfl)|(rw [bZ,tyk0 (by omega) (by omega) (by omega)];rfl))
 ·try simp only [sx] at c1
  refine zT O<|yK O<|G O<|W<|zH O (fun c2=>?_) (fun c2=>?_)
  ·try simp only [sx] at c2
   refine Y O<|zP yO (J 0 O) O<|qQ O ok235 (zPw _) ⟨U,O,T⟩<|W<|zH O (fun c3=>?_) (fun c3=>?_)
   ·try simp only [sx] at c3
    refine Y O<|G O<|W<|zO<|zV O ?_
    exact congrArg vI (by first|(exfalso;omega)|(rw [bZ,tyk1 (by omega),c3];rfl)|(rw [bZ,zBr (by omega),fxz c5];rfl)|(rw [bZ,zBr (by omega),fxn c5];rfl)|(rw [bZ,tyk0 (by omega) (by omega) (by omega)];rfl))
   ·try simp only [sx] at c3
    refine zN<|Y O<|G O<|W<|zO<|zV O ?_
    exact congrArg vI (by first|(exfalso;omega)|(rw [bZ,tyk1 (by omega),c3];rfl)|(rw [bZ,zBr (by omega),fxz c5];rfl)|(rw [bZ,zBr (by omega),fxn c5];rfl)|(rw [bZ,tyk0 (by omega) (by omega) (by omega)];rfl))
  ·try simp only [sx] at c2
   refine Y O<|yK O<|G O<|W<|zH O (fun c4=>?_) (fun c4=>?_)
   ·try simp only [sx] at c4
    refine Y O<|zP yO (J 0 O) O<|qQ O ok236 (zCo _) ⟨U,O,T⟩<|yK O<|W<|zH O (fun c5=>?_) (fun c5=>?_)
    ·try simp only [sx] at c5
     refine Y O<|G O<|W<|zO<|zV O ?_
     exact congrArg vI (by first|(exfalso;omega)|(rw [bZ,tyk1 (by omega),c3];rfl)|(rw [bZ,zBr (by omega),fxz c5];rfl)|(rw [bZ,zBr (by omega),fxn c5];rfl)|(rw [bZ,tyk0 (by omega) (by omega) (by omega)];rfl))
    ·try simp only [sx] at c5
     refine zN<|Y O<|G O<|W<|zO<|zV O ?_
     exact congrArg vI (by first|(exfalso;omega)|(rw [bZ,tyk1 (by omega),c3];rfl)|(rw [bZ,zBr (by omega),fxz c5];rfl)|(rw [bZ,zBr (by omega),fxn c5];rfl)|(rw [bZ,tyk0 (by omega) (by omega) (by omega)];rfl))
   ·try simp only [sx] at c4
    refine zN<|Y O<|G O<|W<|zO<|zV O ?_
    exact congrArg vI (by first|(exfalso;omega)|(rw [bZ,tyk1 (by omega),c3];rfl)|(rw [bZ,zBr (by omega),fxz c5];rfl)|(rw [bZ,zBr (by omega),fxn c5];rfl)|(rw [bZ,tyk0 (by omega) (by omega) (by omega)];rfl))
theorem zMb (t:Ty):
    Pur cfg 109 [vTy t] (vB (dW t)):=by
 refine zW Tryz.func109 O Tryz.ntmps109 Tryz.results109 O ?_
 intro z hz
 refine Y O<|zY O O (qN O O) ?_
 rintro _ _ ⟨b1,rfl,rfl⟩
 refine G O<|W<|zM<|Y O<|zF O zFg<|zK one3 (J 0 O) O<|yK O<|G O<|rL0 O (fun g1_3=>zE O zFg O) O<|rL1 7 O (fun g1_3=>zJ O one3 O (J 0 O) O) O<|rL1 8 O (fun g1_3=>yM O O O) O<|r_or O (fun h=>(lzf h))<|W<|zH O (fun c1=>?_) (fun c1=>?_)
 ·refine Y O<|zF O zOf<|zK one3 (J 0 O) O<|yK O<|G O<|rL0 O (fun g2_3=>zE O fd37_2 O) O<|rL1 15 O (fun g2_3=>zJ O one3 O (J 0 O) O) O<|rL1 16 O (fun g2_3=>yM O O O) O<|yZ O (fun h=>h)<|G O<|rL0 O (fun g2_8=>zE O fd37_3 O) O<|rL1 20 O (fun g2_8=>zJ O one3 O (J 0 O) O) O<|rL1 21 O (fun g2_8=>yM O O O) O<|yZ O (fun h=>h)<|G O<|rL0 O (fun g2_13=>zE O fd37_4 O) O<|rL1 25 O (fun g2_13=>zJ O one3 O (J 0 O) O) O<|rL1 26 O (fun g2_13=>yM O O O) O<|yZ O (fun h=>h)<|G O<|W<|zO<|zV O ?_
  exact congrArg vB (type1 c1)
 ·refine zN<|Y O<|zF O zFg<|zK one3 (J 0 O) O<|yK O<|G O<|rL0 O (fun g3_3=>zE O zOf O) O<|rL1 33 O (fun g3_3=>zJ O one3 O (J 0 O) O) O<|rL1 34 O (fun g3_3=>wJ O O O) O<|yZ O (fun h=>h)<|G O<|rL0 O (fun g3_8=>zE O zOf O) O<|rL1 38 O (fun g3_8=>zJ O one3 O (J 0 O) O) O<|rL1 39 O (fun g3_8=>wU O O O) O<|yZ O (fun h=>h)<|G O<|rL0 O (fun g3_13=>zE O fd37_2 O) O<|rL1 43 O (fun g3_13=>zJ O one3 O (J 0 O) O) O<|rL1 44 O (fun g3_13=>wJ O O O) O<|yZ O (fun h=>h)<|G O<|rL0 O (fun g3_18=>zE O fd37_2 O) O<|rL1 48 O (fun g3_18=>zJ O one3 O (J 0 O) O) O<|rL1 49 O (fun g3_18=>wU O O O) O<|yZ O (fun h=>h)<|G O<|rL0 O (fun g3_23=>zE O fd37_3 O) O<|rL1 53 O (fun g3_23=>zJ O one3 O (J 0 O) O) O<|rL1 54 O (fun g3_23=>wJ O O O) O<|yZ O (fun h=>h)<|G O<|rL0 O (fun g3_28=>zE O fd37_3 O) O<|rL1 58 O (fun g3_28=>zJ O one3 O (J 0 O) O) O<|rL1 59 O (fun g3_28=>wU O O O) O<|yZ O (fun h=>h)<|G O<|rL0 O (fun g3_33=>zE O fd37_4 O) O<|rL1 63 O (fun g3_33=>zJ O one3 O (J 0 O) O) O<|rL1 64 O (fun g3_33=>yM O O O) O<|rL1 65 O (fun g3_33=>zS O O) O<|rLz [] O q T (fun g3_37=>zE O fd37_4 O) O<|rLz [(67,_)] O q ⟨O,O,T⟩ (fun g3_37=>zJ O one3 O (J 0 O) O) O<|rLz [(68,_)] O q ⟨O,O,T⟩ (fun g3_37=>yM O O O) O<|rL1 66 O (fun g3_33=>zBc O O O O (fun h=>kH (by assumption) (lzf h))) O<|yZ O (fun h=>h)<|G O<|W<|zO<|zV O ?_
  exact congrArg vB (type2 c1)
theorem zQm (b:Int):
    Pur cfg 335 [vI b] (vB (decide (2<=b)&&decide (b<=31))):=by
 refine zW Tryz.func335 O Tryz.ntmps335 Tryz.results335 O ?_
 intro z hz
 refine Y O<|G O<|W<|Y O<|G O<|qA O (wJ O O O)<|G O<|rL0 O (fun g1_2=>zS O O) O<|rL1 6 O (fun g1_2=>wU O O O) O<|yZ O (fun h=>h)<|G O<|W<|zO<|zV O ?_
 exact O
theorem round_MinInt (b:Int) (h1:2<=b) (h2:b<=31):
    Pur cfg 306 [vI b] (vI (-mG b)):=by
 refine zW Tryz.func306 O Tryz.ntmps306 Tryz.results306 O ?_
 intro z hz
 refine Y O<|G O<|W<|zM<|Y O<|G O<|qQ O ok335 (zQm _) ⟨U,O,T⟩<|wE O<|W<|zH O (fun c1=>?_) (fun c1=>?_)
 ·try simp only [sx] at c1
  exact absurd c1 (by omega)
 ·try simp only [sx] at c1
  refine zN<|Y O<|G O<|qA O (kP O O O ⟨by omega,by omega⟩)<|qA O (kK O us3 ik262 O)<|qA O (det_shl O O O (by rw [zIh (by omega)];omega))<|qA O (zFp O O)<|G O<|W<|zO<|zV O ?_
  exact congrArg vI (min_eq h1 h2)
theorem round_MaxInt (b:Int) (h1:2<=b) (h2:b<=31):
    Pur cfg 307 [vI b] (vI (mG b-1)):=by
 refine zW Tryz.func307 O Tryz.ntmps307 Tryz.results307 O ?_
 intro z hz
 refine Y O<|G O<|W<|zM<|Y O<|G O<|qQ O ok335 (zQm _) ⟨U,O,T⟩<|wE O<|W<|zH O (fun c1=>?_) (fun c1=>?_)
 ·try simp only [sx] at c1
  exact absurd c1 (by omega)
 ·try simp only [sx] at c1
  refine zN<|Y O<|G O<|qA O (kP O O O ⟨by omega,by omega⟩)<|qA O (kK O us3 ik262 O)<|qA O (det_shl O O O (by rw [zIh (by omega)];omega))<|qA O (det_sub O O O)<|G O<|W<|zO<|zV O ?_
  exact congrArg vI (max_eq h1 h2)
theorem fixed_Valid (t:Ty) (v:Vl):
    Pur cfg 273 [vTy t,tJ v] (vB (gH t&&(decide (v.D=1)&&decide (-mG t.Bits<=v.N)&&decide (v.N<mG t.Bits)))):=by
 refine zW Tryz.func273 O Tryz.ntmps273 Tryz.results273 O ?_
 intro z hz
 refine Y O<|zY O O (qN O O) ?_
 rintro _ _ ⟨b1,rfl,rfl⟩
 refine zY O O (qN O O) ?_
 rintro _ _ ⟨b2,rfl,rfl⟩
 refine G O<|W<|zM<|qW 25 mixed (by kernel_rfl) O O<|zQ O O (zU O yO O (J 1 O) O)<|zQ O O (qL O ok236 (zCo _) ⟨U,O,T⟩)<|zQ O O (yM O O O)<|zQ O O (zS O O)<|qI [] O O O O gv1 T (fun g1_3=>zE O zJj O) O<|qI [(9,_)] O O O O gv1 ⟨O,O,T⟩ (fun g1_3=>zJ O one2 O (J 0 O) O) O<|qI [(10,_)] O O O O gv1 ⟨O,O,T⟩ (fun g1_3=>yM O O O) O<|zQ O O (wK O O O (fun h=>h) O)<|zQ O O (zS O O)<|qI [] O O O O gv1 T (fun g1_8=>zE O zGh O) O<|qI [(14,_)] O O O O gv1 ⟨O,O,T⟩ (fun g1_8=>zJ O one2 O (J 0 O) O) O<|qI [] O O O O gv1 T (fun g1_8=>zE O zOf O) O<|qI [(16,_)] O O O O gv1 ⟨O,O,T⟩ (fun g1_8=>zJ O one3 O (J 1 O) O) O<|qI [(17,_)] O O O O gv1 ⟨O,O,T⟩ (fun g1_8=>qL O ok306 (round_MinInt _ (fixB (fxa g1_8)).1 (fixB (fxa g1_8)).2) ⟨U,O,T⟩) O<|qI [(15,_),(18,_)] O O O O gv1 ⟨O,O,O,O,T⟩ (fun g1_8=>wJ O O O) O<|zQ O O (wK O O O (fun h=>h) O)<|zQ O O (zS O O)<|qI [] O O O O gv1 T (fun g1_16=>zE O zGh O) O<|qI [(22,_)] O O O O gv1 ⟨O,O,T⟩ (fun g1_16=>zJ O one2 O (J 0 O) O) O<|qI [] O O O O gv1 T (fun g1_16=>zE O zOf O) O<|qI [(24,_)] O O O O gv1 ⟨O,O,T⟩ (fun g1_16=>zJ O one3 O (J 1 O) O) O<|qI [(25,_)] O O O O gv1 ⟨O,O,T⟩ (fun g1_16=>qL O ok307 (round_MaxInt _ (fixB (fxb g1_16)).1 (fixB (fxb g1_16)).2) ⟨U,O,T⟩) O<|qI [(23,_),(26,_)] O O O O gv1 ⟨O,O,O,O,T⟩ (fun g1_16=>wU O O O) O<|zQ O O (wK O O O (fun h=>h) O)<|zQ O O (yY O O)<|yR<|W<|zO<|zV O ?_
 exact congrArg vB (fixV t v)
theorem value_whole (n:Int):
    Pur cfg 274 [vI n] (vB (nD n)):=by
 refine zW Tryz.func274 O Tryz.ntmps274 Tryz.results274 O ?_
 intro z hz
 refine Y O<|G O<|W<|Y O<|G O<|qA O (wJ O O O)<|G O<|rL0 O (fun g1_2=>zS O O) O<|rL1 6 O (fun g1_2=>wU O O O) O<|yZ O (fun h=>h)<|G O<|W<|zO<|zV O ?_
 exact O
theorem frac_inRange (n:Int):
    Pur cfg 308 [vI n] (vB (nD n)):=by
 refine zW Tryz.func308 O Tryz.ntmps308 Tryz.results308 O ?_
 intro z hz
 refine Y O<|G O<|W<|Y O<|G O<|qA O (wJ O O O)<|G O<|rL0 O (fun g1_2=>zS O O) O<|rL1 6 O (fun g1_2=>wU O O O) O<|yZ O (fun h=>h)<|G O<|W<|zO<|zV O ?_
 exact O
theorem frac_magnitude (n:Int) (hn: -9223372036854775808<=n) (hm:n<=9223372036854775807):
    Pur cfg 310 [vI n] (pB n.natAbs):=by
 refine zW Tryz.func310 O Tryz.ntmps310 Tryz.results310 O ?_
 intro z hz
 refine Y O<|G O<|W<|zM<|Y O<|G O<|yI O<|W<|zH O (fun c1=>?_) (fun c1=>?_)
 ·try simp only [sx] at c1
  refine Y O<|G O<|qA O (kK O us2 ik254 O)<|qA O (zFp O O)<|G O<|W<|zO<|zV O ?_
  exact congrArg pB (mag_neg c1 hn)
 ·try simp only [sx] at c1
  refine zN<|Y O<|G O<|qA O (kK O us2 ik254 O)<|G O<|W<|zO<|zV O ?_
  exact congrArg pB (mag_pos (by omega) hm)
theorem frac_gcd (a b:Nat):
    Pur cfg 309 [pB a,pB b] (pB (Nat.gcd a b)):=by
 refine zW Tryz.func309 O Tryz.ntmps309 Tryz.results309 O ?_
 intro z hz
 refine Y O<|G O<|W<|zM<|zR<|qC ⟨[(0,.c _),(1,.c _)],[]⟩ (Weak.mk [] ⟨U,U,T⟩ O)<|qG 2 0 O O (Nat×Nat) (fun ⟨x,y⟩=>[(0,pB x),(1,pB y)]) (fun ⟨x,y⟩=>[]) (fun ⟨x,y⟩=>Nat.gcd a b=Nat.gcd x y) (fun ⟨x,y⟩=>y) ⟨⟨a,b⟩,O,Weak.mk [] ⟨U,U,T⟩ O⟩ ?_
 rintro ⟨x,y⟩ hg
 refine zM<|Y O<|G O<|yW O<|W<|zH O (fun c1=>?_) (fun c1=>?_)
 ·try simp only [sx] at c1
  refine zN<|zR<|qW 6 mixed (by kernel_rfl) O O<|zQ O O (zS O O)<|zQ O O (zS O O)<|zQ O O (zS O O)<|zQ O O (det_rem O O O (by omega))<|zQ O O (yY O O)<|zQ O O (yY O O)<|yR<|W ?_
  refine ⟨⟨y,x%y⟩,(by rw [hg];exact gcd_step (by omega)),(Nat.mod_lt _ (by omega)),Weak.mk [] ⟨U,VLe.of_eq (congrArg pB (Int.ofNat_tmod x y).symm),T⟩ O⟩
 ·try simp only [sx] at c1
  refine qO<|Y O<|G O<|G O<|W<|zO<|zV O ?_
  exact congrArg pB (by rw [hg,show y=0 by omega,Nat.gcd_zero_right])
theorem base_gcd (a b:Nat):
    Pur cfg 329 [vI a,vI b] (vI (Nat.gcd a b)):=by
 refine zW Tryz.func329 O Tryz.ntmps329 Tryz.results329 O ?_
 intro z hz
 refine Y O<|G O<|W<|zM<|zR<|qC ⟨[(0,.c _),(1,.c _)],[]⟩ (Weak.mk [] ⟨U,U,T⟩ O)<|qG 2 0 O O (Nat×Nat) (fun ⟨x,y⟩=>[(0,vI x),(1,vI y)]) (fun ⟨x,y⟩=>[]) (fun ⟨x,y⟩=>Nat.gcd a b=Nat.gcd x y) (fun ⟨x,y⟩=>y) ⟨⟨a,b⟩,O,Weak.mk [] ⟨U,U,T⟩ O⟩ ?_
 rintro ⟨x,y⟩ hg
 refine zM<|Y O<|G O<|yW O<|W<|zH O (fun c1=>?_) (fun c1=>?_)
 ·try simp only [sx] at c1
  refine zN<|zR<|qW 6 mixed (by kernel_rfl) O O<|zQ O O (zS O O)<|zQ O O (zS O O)<|zQ O O (zS O O)<|zQ O O (det_rem O O O (by omega))<|zQ O O (yY O O)<|zQ O O (yY O O)<|yR<|W ?_
  refine ⟨⟨y,x%y⟩,(by rw [hg];exact gcd_step (by omega)),(Nat.mod_lt _ (by omega)),Weak.mk [] ⟨U,VLe.of_eq (congrArg vI (Int.ofNat_tmod x y).symm),T⟩ O⟩
 ·try simp only [sx] at c1
  refine qO<|Y O<|G O<|G O<|W<|zO<|zV O ?_
  exact congrArg vI (by rw [hg,show y=0 by omega,Nat.gcd_zero_right])
theorem frac_Valid (v:Vl):
    Pur cfg 275 [tJ v] (vB (decide (1<=v.D)&&decide (v.D<=2147483647)&&nD v.N&&decide (Int.gcd v.N v.D=1))):=by
 refine zW Tryz.func275 O Tryz.ntmps275 Tryz.results275 O ?_
 intro z hz
 refine Y O<|zY O O (qN O O) ?_
 rintro _ _ ⟨b1,rfl,rfl⟩
 refine G O<|W<|zM<|qW 24 mixed (by kernel_rfl) O O<|zQ O O (zE O zJj O)<|zQ O O (zJ O one2 O (J 0 O) O)<|zQ O O (wJ O O O)<|zQ O O (zS O O)<|qI [] O O O O gv1 T (fun g1_3=>zE O zJj O) O<|qI [(7,_)] O O O O gv1 ⟨O,O,T⟩ (fun g1_3=>zJ O one2 O (J 0 O) O) O<|qI [(8,_)] O O O O gv1 ⟨O,O,T⟩ (fun g1_3=>wU O O O) O<|zQ O O (wK O O O (fun h=>h) O)<|zQ O O (zS O O)<|qI [] O O O O gv1 T (fun g1_8=>zE O zGh O) O<|qI [(12,_)] O O O O gv1 ⟨O,O,T⟩ (fun g1_8=>zJ O one2 O (J 0 O) O) O<|qI [(13,_)] O O O O gv1 ⟨O,O,T⟩ (fun g1_8=>qL O ok308 (frac_inRange _) ⟨U,O,T⟩) O<|zQ O O (wK O O O (fun h=>h) O)<|zQ O O (zS O O)<|qI [] O O O O gv1 T (fun g1_13=>zE O zGh O) O<|qI [(17,_)] O O O O gv1 ⟨O,O,T⟩ (fun g1_13=>zJ O one2 O (J 0 O) O) O<|qI [(18,_)] O O O O gv1 ⟨O,O,T⟩ (fun g1_13=>qL O ok310 (frac_magnitude v.N (frV g1_13).2.2.1 (frV g1_13).2.2.2) ⟨U,O,T⟩) O<|qI [] O O O O gv1 T (fun g1_13=>zE O zJj O) O<|qI [(20,_)] O O O O gv1 ⟨O,O,T⟩ (fun g1_13=>zJ O one2 O (J 0 O) O) O<|qI [(21,_)] O O O O gv1 ⟨O,O,T⟩ (fun g1_13=>kK O us2 ik254 O) O<|qI [(19,_),(22,_)] O O O O gv1 ⟨O,O,O,O,T⟩ (fun g1_13=>qL O ok309 (show Pur cfg 309 [pB v.N.natAbs,pB (IntKind.u64.wrap v.D)] (pB (Nat.gcd v.N.natAbs v.D.natAbs)) from by rw [u64_D (frV g1_13).1 (frV g1_13).2.1];exact frac_gcd _ _) ⟨U,O,U,O,T⟩) O<|qI [(23,_)] O O O O gv1 ⟨O,O,T⟩ (fun g1_13=>yM O O O) O<|zQ O O (wK O O O (fun h=>h) O)<|zQ O O (yY O O)<|yR<|W<|zO<|zV O ?_
 exact congrArg vB (by rw [show (decide (((Nat.gcd v.N.natAbs v.D.natAbs:Nat):Int)=1))=decide (Int.gcd v.N v.D=1) from decide_eq_decide.2 (by unfold Int.gcd;omega)])
theorem value_Valid (t:Ty) (v:Vl):
    Pur cfg 225 [vTy t,tJ v] (vB (dW t&&jT t v)):=by
 refine zW Tryz.func225 O Tryz.ntmps225 Tryz.results225 O ?_
 intro z hz
 refine Y O<|zY O O (qN O O) ?_
 rintro _ _ ⟨b1,rfl,rfl⟩
 refine zY O O (qN O O) ?_
 rintro _ _ ⟨b2,rfl,rfl⟩
 refine G O<|W<|zM<|Y O<|zP yO (J 1 O) O<|qQ O ok191 (zBf _) ⟨U,O,T⟩<|yW O<|W<|zH O (fun c1=>?_) (fun c1=>?_)
 ·try simp only [sx] at c1
  have ht:dW t=false:=tyErr_ne c1
  refine Y O<|G O<|W<|zO<|zV O ?_
  rw [ht];rfl
 ·try simp only [sx] at c1
  have ht:dW t=true:=tyErr_eq c1
  refine zN<|zM<|Y O<|zF O zFg<|zK one3 (J 1 O) O<|W<|zR<|Y O<|yK O<|G O<|W<|zH O (fun c2=>?_) (fun c2=>?_)
  ·try simp only [sx] at c2
   refine Y O<|zP yO (J 1 O) O<|zP zJe (J 0 O) O<|qQ O ok273 (fixed_Valid _ _) ⟨U,O,U,O,T⟩<|G O<|W<|zO<|zV O ?_
   exact congrArg vB (by rw [ht,jT,c2,←zBr c2,ht];rfl)
  ·try simp only [sx] at c2
   refine Y O<|yK O<|G O<|W<|zH O (fun c3=>?_) (fun c3=>?_)
   ·try simp only [sx] at c3
    refine Y O<|zF O zJj<|zK one2 (J 0 O) O<|yK O<|G O<|rL0 O (fun g7_3=>zE O zGh O) O<|rL1 21 O (fun g7_3=>zJ O one2 O (J 0 O) O) O<|rL1 22 O (fun g7_3=>qL O ok274 (value_whole _) ⟨U,O,T⟩) O<|yZ O (fun h=>h)<|G O<|W<|zO<|zV O ?_
    exact congrArg vB (by rw [ht,jT,yD c2,c3];rfl)
   ·try simp only [sx] at c3
    refine zN<|Y O<|zP zJe (J 0 O) O<|qQ O ok275 (frac_Valid _) ⟨U,O,T⟩<|G O<|W<|zO<|zV O ?_
    exact congrArg vB (by rw [ht,jT,yD c2,yD c3];rfl)
theorem base_Val (t:Ty) (v:Vl) (ht:dW t=true):
    Pur cfg 295 [vTy t,tJ v] (vB (jT t v)):=by
 refine zW Tryz.func295 O Tryz.ntmps295 Tryz.results295 O ?_
 intro z hz
 refine Y O<|zY O O (qN O O) ?_
 rintro _ _ ⟨b1,rfl,rfl⟩
 refine zY O O (qN O O) ?_
 rintro _ _ ⟨b2,rfl,rfl⟩
 refine G O<|W<|zM<|Y O<|zF O zFg<|zK one3 (J 1 O) O<|yK O<|W<|zH O (fun c1=>?_) (fun c1=>?_)
 ·try simp only [sx] at c1
  obtain ⟨b1,b2⟩:=fixB (by rw [←zBr c1];exact ht)
  refine Y O<|zF O zOf<|zK one3 (J 1 O) O<|qA O (kP O O O ⟨by omega,by omega⟩)<|qA O (det_shl O O O (by omega))<|G O<|W<|Y O<|zF O zJj<|zK one2 (J 0 O) O<|yK O<|G O<|rL0 O (fun g3_3=>zE O zGh O) O<|rL1 17 O (fun g3_3=>zJ O one2 O (J 0 O) O) O<|rL0 O (fun g3_3=>zS O O) O<|rL1 19 O (fun g3_3=>zFp O O) O<|rLz [(18,_),(20,_)] O gv1 ⟨O,O,O,O,T⟩ (fun g3_3=>wJ O O O) O<|yZ O (fun h=>h)<|G O<|rL0 O (fun g3_10=>zE O zGh O) O<|rL1 24 O (fun g3_10=>zJ O one2 O (J 0 O) O) O<|rL0 O (fun g3_10=>zS O O) O<|rLz [(25,_),(26,_)] O gv1 ⟨O,O,O,O,T⟩ (fun g3_10=>zBs O O O) O<|yZ O (fun h=>h)<|G O<|W<|zO<|zV O ?_
  exact congrArg vB (valfix c1 b1 b2)
 ·try simp only [sx] at c1
  refine zN<|zM<|Y O<|zF O zGh<|zK one2 (J 0 O) O<|qA O (yL O O O)<|G O<|rL0 O (fun g4_3=>zE O zGh O) O<|rL1 33 O (fun g4_3=>zJ O one2 O (J 0 O) O) O<|rL1 34 O (fun g4_3=>zBs O O O) O<|r_or O (fun h=>(lzf h))<|G O<|rL0 O (fun g4_8=>zE O zJj O) O<|rL1 38 O (fun g4_8=>zJ O one2 O (J 0 O) O) O<|rL1 39 O (fun g4_8=>zBs O O O) O<|r_or O (fun h=>(lzf h))<|G O<|rL0 O (fun g4_13=>zE O zJj O) O<|rL1 43 O (fun g4_13=>zJ O one2 O (J 0 O) O) O<|rL1 44 O (fun g4_13=>yL O O O) O<|r_or O (fun h=>(lzf h))<|W<|zH O (fun c2=>?_) (fun c2=>?_)
  ·refine Y O<|G O<|W<|zO<|zV O ?_
   exact congrArg vB (val_out c1 c2).symm
  ·obtain ⟨hN1,hN2,hD1,hD2⟩:=val_in c2
   refine zN<|zM<|Y O<|zF O zFg<|zK one3 (J 1 O) O<|yK O<|W<|zH O (fun c3=>?_) (fun c3=>?_)
   ·try simp only [sx] at c3
    refine Y O<|zF O zJj<|zK one2 (J 0 O) O<|yK O<|G O<|W<|zO<|zV O ?_
    exact congrArg vB (by rw [jT,yD c1,c3];simp [nD,hN1,hN2])
   ·try simp only [sx] at c3
    refine zN<|Y O<|zF O zGh<|zK one2 (J 0 O) O<|zF O zGh<|zK one2 (J 0 O) O<|qA O (zFp O O)<|qA O (det_max O O O)<|zF O zJj<|zK one2 (J 0 O) O<|qQ O ok329 (show Pur cfg 329 [vI (max v.N (IntKind.i64.wrap (-v.N))),vI v.D] (vI (Int.gcd v.N v.D)) from by rw [max_abs hN1 hN2,show v.D=(v.D.natAbs:Int) by omega];exact base_gcd _ _) ⟨U,O,U,O,T⟩<|yK O<|G O<|W<|zO<|zV O ?_
    exact congrArg vB (by rw [jT,yD c1,yD c3];simp [nD,hN1,hN2,hD1,hD2];omega)
theorem value_Zero (t:Ty):
    Pur cfg 172 [vTy t] (tJ (lC t)):=by
 refine zW Tryz.func172 O Tryz.ntmps172 Tryz.results172 O ?_
 intro z hz
 refine Y O<|zY O O (qN O O) ?_
 rintro _ _ ⟨b1,rfl,rfl⟩
 refine zY O O (yJ O zr35) ?_
 rintro _ _ ⟨b2,rfl,rfl⟩
 refine W<|zM<|Y O<|zP yO (J 1 O) O<|qQ O ok191 (zBf _) ⟨U,O,T⟩<|yW O<|W<|zH O (fun c1=>?_) (fun c1=>?_)
 ·try simp only [sx] at c1
  refine Y O<|yN O zr35 pl35<|rStR 0 sz35 O<|W<|zO<|fin1 (zZ zJe O (J 0 O) O) ?_
  rw [lC,tyErr_ne c1];rfl
 ·try simp only [sx] at c1
  refine zN<|Y O<|yN O zr35 pl35<|rStR 0 sz35 O<|W<|zO<|fin1 (zZ zJe O (J 0 O) O) ?_
  rw [lC,tyErr_eq c1];rfl
theorem ref04_Zero (t:Ty):
    Pur cfg 179 [vTy t] (tJ (lC t)):=by
 refine zW Tryz.func179 O Tryz.ntmps179 Tryz.results179 O ?_
 intro z hz
 refine Y O<|zY O O (qN O O) ?_
 rintro _ _ ⟨b1,rfl,rfl⟩
 refine zY O O (yJ O zr35) ?_
 rintro _ _ ⟨b2,rfl,rfl⟩
 refine W<|zM<|Y O<|zP yO (J 1 O) O<|qQ O ok109 (zMb _) ⟨U,O,T⟩<|wE O<|W<|zH O (fun c1=>?_) (fun c1=>?_)
 ·try simp only [sx] at c1
  refine Y O<|yN O zr35 pl35<|rStR 0 sz35 O<|W<|zO<|fin1 (zZ zJe O (J 0 O) O) ?_
  rw [lC,c1];rfl
 ·try simp only [sx] at c1
  refine zN<|Y O<|yN O zr35 pl35<|rStR 0 sz35 O<|W<|zO<|fin1 (zZ zJe O (J 0 O) O) ?_
  rw [lC,c1];rfl
end Go.W
