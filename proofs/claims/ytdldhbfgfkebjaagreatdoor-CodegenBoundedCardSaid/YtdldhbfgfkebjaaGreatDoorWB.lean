/-
  Walks: what functions of the program compute. Printed by wip/gen/mk2.py.
  Conditions: none.
-/
import Derived.Test.YtdldhbfgfkebjaaGreatDoorWA
set_option linter.unusedSimpArgs false
set_option linter.unusedVariables false
set_option maxRecDepth 10000
namespace Go.W
open Go Go.Eng Go.Proofs Go.L41 Go.Br
attribute [local irreducible] AWP RWP TD finQ
theorem yP:aggT Tryz.prog 31=some 5:=by kernel_rfl
theorem agg44:aggT Tryz.prog 44=some 2:=by kernel_rfl
theorem zOi:fieldT Tryz.prog 31 0=some (0,3):=by kernel_rfl
theorem fd31_1:fieldT Tryz.prog 31 1=some (1,3):=by kernel_rfl
theorem fd31_2:fieldT Tryz.prog 31 2=some (2,3):=by kernel_rfl
theorem fd31_3:fieldT Tryz.prog 31 3=some (3,3):=by kernel_rfl
theorem fd31_4:fieldT Tryz.prog 31 4=some (4,3):=by kernel_rfl
theorem zJg:fieldT Tryz.prog 44 0=some (0,2):=by kernel_rfl
theorem zOh:fieldT Tryz.prog 44 1=some (1,2):=by kernel_rfl
theorem fl31:flatK Tryz.prog 31=some [.int,.int,.int,.int,.int]:=by kernel_rfl
theorem ik231:intT Tryz.prog 231=some .u64:=by kernel_rfl
theorem zLu:intT Tryz.prog 237=some .u64:=by kernel_rfl
theorem ok39:callOk Tryz.prog 39=true:=by kernel_rfl
theorem ok89:callOk Tryz.prog 89=true:=by kernel_rfl
theorem ok90:callOk Tryz.prog 90=true:=by kernel_rfl
theorem ok163:callOk Tryz.prog 163=true:=by kernel_rfl
theorem ok188:callOk Tryz.prog 188=true:=by kernel_rfl
theorem ok189:callOk Tryz.prog 189=true:=by kernel_rfl
theorem ok190:callOk Tryz.prog 190=true:=by kernel_rfl
theorem ok280:callOk Tryz.prog 280=true:=by kernel_rfl
theorem ok281:callOk Tryz.prog 281=true:=by kernel_rfl
theorem ok297:callOk Tryz.prog 297=true:=by kernel_rfl
theorem ok298:callOk Tryz.prog 298=true:=by kernel_rfl
theorem ok302:callOk Tryz.prog 302=true:=by kernel_rfl
theorem one3:oneT Tryz.prog 3=true:=by kernel_rfl
theorem pl31:placesT Tryz.prog 31=some [(0,1),(1,1),(2,1),(3,1),(4,1)]:=by kernel_rfl
theorem us2:(Tryz.prog.underlying 2).isSome=true:=by kernel_rfl
theorem us3:(Tryz.prog.underlying 3).isSome=true:=by kernel_rfl
theorem zr31:zeroT Tryz.prog 31=some [(Value.int IntKind.i64 0),(Value.int IntKind.i64 0),(Value.int IntKind.i64 0),(Value.int IntKind.i64 0),(Value.int IntKind.i64 0)]:=by kernel_rfl
theorem zMu (t:Ty):
    Pur cfg 89 [vTy t] (vB (plainT t)):=by
 refine zW Tryz.func89 O Tryz.ntmps89 Tryz.results89 O ?_
 intro z hz
 refine R O<|zU O O (qT O O) ?_
 rintro _ _ ⟨b1,rfl,rfl⟩
 refine G O<|zA<|R O<|zP yP (A 0 O) O<|zN O zOi<|zL one3 (A 0 O) O<|v O (yB O zr31 pl31 O)<|v O (det_aeql O fl31 O O O)<|G O<|zA<|zM<|zX O ?_
 exact congrArg vB (plainT_eq t)
theorem zBv (t:Ty):
    Pur cfg 90 [vTy t] (vI (bif fixOk t then 0 else 10)):=by
 refine zW Tryz.func90 O Tryz.ntmps90 Tryz.results90 O ?_
 intro z hz
 refine R O<|zU O O (qT O O) ?_
 rintro _ _ ⟨b1,rfl,rfl⟩
 refine G O<|zA<|R O<|zN O fd31_3<|zL one3 (A 0 O) O<|v O (wG O O O)<|G O<|rL0 O (fun g1_3=>zJ O fd31_3 O) O<|B 8 O (fun g1_3=>zD O one3 O (A 0 O) O) O<|B 9 O (fun g1_3=>wI O O O) O<|kE O (fun h=>h)<|G O<|rL0 O (fun g1_8=>zJ O fd31_4 O) O<|B 13 O (fun g1_8=>zD O one3 O (A 0 O) O) O<|B 14 O (fun g1_8=>kJ O O O) O<|B 15 O (fun g1_8=>zG O O) O<|rLz [] O gv2 T (fun g1_12=>zJ O fd31_4 O) O<|rLz [(17,_)] O gv2 ⟨O,O,T⟩ (fun g1_12=>zD O one3 O (A 0 O) O) O<|rLz [(18,_)] O gv2 ⟨O,O,T⟩ (fun g1_12=>kJ O O O) O<|B 16 O (fun g1_8=>kK O O O O (fun h=>kX (by assumption) (lzf h))) O<|kE O (fun h=>h)<|G O<|zA<|zF<|R O<|zN O zOi<|zL one3 (A 0 O) O<|wL O<|G O<|rL0 O (fun g2_3=>zJ O fd31_1 O) O<|B 26 O (fun g2_3=>zD O one3 O (A 0 O) O) O<|B 27 O (fun g2_3=>yR O O O) O<|v O (kK O O O O (fun h=>(lzf h)))<|G O<|rL0 O (fun g2_8=>zJ O fd31_1 O) O<|B 31 O (fun g2_8=>zD O one3 O (A 0 O) O) O<|B 32 O (fun g2_8=>kA O O O) O<|v O (kK O O O O (fun h=>(lzf h)))<|G O<|rL0 O (fun g2_13=>zJ O fd31_2 O) O<|B 36 O (fun g2_13=>zD O one3 O (A 0 O) O) O<|B 37 O (fun g2_13=>yR O O O) O<|v O (kK O O O O (fun h=>(lzf h)))<|G O<|rL0 O (fun g2_18=>zJ O fd31_2 O) O<|B 41 O (fun g2_18=>zD O one3 O (A 0 O) O) O<|B 42 O (fun g2_18=>kA O O O) O<|v O (kK O O O O (fun h=>(lzf h)))<|G O<|rL0 O (fun g2_23=>zG O O) O<|B 46 O (fun g2_23=>wR O O) O<|v O (kK O O O O (fun h=>(lzf h)))<|zA<|zC O (fun c1=>?_) (fun c1=>?_)
 ·refine R O<|G O<|zA<|zM<|zX O ?_
  rw [show fixOk t=false from fix_no c1];rfl
 ·refine zH<|R O<|G O<|zA<|zM<|zX O ?_
  rw [show fixOk t=true from fix_yes c1];rfl
theorem zBq (t:Ty):
    Pur cfg 39 [vTy t] (vI (tyErr t)):=by
 refine zW Tryz.func39 O Tryz.ntmps39 Tryz.results39 O ?_
 intro z hz
 refine R O<|zU O O (qT O O) ?_
 rintro _ _ ⟨b1,rfl,rfl⟩
 refine G O<|zA<|zF<|R O<|zN O zOi<|zL one3 (A 0 O) O<|zA<|zQ<|zF<|R O<|yO O<|G O<|zA<|zC O (fun c1=>?_) (fun c1=>?_)
 ·try simp only [sx] at c1
  refine zH<|zC O (fun c2=>?_) (fun c2=>?_)
  ·try simp only [sx] at c2
   refine R O<|zP yP (A 0 O) O<|qW O ok89 (zMu _) ⟨zB,O,T⟩<|zA<|zC O (fun c3=>?_) (fun c3=>?_)
   ·try simp only [sx] at c3
    refine R O<|G O<|zA<|zM<|zX O ?_
    exact congrArg vI (by first|(exfalso;omega)|(rw [tyErr,tyk1 (by omega),c3];rfl)|(rw [tyErr,zBj (by omega),fxz c5];rfl)|(rw [tyErr,zBj (by omega),fxn c5];rfl)|(rw [tyErr,tyk0 (by omega) (by omega) (by omega)];rfl))
   ·try simp only [sx] at c3
    refine zH<|R O<|G O<|zA<|zM<|zX O ?_
    exact congrArg vI (by first|(exfalso;omega)|(rw [tyErr,tyk1 (by omega),c3];rfl)|(rw [tyErr,zBj (by omega),fxz c5];rfl)|(rw [tyErr,zBj (by omega),fxn c5];rfl)|(rw [tyErr,tyk0 (by omega) (by omega) (by omega)];rfl))
  ·try simp only [sx] at c2
   refine R O<|yO O<|G O<|zA<|zC O (fun c4=>?_) (fun c4=>?_)
   ·try simp only [sx] at c4
    refine R O<|zP yP (A 0 O) O<|qW O ok90 (zBv _) ⟨zB,O,T⟩<|yO O<|zA<|zC O (fun c5=>?_) (fun c5=>?_)
    ·try simp only [sx] at c5
     refine R O<|G O<|zA<|zM<|zX O ?_
     exact congrArg vI (by first|(exfalso;omega)|(rw [tyErr,tyk1 (by omega),c3];rfl)|(rw [tyErr,zBj (by omega),fxz c5];rfl)|(rw [tyErr,zBj (by omega),fxn c5];rfl)|(rw [tyErr,tyk0 (by omega) (by omega) (by omega)];rfl))
    ·try simp only [sx] at c5
     refine zH<|R O<|G O<|zA<|zM<|zX O ?_
     exact congrArg vI (by first|(exfalso;omega)|(rw [tyErr,tyk1 (by omega),c3];rfl)|(rw [tyErr,zBj (by omega),fxz c5];rfl)|(rw [tyErr,zBj (by omega),fxn c5];rfl)|(rw [tyErr,tyk0 (by omega) (by omega) (by omega)];rfl))
   ·try simp only [sx] at c4
    refine zH<|R O<|G O<|zA<|zM<|zX O ?_
    exact congrArg vI (by first|(exfalso;omega)|(rw [tyErr,tyk1 (by omega),c3];rfl)|(rw [tyErr,zBj (by omega),fxz c5];rfl)|(rw [tyErr,zBj (by omega),fxn c5];rfl)|(rw [tyErr,tyk0 (by omega) (by omega) (by omega)];rfl))
 ·try simp only [sx] at c1
  refine zI O<|yO O<|G O<|zA<|zC O (fun c2=>?_) (fun c2=>?_)
  ·try simp only [sx] at c2
   refine R O<|zP yP (A 0 O) O<|qW O ok89 (zMu _) ⟨zB,O,T⟩<|zA<|zC O (fun c3=>?_) (fun c3=>?_)
   ·try simp only [sx] at c3
    refine R O<|G O<|zA<|zM<|zX O ?_
    exact congrArg vI (by first|(exfalso;omega)|(rw [tyErr,tyk1 (by omega),c3];rfl)|(rw [tyErr,zBj (by omega),fxz c5];rfl)|(rw [tyErr,zBj (by omega),fxn c5];rfl)|(rw [tyErr,tyk0 (by omega) (by omega) (by omega)];rfl))
   ·try simp only [sx] at c3
    refine zH<|R O<|G O<|zA<|zM<|zX O ?_
    exact congrArg vI (by first|(exfalso;omega)|(rw [tyErr,tyk1 (by omega),c3];rfl)|(rw [tyErr,zBj (by omega),fxz c5];rfl)|(rw [tyErr,zBj (by omega),fxn c5];rfl)|(rw [tyErr,tyk0 (by omega) (by omega) (by omega)];rfl))
  ·try simp only [sx] at c2
   refine R O<|yO O<|G O<|zA<|zC O (fun c4=>?_) (fun c4=>?_)
   ·try simp only [sx] at c4
    refine R O<|zP yP (A 0 O) O<|qW O ok90 (zBv _) ⟨zB,O,T⟩<|yO O<|zA<|zC O (fun c5=>?_) (fun c5=>?_)
    ·try simp only [sx] at c5
     refine R O<|G O<|zA<|zM<|zX O ?_
     exact congrArg vI (by first|(exfalso;omega)|(rw [tyErr,tyk1 (by omega),c3];rfl)|(rw [tyErr,zBj (by omega),fxz c5];rfl)|(rw [tyErr,zBj (by omega),fxn c5];rfl)|(rw [tyErr,tyk0 (by omega) (by omega) (by omega)];rfl))
    ·try simp only [sx] at c5
     refine zH<|R O<|G O<|zA<|zM<|zX O ?_
     exact congrArg vI (by first|(exfalso;omega)|(rw [tyErr,tyk1 (by omega),c3];rfl)|(rw [tyErr,zBj (by omega),fxz c5];rfl)|(rw [tyErr,zBj (by omega),fxn c5];rfl)|(rw [tyErr,tyk0 (by omega) (by omega) (by omega)];rfl))
   ·try simp only [sx] at c4
    refine zH<|R O<|G O<|zA<|zM<|zX O ?_
    exact congrArg vI (by first|(exfalso;omega)|(rw [tyErr,tyk1 (by omega),c3];rfl)|(rw [tyErr,zBj (by omega),fxz c5];rfl)|(rw [tyErr,zBj (by omega),fxn c5];rfl)|(rw [tyErr,tyk0 (by omega) (by omega) (by omega)];rfl))
theorem zNg (b:Int):
    Pur cfg 302 [vI b] (vB (decide (2<=b)&&decide (b<=31))):=by
 refine zW Tryz.func302 O Tryz.ntmps302 Tryz.results302 O ?_
 intro z hz
 refine R O<|G O<|zA<|R O<|G O<|v O (wG O O O)<|G O<|rL0 O (fun g1_2=>zG O O) O<|B 6 O (fun g1_2=>wI O O O) O<|kE O (fun h=>h)<|G O<|zA<|zM<|zX O ?_
 exact O
theorem round_MinInt (b:Int) (h1:2<=b) (h2:b<=31):
    Pur cfg 297 [vI b] (vI (-half b)):=by
 refine zW Tryz.func297 O Tryz.ntmps297 Tryz.results297 O ?_
 intro z hz
 refine R O<|G O<|zA<|zF<|R O<|G O<|qW O ok302 (zNg _) ⟨zB,O,T⟩<|wK O<|zA<|zC O (fun c1=>?_) (fun c1=>?_)
 ·try simp only [sx] at c1
  exact absurd c1 (by omega)
 ·try simp only [sx] at c1
  refine zH<|R O<|G O<|yF O ⟨by omega,by omega⟩<|v O (zDl O us3 zLu O)<|v O (det_shl O O O (by rw [zAc (by omega)];omega))<|v O (det_neg O O)<|G O<|zA<|zM<|zX O ?_
  exact congrArg vI (min_eq h1 h2)
theorem round_MaxInt (b:Int) (h1:2<=b) (h2:b<=31):
    Pur cfg 298 [vI b] (vI (half b-1)):=by
 refine zW Tryz.func298 O Tryz.ntmps298 Tryz.results298 O ?_
 intro z hz
 refine R O<|G O<|zA<|zF<|R O<|G O<|qW O ok302 (zNg _) ⟨zB,O,T⟩<|wK O<|zA<|zC O (fun c1=>?_) (fun c1=>?_)
 ·try simp only [sx] at c1
  exact absurd c1 (by omega)
 ·try simp only [sx] at c1
  refine zH<|R O<|G O<|yF O ⟨by omega,by omega⟩<|v O (zDl O us3 zLu O)<|v O (det_shl O O O (by rw [zAc (by omega)];omega))<|v O (det_sub O O O)<|G O<|zA<|zM<|zX O ?_
  exact congrArg vI (max_eq h1 h2)
theorem fixed_Valid (t:Ty) (v:Vl):
    Pur cfg 280 [vTy t,vVal v] (vB (fixOk t&&(decide (v.D=1)&&decide (-half t.Bits<=v.N)&&decide (v.N<half t.Bits)))):=by
 refine zW Tryz.func280 O Tryz.ntmps280 Tryz.results280 O ?_
 intro z hz
 refine R O<|zU O O (qT O O) ?_
 rintro _ _ ⟨b1,rfl,rfl⟩
 refine zU O O (qT O O) ?_
 rintro _ _ ⟨b2,rfl,rfl⟩
 refine G O<|zA<|zF<|qU 25 mixed (by kernel_rfl) O O<|zE O O (qG O yP O (A 1 O) O)<|zE O O (qY O ok90 (zBv _) ⟨zB,O,T⟩)<|zE O O (kJ O O O)<|zE O O (zG O O)<|qM [] O O O O gv1 T (fun g1_3=>zJ O zOh O) O<|qM [(9,_)] O O O O gv1 ⟨O,O,T⟩ (fun g1_3=>zD O one2 O (A 0 O) O) O<|qM [(10,_)] O O O O gv1 ⟨O,O,T⟩ (fun g1_3=>kJ O O O) O<|zE O O (zCc O O O (fun h=>h) O)<|zE O O (zG O O)<|qM [] O O O O gv1 T (fun g1_8=>zJ O zJg O) O<|qM [(14,_)] O O O O gv1 ⟨O,O,T⟩ (fun g1_8=>zD O one2 O (A 0 O) O) O<|qM [] O O O O gv1 T (fun g1_8=>zJ O fd31_1 O) O<|qM [(16,_)] O O O O gv1 ⟨O,O,T⟩ (fun g1_8=>zD O one3 O (A 1 O) O) O<|qM [(17,_)] O O O O gv1 ⟨O,O,T⟩ (fun g1_8=>qY O ok297 (round_MinInt _ (fixB (fxa g1_8)).1 (fixB (fxa g1_8)).2) ⟨zB,O,T⟩) O<|qM [(15,_),(18,_)] O O O O gv1 ⟨O,O,O,O,T⟩ (fun g1_8=>wG O O O) O<|zE O O (zCc O O O (fun h=>h) O)<|zE O O (zG O O)<|qM [] O O O O gv1 T (fun g1_16=>zJ O zJg O) O<|qM [(22,_)] O O O O gv1 ⟨O,O,T⟩ (fun g1_16=>zD O one2 O (A 0 O) O) O<|qM [] O O O O gv1 T (fun g1_16=>zJ O fd31_1 O) O<|qM [(24,_)] O O O O gv1 ⟨O,O,T⟩ (fun g1_16=>zD O one3 O (A 1 O) O) O<|qM [(25,_)] O O O O gv1 ⟨O,O,T⟩ (fun g1_16=>qY O ok298 (round_MaxInt _ (fixB (fxb g1_16)).1 (fixB (fxb g1_16)).2) ⟨zB,O,T⟩) O<|qM [(23,_),(26,_)] O O O O gv1 ⟨O,O,O,O,T⟩ (fun g1_16=>wI O O O) O<|zE O O (zCc O O O (fun h=>h) O)<|zE O O (kG O O)<|yM<|zA<|zM<|zX O ?_
 exact congrArg vB (fixV t v)
theorem value_whole (n:Int):
    Pur cfg 281 [vI n] (vB (num31 n)):=by
 refine zW Tryz.func281 O Tryz.ntmps281 Tryz.results281 O ?_
 intro z hz
 refine R O<|G O<|zA<|R O<|G O<|v O (wG O O O)<|G O<|rL0 O (fun g1_2=>zG O O) O<|B 6 O (fun g1_2=>wI O O O) O<|kE O (fun h=>h)<|G O<|zA<|zM<|zX O ?_
 exact O
theorem frac_inRange (n:Int):
    Pur cfg 188 [vI n] (vB (num31 n)):=by
 refine zW Tryz.func188 O Tryz.ntmps188 Tryz.results188 O ?_
 intro z hz
 refine R O<|G O<|zA<|R O<|G O<|v O (wG O O O)<|G O<|rL0 O (fun g1_2=>zG O O) O<|B 6 O (fun g1_2=>wI O O O) O<|kE O (fun h=>h)<|G O<|zA<|zM<|zX O ?_
 exact O
theorem frac_magnitude (n:Int) (hn: -9223372036854775808<=n) (hm:n<=9223372036854775807):
    Pur cfg 190 [vI n] (vU64 n.natAbs):=by
 refine zW Tryz.func190 O Tryz.ntmps190 Tryz.results190 O ?_
 intro z hz
 refine R O<|G O<|zA<|zF<|R O<|G O<|yE O<|zA<|zC O (fun c1=>?_) (fun c1=>?_)
 ·try simp only [sx] at c1
  refine R O<|G O<|v O (zDl O us2 ik231 O)<|v O (det_neg O O)<|G O<|zA<|zM<|zX O ?_
  exact congrArg vU64 (mag_neg c1 hn)
 ·try simp only [sx] at c1
  refine zH<|R O<|G O<|v O (zDl O us2 ik231 O)<|G O<|zA<|zM<|zX O ?_
  exact congrArg vU64 (mag_pos (by omega) hm)
theorem frac_gcd (a b:Nat):
    Pur cfg 189 [vU64 a,vU64 b] (vU64 (Nat.gcd a b)):=by
 refine zW Tryz.func189 O Tryz.ntmps189 Tryz.results189 O ?_
 intro z hz
 refine R O<|G O<|zA<|zF<|zQ<|zS ⟨[(0,.c _),(1,.c _)],[]⟩ (Weak.mk [] ⟨zB,zB,T⟩ O)<|qJ 2 0 O O (Nat×Nat) (fun ⟨x,y⟩=>[(0,vU64 x),(1,vU64 y)]) (fun ⟨x,y⟩=>[]) (fun ⟨x,y⟩=>Nat.gcd a b=Nat.gcd x y) (fun ⟨x,y⟩=>y) ⟨⟨a,b⟩,O,Weak.mk [] ⟨zB,zB,T⟩ O⟩ ?_
 rintro ⟨x,y⟩ hg
 refine zF<|R O<|G O<|wL O<|zA<|zC O (fun c1=>?_) (fun c1=>?_)
 ·try simp only [sx] at c1
  refine zH<|zQ<|qU 6 mixed (by kernel_rfl) O O<|zE O O (zG O O)<|zE O O (zG O O)<|zE O O (zG O O)<|zE O O (det_rem O O O (by omega))<|zE O O (kG O O)<|zE O O (kG O O)<|yM<|zA ?_
  refine ⟨⟨y,x%y⟩,(by rw [hg];exact gcd_step (by omega)),(Nat.mod_lt _ (by omega)),Weak.mk [] ⟨zB,VLe.of_eq (congrArg vU64 (Int.ofNat_tmod x y).symm),T⟩ O⟩
 ·try simp only [sx] at c1
  refine qL<|R O<|G O<|G O<|zA<|zM<|zX O ?_
  exact congrArg vU64 (by rw [hg,show y=0 by omega,Nat.gcd_zero_right])
theorem frac_Valid (v:Vl):
    Pur cfg 163 [vVal v] (vB (decide (1<=v.D)&&decide (v.D<=2147483647)&&num31 v.N&&decide (Int.gcd v.N v.D=1))):=by
 refine zW Tryz.func163 O Tryz.ntmps163 Tryz.results163 O ?_
 intro z hz
 refine R O<|zU O O (qT O O) ?_
 rintro _ _ ⟨b1,rfl,rfl⟩
 refine G O<|zA<|zF<|qU 24 mixed (by kernel_rfl) O O<|zE O O (zJ O zOh O)<|zE O O (zD O one2 O (A 0 O) O)<|zE O O (wG O O O)<|zE O O (zG O O)<|qM [] O O O O gv1 T (fun g1_3=>zJ O zOh O) O<|qM [(7,_)] O O O O gv1 ⟨O,O,T⟩ (fun g1_3=>zD O one2 O (A 0 O) O) O<|qM [(8,_)] O O O O gv1 ⟨O,O,T⟩ (fun g1_3=>wI O O O) O<|zE O O (zCc O O O (fun h=>h) O)<|zE O O (zG O O)<|qM [] O O O O gv1 T (fun g1_8=>zJ O zJg O) O<|qM [(12,_)] O O O O gv1 ⟨O,O,T⟩ (fun g1_8=>zD O one2 O (A 0 O) O) O<|qM [(13,_)] O O O O gv1 ⟨O,O,T⟩ (fun g1_8=>qY O ok188 (frac_inRange _) ⟨zB,O,T⟩) O<|zE O O (zCc O O O (fun h=>h) O)<|zE O O (zG O O)<|qM [] O O O O gv1 T (fun g1_13=>zJ O zJg O) O<|qM [(17,_)] O O O O gv1 ⟨O,O,T⟩ (fun g1_13=>zD O one2 O (A 0 O) O) O<|qM [(18,_)] O O O O gv1 ⟨O,O,T⟩ (fun g1_13=>qY O ok190 (frac_magnitude v.N (frV g1_13).2.2.1 (frV g1_13).2.2.2) ⟨zB,O,T⟩) O<|qM [] O O O O gv1 T (fun g1_13=>zJ O zOh O) O<|qM [(20,_)] O O O O gv1 ⟨O,O,T⟩ (fun g1_13=>zD O one2 O (A 0 O) O) O<|qM [(21,_)] O O O O gv1 ⟨O,O,T⟩ (fun g1_13=>zDl O us2 ik231 O) O<|qM [(19,_),(22,_)] O O O O gv1 ⟨O,O,O,O,T⟩ (fun g1_13=>qY O ok189 (show Pur cfg 189 [vU64 v.N.natAbs,vU64 (IntKind.u64.wrap v.D)] (vU64 (Nat.gcd v.N.natAbs v.D.natAbs)) from by rw [u64_D (frV g1_13).1 (frV g1_13).2.1];exact frac_gcd _ _) ⟨zB,O,zB,O,T⟩) O<|qM [(23,_)] O O O O gv1 ⟨O,O,T⟩ (fun g1_13=>kJ O O O) O<|zE O O (zCc O O O (fun h=>h) O)<|zE O O (kG O O)<|yM<|zA<|zM<|zX O ?_
 exact congrArg vB (by rw [show (decide (((Nat.gcd v.N.natAbs v.D.natAbs:Nat):Int)=1))=decide (Int.gcd v.N v.D=1) from decide_eq_decide.2 (by unfold Int.gcd;omega)])
theorem value_Valid (t:Ty) (v:Vl):
    Pur cfg 245 [vTy t,vVal v] (vB (tyOk t&&valOk t v)):=by
 refine zW Tryz.func245 O Tryz.ntmps245 Tryz.results245 O ?_
 intro z hz
 refine R O<|zU O O (qT O O) ?_
 rintro _ _ ⟨b1,rfl,rfl⟩
 refine zU O O (qT O O) ?_
 rintro _ _ ⟨b2,rfl,rfl⟩
 refine G O<|zA<|zF<|R O<|zP yP (A 1 O) O<|qW O ok39 (zBq _) ⟨zB,O,T⟩<|wL O<|zA<|zC O (fun c1=>?_) (fun c1=>?_)
 ·try simp only [sx] at c1
  have ht:tyOk t=false:=tyErr_ne c1
  refine R O<|G O<|zA<|zM<|zX O ?_
  rw [ht];rfl
 ·try simp only [sx] at c1
  have ht:tyOk t=true:=zGo c1
  refine zH<|zF<|R O<|zN O zOi<|zL one3 (A 1 O) O<|zA<|zQ<|R O<|yO O<|G O<|zA<|zC O (fun c2=>?_) (fun c2=>?_)
  ·try simp only [sx] at c2
   refine R O<|zP yP (A 1 O) O<|zP agg44 (A 0 O) O<|qW O ok280 (fixed_Valid _ _) ⟨zB,O,zB,O,T⟩<|G O<|zA<|zM<|zX O ?_
   exact congrArg vB (by rw [ht,valOk,c2,←zBj c2,ht];rfl)
  ·try simp only [sx] at c2
   refine R O<|yO O<|G O<|zA<|zC O (fun c3=>?_) (fun c3=>?_)
   ·try simp only [sx] at c3
    refine R O<|zN O zOh<|zL one2 (A 0 O) O<|yO O<|G O<|rL0 O (fun g7_3=>zJ O zJg O) O<|B 21 O (fun g7_3=>zD O one2 O (A 0 O) O) O<|B 22 O (fun g7_3=>qY O ok281 (value_whole _) ⟨zB,O,T⟩) O<|kE O (fun h=>h)<|G O<|zA<|zM<|zX O ?_
    exact congrArg vB (by rw [ht,valOk,wQ c2,c3];rfl)
   ·try simp only [sx] at c3
    refine zH<|R O<|zP agg44 (A 0 O) O<|qW O ok163 (frac_Valid _) ⟨zB,O,T⟩<|G O<|zA<|zM<|zX O ?_
    exact congrArg vB (by rw [ht,valOk,wQ c2,wQ c3];rfl)
end Go.W
