/-
  What functions compute.
  Conditions: none.
-/
import Derived.Test.YtdldhbfgfkebjaaGreatDoorWA
set_option linter.unusedSimpArgs false
set_option linter.unusedVariables false
set_option maxRecDepth 10000
namespace Go.W
open Go Go.Eng Go.Proofs Go.L41 Go.Br
attribute [local irreducible] AWP RWP TD fY
theorem yH:lI Tryz.prog 31=some 5:=by kernel_rfl
theorem zTv:lI Tryz.prog 44=some 2:=by kernel_rfl
theorem zGa:bD Tryz.prog 31 0=some (0,3):=by kernel_rfl
theorem zKd:bD Tryz.prog 31 1=some (1,3):=by kernel_rfl
theorem zSy:bD Tryz.prog 31 2=some (2,3):=by kernel_rfl
theorem zSx:bD Tryz.prog 31 3=some (3,3):=by kernel_rfl
theorem zSw:bD Tryz.prog 31 4=some (4,3):=by kernel_rfl
theorem zAq:bD Tryz.prog 44 0=some (0,2):=by kernel_rfl
theorem zHi:bD Tryz.prog 44 1=some (1,2):=by kernel_rfl
theorem fl31:rO Tryz.prog 31=some [.int,.int,.int,.int,.int]:=by kernel_rfl
theorem ik231:tO Tryz.prog 231=some .u64:=by kernel_rfl
theorem ik237:tO Tryz.prog 237=some .u64:=by kernel_rfl
theorem ok39:bA Tryz.prog 39=true:=by kernel_rfl
theorem ok89:bA Tryz.prog 89=true:=by kernel_rfl
theorem ok90:bA Tryz.prog 90=true:=by kernel_rfl
theorem ok163:bA Tryz.prog 163=true:=by kernel_rfl
theorem ok188:bA Tryz.prog 188=true:=by kernel_rfl
theorem ok189:bA Tryz.prog 189=true:=by kernel_rfl
theorem ok190:bA Tryz.prog 190=true:=by kernel_rfl
theorem ok280:bA Tryz.prog 280=true:=by kernel_rfl
theorem ok281:bA Tryz.prog 281=true:=by kernel_rfl
theorem ok286:bA Tryz.prog 286=true:=by kernel_rfl
theorem ok297:bA Tryz.prog 297=true:=by kernel_rfl
theorem ok298:bA Tryz.prog 298=true:=by kernel_rfl
theorem ok302:bA Tryz.prog 302=true:=by kernel_rfl
theorem one3:jQ Tryz.prog 3=true:=by kernel_rfl
theorem pl31:fL Tryz.prog 31=some [(0,1),(1,1),(2,1),(3,1),(4,1)]:=by kernel_rfl
theorem us2:(Tryz.prog.underlying 2).isSome=true:=by kernel_rfl
theorem us3:(Tryz.prog.underlying 3).isSome=true:=by kernel_rfl
theorem zr31:dS Tryz.prog 31=some [(Value.int IntKind.i64 0),(Value.int IntKind.i64 0),(Value.int IntKind.i64 0),(Value.int IntKind.i64 0),(Value.int IntKind.i64 0)]:=by kernel_rfl
theorem zQx (t:Ty):
    Pur cfg 89 [vTy t] (vB (sO t)):=by
 refine zU Tryz.func89 O Tryz.ntmps89 Tryz.results89 O ?_
 intro z hz
 refine R O<|zV O O (qO O O) ?_
 rintro _ _ ⟨b1,rfl,rfl⟩
 refine G O<|zA<|R O<|zO yH (Y 0 O) O<|zG O zGa<|zH one3 (Y 0 O) O<|yZ O zr31 pl31<|zW O (zQh O fl31 O O O)<|G O<|zA<|zK<|zR O ?_
 exact congrArg vB (plainT_eq t)
theorem zCw (t:Ty):
    Pur cfg 90 [vTy t] (vI (bif gI t then 0 else 10)):=by
 refine zU Tryz.func90 O Tryz.ntmps90 Tryz.results90 O ?_
 intro z hz
 refine R O<|zV O O (qO O O) ?_
 rintro _ _ ⟨b1,rfl,rfl⟩
 refine G O<|zA<|R O<|zG O zSx<|zH one3 (Y 0 O) O<|zW O (kN O O O)<|G O<|rL0 O (fun g1_3=>zD O zSx O) O<|A 8 O (fun g1_3=>zF O one3 O (Y 0 O) O) O<|A 9 O (fun g1_3=>kQ O O O) O<|yK O (fun h=>h)<|G O<|rL0 O (fun g1_8=>zD O zSw O) O<|A 13 O (fun g1_8=>zF O one3 O (Y 0 O) O) O<|A 14 O (fun g1_8=>yO O O O) O<|A 15 O (fun g1_8=>zN O O) O<|rLz [] O N T (fun g1_12=>zD O zSw O) O<|rLz [(17,_)] O N ⟨O,O,T⟩ (fun g1_12=>zF O one3 O (Y 0 O) O) O<|rLz [(18,_)] O N ⟨O,O,T⟩ (fun g1_12=>yO O O O) O<|A 16 O (fun g1_8=>zAz O O O O (fun h=>kH (by assumption) (lzf h))) O<|yK O (fun h=>h)<|G O<|zA<|zI<|R O<|zG O zGa<|zH one3 (Y 0 O) O<|kU O<|G O<|rL0 O (fun g2_3=>zD O zKd O) O<|A 26 O (fun g2_3=>zF O one3 O (Y 0 O) O) O<|A 27 O (fun g2_3=>kM O O O) O<|r_or O (fun h=>(lzf h))<|G O<|rL0 O (fun g2_8=>zD O zKd O) O<|A 31 O (fun g2_8=>zF O one3 O (Y 0 O) O) O<|A 32 O (fun g2_8=>yG O O O) O<|r_or O (fun h=>(lzf h))<|G O<|rL0 O (fun g2_13=>zD O zSy O) O<|A 36 O (fun g2_13=>zF O one3 O (Y 0 O) O) O<|A 37 O (fun g2_13=>kM O O O) O<|r_or O (fun h=>(lzf h))<|G O<|rL0 O (fun g2_18=>zD O zSy O) O<|A 41 O (fun g2_18=>zF O one3 O (Y 0 O) O) O<|A 42 O (fun g2_18=>yG O O O) O<|r_or O (fun h=>(lzf h))<|G O<|rL0 O (fun g2_23=>zN O O) O<|A 46 O (fun g2_23=>wA O O) O<|r_or O (fun h=>(lzf h))<|zA<|zC O (fun c1=>?_) (fun c1=>?_)
 ·refine R O<|G O<|zA<|zK<|zR O ?_
  rw [show gI t=false from fix_no c1];rfl
 ·refine zJ<|R O<|G O<|zA<|zK<|zR O ?_
  rw [show gI t=true from fix_yes c1];rfl
theorem zAj (t:Ty):
    Pur cfg 39 [vTy t] (vI (dE t)):=by
 refine zU Tryz.func39 O Tryz.ntmps39 Tryz.results39 O ?_
 intro z hz
 refine R O<|zV O O (qO O O) ?_
 rintro _ _ ⟨b1,rfl,rfl⟩
 refine G O<|zA<|zI<|R O<|zG O zGa<|zH one3 (Y 0 O) O<|zA<|zP<|zI<|R O<|qZ O<|G O<|zA<|zC O (fun c1=>?_) (fun c1=>?_)
 ·try simp only [sx] at c1
  refine zJ<|zC O (fun c2=>?_) (fun c2=>?_)
  ·exact v18
  ·exact l9
 ·try simp only [sx] at c1
  refine zM O<|qZ O<|G O<|zA<|zC O (fun c2=>?_) (fun c2=>?_)
  ·exact v18
  ·exact l9
theorem base_Type (t:Ty):
    Pur cfg 121 [vTy t] (vB (dO t)):=by
 refine zU Tryz.func121 O Tryz.ntmps121 Tryz.results121 O ?_
 intro z hz
 refine R O<|zV O O (qO O O) ?_
 rintro _ _ ⟨b1,rfl,rfl⟩
 refine G O<|zA<|zI<|R O<|zG O zGa<|zH one3 (Y 0 O) O<|qZ O<|G O<|rL0 O (fun g1_3=>zD O zGa O) O<|A 7 O (fun g1_3=>zF O one3 O (Y 0 O) O) O<|A 8 O (fun g1_3=>yO O O O) O<|r_or O (fun h=>(lzf h))<|zA<|zC O (fun c1=>?_) (fun c1=>?_)
 ·refine R O<|zG O zKd<|zH one3 (Y 0 O) O<|qZ O<|G O<|rL0 O (fun g2_3=>zD O zSy O) O<|A 15 O (fun g2_3=>zF O one3 O (Y 0 O) O) O<|A 16 O (fun g2_3=>yO O O O) O<|yK O (fun h=>h)<|G O<|rL0 O (fun g2_8=>zD O zSx O) O<|A 20 O (fun g2_8=>zF O one3 O (Y 0 O) O) O<|A 21 O (fun g2_8=>yO O O O) O<|yK O (fun h=>h)<|G O<|rL0 O (fun g2_13=>zD O zSw O) O<|A 25 O (fun g2_13=>zF O one3 O (Y 0 O) O) O<|A 26 O (fun g2_13=>yO O O O) O<|yK O (fun h=>h)<|G O<|zA<|zK<|zR O ?_
  exact congrArg vB (type1 c1)
 ·refine zJ<|R O<|zG O zGa<|zH one3 (Y 0 O) O<|qZ O<|G O<|rL0 O (fun g3_3=>zD O zKd O) O<|A 33 O (fun g3_3=>zF O one3 O (Y 0 O) O) O<|A 34 O (fun g3_3=>kN O O O) O<|yK O (fun h=>h)<|G O<|rL0 O (fun g3_8=>zD O zKd O) O<|A 38 O (fun g3_8=>zF O one3 O (Y 0 O) O) O<|A 39 O (fun g3_8=>kQ O O O) O<|yK O (fun h=>h)<|G O<|rL0 O (fun g3_13=>zD O zSy O) O<|A 43 O (fun g3_13=>zF O one3 O (Y 0 O) O) O<|A 44 O (fun g3_13=>kN O O O) O<|yK O (fun h=>h)<|G O<|rL0 O (fun g3_18=>zD O zSy O) O<|A 48 O (fun g3_18=>zF O one3 O (Y 0 O) O) O<|A 49 O (fun g3_18=>kQ O O O) O<|yK O (fun h=>h)<|G O<|rL0 O (fun g3_23=>zD O zSx O) O<|A 53 O (fun g3_23=>zF O one3 O (Y 0 O) O) O<|A 54 O (fun g3_23=>kN O O O) O<|yK O (fun h=>h)<|G O<|rL0 O (fun g3_28=>zD O zSx O) O<|A 58 O (fun g3_28=>zF O one3 O (Y 0 O) O) O<|A 59 O (fun g3_28=>kQ O O O) O<|yK O (fun h=>h)<|G O<|rL0 O (fun g3_33=>zD O zSw O) O<|A 63 O (fun g3_33=>zF O one3 O (Y 0 O) O) O<|A 64 O (fun g3_33=>yO O O O) O<|A 65 O (fun g3_33=>zN O O) O<|rLz [] O N T (fun g3_37=>zD O zSw O) O<|rLz [(67,_)] O N ⟨O,O,T⟩ (fun g3_37=>zF O one3 O (Y 0 O) O) O<|rLz [(68,_)] O N ⟨O,O,T⟩ (fun g3_37=>yO O O O) O<|A 66 O (fun g3_33=>zAz O O O O (fun h=>kH (by assumption) (lzf h))) O<|yK O (fun h=>h)<|G O<|zA<|zK<|zR O ?_
  exact congrArg vB (type2 c1)
theorem zRn (b:Int):
    Pur cfg 302 [vI b] (vB (decide (2<=b)&&decide (b<=31))):=by
 refine zU Tryz.func302 O Tryz.ntmps302 Tryz.results302 O ?_
 exact o8
theorem round_MinInt (b:Int) (h1:2<=b) (h2:b<=31):
    Pur cfg 297 [vI b] (vI (-mK b)):=by
 refine zU Tryz.func297 O Tryz.ntmps297 Tryz.results297 O ?_
 intro z hz
 refine R O<|G O<|zA<|zI<|R O<|G O<|qN O ok302 (zRn _) ⟨zB,O,T⟩<|kP O<|zA<|zC O (fun c1=>?_) (fun c1=>?_)
 ·try simp only [sx] at c1
  exact absurd c1 (by omega)
 ·try simp only [sx] at c1
  refine zJ<|R O<|G O<|yY O ⟨by omega,by omega⟩<|zW O (zFf O us3 ik237 O)<|zW O (det_shl O O O (by rw [zCq (by omega)];omega))<|zW O (det_neg O O)<|G O<|zA<|zK<|zR O ?_
  exact congrArg vI (min_eq h1 h2)
theorem round_MaxInt (b:Int) (h1:2<=b) (h2:b<=31):
    Pur cfg 298 [vI b] (vI (mK b-1)):=by
 refine zU Tryz.func298 O Tryz.ntmps298 Tryz.results298 O ?_
 intro z hz
 refine R O<|G O<|zA<|zI<|R O<|G O<|qN O ok302 (zRn _) ⟨zB,O,T⟩<|kP O<|zA<|zC O (fun c1=>?_) (fun c1=>?_)
 ·try simp only [sx] at c1
  exact absurd c1 (by omega)
 ·try simp only [sx] at c1
  refine zJ<|R O<|G O<|yY O ⟨by omega,by omega⟩<|zW O (zFf O us3 ik237 O)<|zW O (det_shl O O O (by rw [zCq (by omega)];omega))<|zW O (det_sub O O O)<|G O<|zA<|zK<|zR O ?_
  exact congrArg vI (max_eq h1 h2)
theorem fixed_Valid (t:Ty) (v:Vl):
    Pur cfg 280 [vTy t,xQ v] (vB (gI t&&(decide (v.D=1)&&decide (-mK t.Bits<=v.N)&&decide (v.N<mK t.Bits)))):=by
 refine zU Tryz.func280 O Tryz.ntmps280 Tryz.results280 O ?_
 intro z hz
 refine R O<|zV O O (qO O O) ?_
 rintro _ _ ⟨b1,rfl,rfl⟩
 refine zV O O (qO O O) ?_
 rintro _ _ ⟨b2,rfl,rfl⟩
 refine G O<|zA<|zI<|qW 25 mixed (by kernel_rfl) O O<|zL O O (qC O yH O (Y 1 O) O)<|zL O O (qS O ok90 (zCw _) ⟨zB,O,T⟩)<|zL O O (yO O O O)<|zL O O (zN O O)<|qJ [] O O O O J T (fun g1_3=>zD O zHi O) O<|qJ [(9,_)] O O O O J ⟨O,O,T⟩ (fun g1_3=>zF O W O (Y 0 O) O) O<|qJ [(10,_)] O O O O J ⟨O,O,T⟩ (fun g1_3=>yO O O O) O<|zL O O (wU O O O (fun h=>h) O)<|zL O O (zN O O)<|qJ [] O O O O J T (fun g1_8=>zD O zAq O) O<|qJ [(14,_)] O O O O J ⟨O,O,T⟩ (fun g1_8=>zF O W O (Y 0 O) O) O<|qJ [] O O O O J T (fun g1_8=>zD O zKd O) O<|qJ [(16,_)] O O O O J ⟨O,O,T⟩ (fun g1_8=>zF O one3 O (Y 1 O) O) O<|qJ [(17,_)] O O O O J ⟨O,O,T⟩ (fun g1_8=>qS O ok297 (round_MinInt _ (fixB (fxa g1_8)).1 (fixB (fxa g1_8)).2) ⟨zB,O,T⟩) O<|qJ [(15,_),(18,_)] O O O O J ⟨O,O,O,O,T⟩ (fun g1_8=>kN O O O) O<|zL O O (wU O O O (fun h=>h) O)<|zL O O (zN O O)<|qJ [] O O O O J T (fun g1_16=>zD O zAq O) O<|qJ [(22,_)] O O O O J ⟨O,O,T⟩ (fun g1_16=>zF O W O (Y 0 O) O) O<|qJ [] O O O O J T (fun g1_16=>zD O zKd O) O<|qJ [(24,_)] O O O O J ⟨O,O,T⟩ (fun g1_16=>zF O one3 O (Y 1 O) O) O<|qJ [(25,_)] O O O O J ⟨O,O,T⟩ (fun g1_16=>qS O ok298 (round_MaxInt _ (fixB (fxb g1_16)).1 (fixB (fxb g1_16)).2) ⟨zB,O,T⟩) O<|qJ [(23,_),(26,_)] O O O O J ⟨O,O,O,O,T⟩ (fun g1_16=>kQ O O O) O<|zL O O (wU O O O (fun h=>h) O)<|zL O O (yU O O)<|yJ<|zA<|zK<|zR O ?_
 exact congrArg vB (fixV t v)
theorem value_whole (n:Int):
    Pur cfg 281 [vI n] (vB (fG n)):=by
 refine zU Tryz.func281 O Tryz.ntmps281 Tryz.results281 O ?_
 exact o8
theorem frac_inRange (n:Int):
    Pur cfg 188 [vI n] (vB (fG n)):=by
 refine zU Tryz.func188 O Tryz.ntmps188 Tryz.results188 O ?_
 exact o8
theorem frac_magnitude (n:Int) (hn: -9223372036854775808<=n) (hm:n<=9223372036854775807):
    Pur cfg 190 [vI n] (pJ n.natAbs):=by
 refine zU Tryz.func190 O Tryz.ntmps190 Tryz.results190 O ?_
 intro z hz
 refine R O<|G O<|zA<|zI<|R O<|G O<|yB O<|zA<|zC O (fun c1=>?_) (fun c1=>?_)
 ·try simp only [sx] at c1
  refine R O<|G O<|zW O (zFf O us2 ik231 O)<|zW O (det_neg O O)<|G O<|zA<|zK<|zR O ?_
  exact congrArg pJ (mag_neg c1 hn)
 ·try simp only [sx] at c1
  refine zJ<|R O<|G O<|zW O (zFf O us2 ik231 O)<|G O<|zA<|zK<|zR O ?_
  exact congrArg pJ (mag_pos (by omega) hm)
theorem frac_gcd (a b:Nat):
    Pur cfg 189 [pJ a,pJ b] (pJ (Nat.gcd a b)):=by
 refine zU Tryz.func189 O Tryz.ntmps189 Tryz.results189 O ?_
 intro z hz
 refine R O<|G O<|zA<|zI<|zP<|zT ⟨[(0,.c _),(1,.c _)],[]⟩ (Weak.mk [] ⟨zB,zB,T⟩ O)<|qG 2 0 O O (Nat×Nat) (fun ⟨x,y⟩=>[(0,pJ x),(1,pJ y)]) (fun ⟨x,y⟩=>[]) (fun ⟨x,y⟩=>Nat.gcd a b=Nat.gcd x y) (fun ⟨x,y⟩=>y) ⟨⟨a,b⟩,O,Weak.mk [] ⟨zB,zB,T⟩ O⟩ ?_
 rintro ⟨x,y⟩ hg
 refine zI<|R O<|G O<|kU O<|zA<|zC O (fun c1=>?_) (fun c1=>?_)
 ·try simp only [sx] at c1
  refine zJ<|zP<|qW 6 mixed (by kernel_rfl) O O<|zL O O (zN O O)<|zL O O (zN O O)<|zL O O (zN O O)<|zL O O (det_rem O O O (by omega))<|zL O O (yU O O)<|zL O O (yU O O)<|yJ<|zA ?_
  refine ⟨⟨y,x%y⟩,(by rw [hg];exact gcd_step (by omega)),(Nat.mod_lt _ (by omega)),Weak.mk [] ⟨zB,VLe.of_eq (congrArg pJ (Int.ofNat_tmod x y).symm),T⟩ O⟩
 ·try simp only [sx] at c1
  refine qH<|R O<|G O<|G O<|zA<|zK<|zR O ?_
  exact congrArg pJ (by rw [hg,show y=0 by omega,Nat.gcd_zero_right])
theorem base_gcd (a b:Nat):
    Pur cfg 286 [vI a,vI b] (vI (Nat.gcd a b)):=by
 refine zU Tryz.func286 O Tryz.ntmps286 Tryz.results286 O ?_
 intro z hz
 refine R O<|G O<|zA<|zI<|zP<|zT ⟨[(0,.c _),(1,.c _)],[]⟩ (Weak.mk [] ⟨zB,zB,T⟩ O)<|qG 2 0 O O (Nat×Nat) (fun ⟨x,y⟩=>[(0,vI x),(1,vI y)]) (fun ⟨x,y⟩=>[]) (fun ⟨x,y⟩=>Nat.gcd a b=Nat.gcd x y) (fun ⟨x,y⟩=>y) ⟨⟨a,b⟩,O,Weak.mk [] ⟨zB,zB,T⟩ O⟩ ?_
 rintro ⟨x,y⟩ hg
 refine zI<|R O<|G O<|kU O<|zA<|zC O (fun c1=>?_) (fun c1=>?_)
 ·try simp only [sx] at c1
  refine zJ<|zP<|qW 6 mixed (by kernel_rfl) O O<|zL O O (zN O O)<|zL O O (zN O O)<|zL O O (zN O O)<|zL O O (det_rem O O O (by omega))<|zL O O (yU O O)<|zL O O (yU O O)<|yJ<|zA ?_
  refine ⟨⟨y,x%y⟩,(by rw [hg];exact gcd_step (by omega)),(Nat.mod_lt _ (by omega)),Weak.mk [] ⟨zB,VLe.of_eq (congrArg vI (Int.ofNat_tmod x y).symm),T⟩ O⟩
 ·try simp only [sx] at c1
  refine qH<|R O<|G O<|G O<|zA<|zK<|zR O ?_
  exact congrArg vI (by rw [hg,show y=0 by omega,Nat.gcd_zero_right])
theorem frac_Valid (v:Vl):
    Pur cfg 163 [xQ v] (vB (decide (1<=v.D)&&decide (v.D<=2147483647)&&fG v.N&&decide (Int.gcd v.N v.D=1))):=by
 refine zU Tryz.func163 O Tryz.ntmps163 Tryz.results163 O ?_
 intro z hz
 refine R O<|zV O O (qO O O) ?_
 rintro _ _ ⟨b1,rfl,rfl⟩
 refine G O<|zA<|zI<|qW 24 mixed (by kernel_rfl) O O<|zL O O (zD O zHi O)<|zL O O (zF O W O (Y 0 O) O)<|zL O O (kN O O O)<|zL O O (zN O O)<|qJ [] O O O O J T (fun g1_3=>zD O zHi O) O<|qJ [(7,_)] O O O O J ⟨O,O,T⟩ (fun g1_3=>zF O W O (Y 0 O) O) O<|qJ [(8,_)] O O O O J ⟨O,O,T⟩ (fun g1_3=>kQ O O O) O<|zL O O (wU O O O (fun h=>h) O)<|zL O O (zN O O)<|qJ [] O O O O J T (fun g1_8=>zD O zAq O) O<|qJ [(12,_)] O O O O J ⟨O,O,T⟩ (fun g1_8=>zF O W O (Y 0 O) O) O<|qJ [(13,_)] O O O O J ⟨O,O,T⟩ (fun g1_8=>qS O ok188 (frac_inRange _) ⟨zB,O,T⟩) O<|zL O O (wU O O O (fun h=>h) O)<|zL O O (zN O O)<|qJ [] O O O O J T (fun g1_13=>zD O zAq O) O<|qJ [(17,_)] O O O O J ⟨O,O,T⟩ (fun g1_13=>zF O W O (Y 0 O) O) O<|qJ [(18,_)] O O O O J ⟨O,O,T⟩ (fun g1_13=>qS O ok190 (frac_magnitude v.N (frV g1_13).2.2.1 (frV g1_13).2.2.2) ⟨zB,O,T⟩) O<|qJ [] O O O O J T (fun g1_13=>zD O zHi O) O<|qJ [(20,_)] O O O O J ⟨O,O,T⟩ (fun g1_13=>zF O W O (Y 0 O) O) O<|qJ [(21,_)] O O O O J ⟨O,O,T⟩ (fun g1_13=>zFf O us2 ik231 O) O<|qJ [(19,_),(22,_)] O O O O J ⟨O,O,O,O,T⟩ (fun g1_13=>qS O ok189 (show Pur cfg 189 [pJ v.N.natAbs,pJ (IntKind.u64.wrap v.D)] (pJ (Nat.gcd v.N.natAbs v.D.natAbs)) from by rw [u64_D (frV g1_13).1 (frV g1_13).2.1];exact frac_gcd _ _) ⟨zB,O,zB,O,T⟩) O<|qJ [(23,_)] O O O O J ⟨O,O,T⟩ (fun g1_13=>yO O O O) O<|zL O O (wU O O O (fun h=>h) O)<|zL O O (yU O O)<|yJ<|zA<|zK<|zR O ?_
 exact congrArg vB (by rw [show (decide (((Nat.gcd v.N.natAbs v.D.natAbs:Nat):Int)=1))=decide (Int.gcd v.N v.D=1) from decide_eq_decide.2 (by unfold Int.gcd;omega)])
theorem value_Valid (t:Ty) (v:Vl):
    Pur cfg 245 [vTy t,xQ v] (vB (dO t&&jG t v)):=by
 refine zU Tryz.func245 O Tryz.ntmps245 Tryz.results245 O ?_
 intro z hz
 refine R O<|zV O O (qO O O) ?_
 rintro _ _ ⟨b1,rfl,rfl⟩
 refine zV O O (qO O O) ?_
 rintro _ _ ⟨b2,rfl,rfl⟩
 refine G O<|zA<|zI<|R O<|zO yH (Y 1 O) O<|qN O ok39 (zAj _) ⟨zB,O,T⟩<|kU O<|zA<|zC O (fun c1=>?_) (fun c1=>?_)
 ·try simp only [sx] at c1
  have ht:dO t=false:=zPl c1
  refine R O<|G O<|zA<|zK<|zR O ?_
  rw [ht];rfl
 ·try simp only [sx] at c1
  have ht:dO t=true:=zGk c1
  refine zJ<|zI<|R O<|zG O zGa<|zH one3 (Y 1 O) O<|zA<|zP<|R O<|qZ O<|G O<|zA<|zC O (fun c2=>?_) (fun c2=>?_)
  ·try simp only [sx] at c2
   refine R O<|zO yH (Y 1 O) O<|zO zTv (Y 0 O) O<|qN O ok280 (fixed_Valid _ _) ⟨zB,O,zB,O,T⟩<|G O<|zA<|zK<|zR O ?_
   exact congrArg vB (by rw [ht,jG,c2,←zBt c2,ht];rfl)
  ·try simp only [sx] at c2
   refine R O<|qZ O<|G O<|zA<|zC O (fun c3=>?_) (fun c3=>?_)
   ·try simp only [sx] at c3
    refine R O<|zG O zHi<|zH W (Y 0 O) O<|qZ O<|G O<|rL0 O (fun g7_3=>zD O zAq O) O<|A 21 O (fun g7_3=>zF O W O (Y 0 O) O) O<|A 22 O (fun g7_3=>qS O ok281 (value_whole _) ⟨zB,O,T⟩) O<|yK O (fun h=>h)<|G O<|zA<|zK<|zR O ?_
    exact congrArg vB (by rw [ht,jG,yV c2,c3];rfl)
   ·try simp only [sx] at c3
    refine zJ<|R O<|zO zTv (Y 0 O) O<|qN O ok163 (frac_Valid _) ⟨zB,O,T⟩<|G O<|zA<|zK<|zR O ?_
    exact congrArg vB (by rw [ht,jG,yV c2,yV c3];rfl)
theorem base_Val (t:Ty) (v:Vl) (ht:dO t=true):
    Pur cfg 259 [vTy t,xQ v] (vB (jG t v)):=by
 refine zU Tryz.func259 O Tryz.ntmps259 Tryz.results259 O ?_
 intro z hz
 refine R O<|zV O O (qO O O) ?_
 rintro _ _ ⟨b1,rfl,rfl⟩
 refine zV O O (qO O O) ?_
 rintro _ _ ⟨b2,rfl,rfl⟩
 refine G O<|zA<|zI<|R O<|zG O zGa<|zH one3 (Y 1 O) O<|qZ O<|zA<|zC O (fun c1=>?_) (fun c1=>?_)
 ·try simp only [sx] at c1
  obtain ⟨b1,b2⟩:=fixB (by rw [←zBt c1];exact ht)
  refine R O<|zG O zKd<|zH one3 (Y 1 O) O<|yY O ⟨by omega,by omega⟩<|zW O (det_shl O O O (by omega))<|G O<|zA<|R O<|zG O zHi<|zH W (Y 0 O) O<|qZ O<|G O<|rL0 O (fun g3_3=>zD O zAq O) O<|A 17 O (fun g3_3=>zF O W O (Y 0 O) O) O<|rL0 O (fun g3_3=>zN O O) O<|A 19 O (fun g3_3=>det_neg O O) O<|rLz [(18,_),(20,_)] O J ⟨O,O,O,O,T⟩ (fun g3_3=>kN O O O) O<|yK O (fun h=>h)<|G O<|rL0 O (fun g3_10=>zD O zAq O) O<|A 24 O (fun g3_10=>zF O W O (Y 0 O) O) O<|rL0 O (fun g3_10=>zN O O) O<|rLz [(25,_),(26,_)] O J ⟨O,O,O,O,T⟩ (fun g3_10=>kM O O O) O<|yK O (fun h=>h)<|G O<|zA<|zK<|zR O ?_
  exact congrArg vB (valfix c1 b1 b2)
 ·try simp only [sx] at c1
  refine zJ<|zI<|R O<|zG O zAq<|zH W (Y 0 O) O<|zW O (yG O O O)<|G O<|rL0 O (fun g4_3=>zD O zAq O) O<|A 33 O (fun g4_3=>zF O W O (Y 0 O) O) O<|A 34 O (fun g4_3=>kM O O O) O<|r_or O (fun h=>(lzf h))<|G O<|rL0 O (fun g4_8=>zD O zHi O) O<|A 38 O (fun g4_8=>zF O W O (Y 0 O) O) O<|A 39 O (fun g4_8=>kM O O O) O<|r_or O (fun h=>(lzf h))<|G O<|rL0 O (fun g4_13=>zD O zHi O) O<|A 43 O (fun g4_13=>zF O W O (Y 0 O) O) O<|A 44 O (fun g4_13=>yG O O O) O<|r_or O (fun h=>(lzf h))<|zA<|zC O (fun c2=>?_) (fun c2=>?_)
  ·refine R O<|G O<|zA<|zK<|zR O ?_
   exact congrArg vB (val_out c1 c2).symm
  ·obtain ⟨hN1,hN2,hD1,hD2⟩:=val_in c2
   refine zJ<|zI<|R O<|zG O zGa<|zH one3 (Y 1 O) O<|qZ O<|zA<|zC O (fun c3=>?_) (fun c3=>?_)
   ·try simp only [sx] at c3
    refine R O<|zG O zHi<|zH W (Y 0 O) O<|qZ O<|G O<|zA<|zK<|zR O ?_
    exact congrArg vB (by rw [jG,yV c1,c3];simp [fG,hN1,hN2])
   ·try simp only [sx] at c3
    refine zJ<|R O<|zG O zAq<|zH W (Y 0 O) O<|zG O zAq<|zH W (Y 0 O) O<|zW O (det_neg O O)<|zW O (zFn O O O)<|zG O zHi<|zH W (Y 0 O) O<|qN O ok286 (show Pur cfg 286 [vI (max v.N (IntKind.i64.wrap (-v.N))),vI v.D] (vI (Int.gcd v.N v.D)) from by rw [max_abs hN1 hN2,show v.D=(v.D.natAbs:Int) by omega];exact base_gcd _ _) ⟨zB,O,zB,O,T⟩<|qZ O<|G O<|zA<|zK<|zR O ?_
    exact congrArg vB (by rw [jG,yV c1,yV c3];simp [fG,hN1,hN2,hD1,hD2];omega)
end Go.W
