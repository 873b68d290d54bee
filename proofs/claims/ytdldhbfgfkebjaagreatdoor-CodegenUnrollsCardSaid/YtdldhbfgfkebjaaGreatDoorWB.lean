/-
  What functions compute.
  Conditions: none.
-/
import Derived.Test.YtdldhbfgfkebjaaGreatDoorWA
set_option linter.unusedSimpArgs false
set_option linter.unusedVariables false
set_option maxRecDepth 10000
namespace Go.W
open Go Go.Eng Go.Proofs Go.L41 Go.Br
attribute [local irreducible] AWP RWP TD fP
theorem yG:lK Tryz.prog 31=some 5:=by kernel_rfl
theorem zUo:lK Tryz.prog 44=some 2:=by kernel_rfl
theorem zGr:bD Tryz.prog 31 0=some (0,3):=by kernel_rfl
theorem zKu:bD Tryz.prog 31 1=some (1,3):=by kernel_rfl
theorem zTr:bD Tryz.prog 31 2=some (2,3):=by kernel_rfl
theorem zTq:bD Tryz.prog 31 3=some (3,3):=by kernel_rfl
theorem zTp:bD Tryz.prog 31 4=some (4,3):=by kernel_rfl
theorem zGq:bD Tryz.prog 44 0=some (0,2):=by kernel_rfl
theorem zId:bD Tryz.prog 44 1=some (1,2):=by kernel_rfl
theorem fl31:pJ Tryz.prog 31=some [.int,.int,.int,.int,.int]:=by kernel_rfl
theorem ik231:tD Tryz.prog 231=some .u64:=by kernel_rfl
theorem ik237:tD Tryz.prog 237=some .u64:=by kernel_rfl
theorem ok39:bA Tryz.prog 39=true:=by kernel_rfl
theorem ok89:bA Tryz.prog 89=true:=by kernel_rfl
theorem ok90:bA Tryz.prog 90=true:=by kernel_rfl
theorem ok163:bA Tryz.prog 163=true:=by kernel_rfl
theorem ok188:bA Tryz.prog 188=true:=by kernel_rfl
theorem ok189:bA Tryz.prog 189=true:=by kernel_rfl
theorem ok190:bA Tryz.prog 190=true:=by kernel_rfl
theorem ok280:bA Tryz.prog 280=true:=by kernel_rfl
theorem ok281:bA Tryz.prog 281=true:=by kernel_rfl
theorem ok286:bA Tryz.prog 286=true:=by kernel_rfl
theorem ok297:bA Tryz.prog 297=true:=by kernel_rfl
theorem ok298:bA Tryz.prog 298=true:=by kernel_rfl
theorem ok302:bA Tryz.prog 302=true:=by kernel_rfl
theorem one3:jK Tryz.prog 3=true:=by kernel_rfl
theorem pl31:dN Tryz.prog 31=some [(0,1),(1,1),(2,1),(3,1),(4,1)]:=by kernel_rfl
theorem us2:(Tryz.prog.underlying 2).isSome=true:=by kernel_rfl
theorem us3:(Tryz.prog.underlying 3).isSome=true:=by kernel_rfl
theorem zr31:dL Tryz.prog 31=some [(Value.int IntKind.i64 0),(Value.int IntKind.i64 0),(Value.int IntKind.i64 0),(Value.int IntKind.i64 0),(Value.int IntKind.i64 0)]:=by kernel_rfl
theorem zRs (t:Ty):
    Pur cfg 89 [vTy t] (vB (rZ t)):=by
 refine zW Tryz.func89 O Tryz.ntmps89 Tryz.results89 O ?_
 intro z hz
 refine R O<|zS O O (qP O O) ?_
 rintro _ _ ⟨b1,rfl,rfl⟩
 refine G O<|zA<|R O<|zQ yG (A 0 O) O<|zJ O zGr<|zE one3 (A 0 O) O<|yS O zr31 pl31<|zZ O (zKe O fl31 O O O)<|G O<|zA<|zN<|zV O ?_
 exact congrArg vB (plainT_eq t)
theorem zDj (t:Ty):
    Pur cfg 90 [vTy t] (vI (bif fZ t then 0 else 10)):=by
 refine zW Tryz.func90 O Tryz.ntmps90 Tryz.results90 O ?_
 intro z hz
 refine R O<|zS O O (qP O O) ?_
 rintro _ _ ⟨b1,rfl,rfl⟩
 refine G O<|zA<|R O<|zJ O zTq<|zE one3 (A 0 O) O<|zZ O (kY O O O)<|G O<|rL0 O (fun g1_3=>zH O zTq O) O<|B 8 O (fun g1_3=>zC O one3 O (A 0 O) O) O<|B 9 O (fun g1_3=>wL O O O) O<|yW O (fun h=>h)<|G O<|rL0 O (fun g1_8=>zH O zTp O) O<|B 13 O (fun g1_8=>zC O one3 O (A 0 O) O) O<|B 14 O (fun g1_8=>kH O O O) O<|B 15 O (fun g1_8=>zM O O) O<|rLz [] O N T (fun g1_12=>zH O zTp O) O<|rLz [(17,_)] O N ⟨O,O,T⟩ (fun g1_12=>zC O one3 O (A 0 O) O) O<|rLz [(18,_)] O N ⟨O,O,T⟩ (fun g1_12=>kH O O O) O<|B 16 O (fun g1_8=>zAq O O O O (fun h=>kO (by assumption) (lzf h))) O<|yW O (fun h=>h)<|G O<|zA<|zF<|R O<|zJ O zGr<|zE one3 (A 0 O) O<|wA O<|G O<|rL0 O (fun g2_3=>zH O zKu O) O<|B 26 O (fun g2_3=>zC O one3 O (A 0 O) O) O<|B 27 O (fun g2_3=>kM O O O) O<|r_or O (fun h=>(lzf h))<|G O<|rL0 O (fun g2_8=>zH O zKu O) O<|B 31 O (fun g2_8=>zC O one3 O (A 0 O) O) O<|B 32 O (fun g2_8=>yH O O O) O<|r_or O (fun h=>(lzf h))<|G O<|rL0 O (fun g2_13=>zH O zTr O) O<|B 36 O (fun g2_13=>zC O one3 O (A 0 O) O) O<|B 37 O (fun g2_13=>kM O O O) O<|r_or O (fun h=>(lzf h))<|G O<|rL0 O (fun g2_18=>zH O zTr O) O<|B 41 O (fun g2_18=>zC O one3 O (A 0 O) O) O<|B 42 O (fun g2_18=>yH O O O) O<|r_or O (fun h=>(lzf h))<|G O<|rL0 O (fun g2_23=>zM O O) O<|B 46 O (fun g2_23=>wJ O O) O<|r_or O (fun h=>(lzf h))<|zA<|zD O (fun c1=>?_) (fun c1=>?_)
 ·refine R O<|G O<|zA<|zN<|zV O ?_
  rw [show fZ t=false from fix_no c1];rfl
 ·refine zI<|R O<|G O<|zA<|zN<|zV O ?_
  rw [show fZ t=true from fix_yes c1];rfl
theorem zDd (t:Ty):
    Pur cfg 39 [vTy t] (vI (dD t)):=by
 refine zW Tryz.func39 O Tryz.ntmps39 Tryz.results39 O ?_
 intro z hz
 refine R O<|zS O O (qP O O) ?_
 rintro _ _ ⟨b1,rfl,rfl⟩
 refine G O<|zA<|zF<|R O<|zJ O zGr<|zE one3 (A 0 O) O<|zA<|zP<|zF<|R O<|yE O<|G O<|zA<|zD O (fun c1=>?_) (fun c1=>?_)
 ·try simp only [sx] at c1
  refine zI<|zD O (fun c2=>?_) (fun c2=>?_)
  ·exact v16
  ·exact l8
 ·try simp only [sx] at c1
  refine zK O<|yE O<|G O<|zA<|zD O (fun c2=>?_) (fun c2=>?_)
  ·exact v16
  ·exact l8
theorem base_Type (t:Ty):
    Pur cfg 121 [vTy t] (vB (gV t)):=by
 refine zW Tryz.func121 O Tryz.ntmps121 Tryz.results121 O ?_
 intro z hz
 refine R O<|zS O O (qP O O) ?_
 rintro _ _ ⟨b1,rfl,rfl⟩
 refine G O<|zA<|zF<|R O<|zJ O zGr<|zE one3 (A 0 O) O<|yE O<|G O<|rL0 O (fun g1_3=>zH O zGr O) O<|B 7 O (fun g1_3=>zC O one3 O (A 0 O) O) O<|B 8 O (fun g1_3=>kH O O O) O<|r_or O (fun h=>(lzf h))<|zA<|zD O (fun c1=>?_) (fun c1=>?_)
 ·refine R O<|zJ O zKu<|zE one3 (A 0 O) O<|yE O<|G O<|rL0 O (fun g2_3=>zH O zTr O) O<|B 15 O (fun g2_3=>zC O one3 O (A 0 O) O) O<|B 16 O (fun g2_3=>kH O O O) O<|yW O (fun h=>h)<|G O<|rL0 O (fun g2_8=>zH O zTq O) O<|B 20 O (fun g2_8=>zC O one3 O (A 0 O) O) O<|B 21 O (fun g2_8=>kH O O O) O<|yW O (fun h=>h)<|G O<|rL0 O (fun g2_13=>zH O zTp O) O<|B 25 O (fun g2_13=>zC O one3 O (A 0 O) O) O<|B 26 O (fun g2_13=>kH O O O) O<|yW O (fun h=>h)<|G O<|zA<|zN<|zV O ?_
  exact congrArg vB (type1 c1)
 ·refine zI<|R O<|zJ O zGr<|zE one3 (A 0 O) O<|yE O<|G O<|rL0 O (fun g3_3=>zH O zKu O) O<|B 33 O (fun g3_3=>zC O one3 O (A 0 O) O) O<|B 34 O (fun g3_3=>kY O O O) O<|yW O (fun h=>h)<|G O<|rL0 O (fun g3_8=>zH O zKu O) O<|B 38 O (fun g3_8=>zC O one3 O (A 0 O) O) O<|B 39 O (fun g3_8=>wL O O O) O<|yW O (fun h=>h)<|G O<|rL0 O (fun g3_13=>zH O zTr O) O<|B 43 O (fun g3_13=>zC O one3 O (A 0 O) O) O<|B 44 O (fun g3_13=>kY O O O) O<|yW O (fun h=>h)<|G O<|rL0 O (fun g3_18=>zH O zTr O) O<|B 48 O (fun g3_18=>zC O one3 O (A 0 O) O) O<|B 49 O (fun g3_18=>wL O O O) O<|yW O (fun h=>h)<|G O<|rL0 O (fun g3_23=>zH O zTq O) O<|B 53 O (fun g3_23=>zC O one3 O (A 0 O) O) O<|B 54 O (fun g3_23=>kY O O O) O<|yW O (fun h=>h)<|G O<|rL0 O (fun g3_28=>zH O zTq O) O<|B 58 O (fun g3_28=>zC O one3 O (A 0 O) O) O<|B 59 O (fun g3_28=>wL O O O) O<|yW O (fun h=>h)<|G O<|rL0 O (fun g3_33=>zH O zTp O) O<|B 63 O (fun g3_33=>zC O one3 O (A 0 O) O) O<|B 64 O (fun g3_33=>kH O O O) O<|B 65 O (fun g3_33=>zM O O) O<|rLz [] O N T (fun g3_37=>zH O zTp O) O<|rLz [(67,_)] O N ⟨O,O,T⟩ (fun g3_37=>zC O one3 O (A 0 O) O) O<|rLz [(68,_)] O N ⟨O,O,T⟩ (fun g3_37=>kH O O O) O<|B 66 O (fun g3_33=>zAq O O O O (fun h=>kO (by assumption) (lzf h))) O<|yW O (fun h=>h)<|G O<|zA<|zN<|zV O ?_
  exact congrArg vB (type2 c1)
theorem zSg (b:Int):
    Pur cfg 302 [vI b] (vB (decide (2<=b)&&decide (b<=31))):=by
 refine zW Tryz.func302 O Tryz.ntmps302 Tryz.results302 O ?_
 exact o6
theorem round_MinInt (b:Int) (h1:2<=b) (h2:b<=31):
    Pur cfg 297 [vI b] (vI (-mB b)):=by
 refine zW Tryz.func297 O Tryz.ntmps297 Tryz.results297 O ?_
 intro z hz
 refine R O<|G O<|zA<|zF<|R O<|G O<|qS O ok302 (zSg _) ⟨zB,O,T⟩<|wE O<|zA<|zD O (fun c1=>?_) (fun c1=>?_)
 ·try simp only [sx] at c1
  exact absurd c1 (by omega)
 ·try simp only [sx] at c1
  refine zI<|R O<|G O<|yY O ⟨by omega,by omega⟩<|zZ O (zFs O us3 ik237 O)<|zZ O (det_shl O O O (by rw [zDc (by omega)];omega))<|zZ O (det_neg O O)<|G O<|zA<|zN<|zV O ?_
  exact congrArg vI (min_eq h1 h2)
theorem round_MaxInt (b:Int) (h1:2<=b) (h2:b<=31):
    Pur cfg 298 [vI b] (vI (mB b-1)):=by
 refine zW Tryz.func298 O Tryz.ntmps298 Tryz.results298 O ?_
 intro z hz
 refine R O<|G O<|zA<|zF<|R O<|G O<|qS O ok302 (zSg _) ⟨zB,O,T⟩<|wE O<|zA<|zD O (fun c1=>?_) (fun c1=>?_)
 ·try simp only [sx] at c1
  exact absurd c1 (by omega)
 ·try simp only [sx] at c1
  refine zI<|R O<|G O<|yY O ⟨by omega,by omega⟩<|zZ O (zFs O us3 ik237 O)<|zZ O (det_shl O O O (by rw [zDc (by omega)];omega))<|zZ O (det_sub O O O)<|G O<|zA<|zN<|zV O ?_
  exact congrArg vI (max_eq h1 h2)
theorem fixed_Valid (t:Ty) (v:Vl):
    Pur cfg 280 [vTy t,xD v] (vB (fZ t&&(decide (v.D=1)&&decide (-mB t.Bits<=v.N)&&decide (v.N<mB t.Bits)))):=by
 refine zW Tryz.func280 O Tryz.ntmps280 Tryz.results280 O ?_
 intro z hz
 refine R O<|zS O O (qP O O) ?_
 rintro _ _ ⟨b1,rfl,rfl⟩
 refine zS O O (qP O O) ?_
 rintro _ _ ⟨b2,rfl,rfl⟩
 refine G O<|zA<|zF<|qW 25 mixed (by kernel_rfl) O O<|zL O O (qC O yG O (A 1 O) O)<|zL O O (qR O ok90 (zDj _) ⟨zB,O,T⟩)<|zL O O (kH O O O)<|zL O O (zM O O)<|qJ [] O O O O gv1 T (fun g1_3=>zH O zId O) O<|qJ [(9,_)] O O O O gv1 ⟨O,O,T⟩ (fun g1_3=>zC O one2 O (A 0 O) O) O<|qJ [(10,_)] O O O O gv1 ⟨O,O,T⟩ (fun g1_3=>kH O O O) O<|zL O O (wV O O O (fun h=>h) O)<|zL O O (zM O O)<|qJ [] O O O O gv1 T (fun g1_8=>zH O zGq O) O<|qJ [(14,_)] O O O O gv1 ⟨O,O,T⟩ (fun g1_8=>zC O one2 O (A 0 O) O) O<|qJ [] O O O O gv1 T (fun g1_8=>zH O zKu O) O<|qJ [(16,_)] O O O O gv1 ⟨O,O,T⟩ (fun g1_8=>zC O one3 O (A 1 O) O) O<|qJ [(17,_)] O O O O gv1 ⟨O,O,T⟩ (fun g1_8=>qR O ok297 (round_MinInt _ (fixB (fxa g1_8)).1 (fixB (fxa g1_8)).2) ⟨zB,O,T⟩) O<|qJ [(15,_),(18,_)] O O O O gv1 ⟨O,O,O,O,T⟩ (fun g1_8=>kY O O O) O<|zL O O (wV O O O (fun h=>h) O)<|zL O O (zM O O)<|qJ [] O O O O gv1 T (fun g1_16=>zH O zGq O) O<|qJ [(22,_)] O O O O gv1 ⟨O,O,T⟩ (fun g1_16=>zC O one2 O (A 0 O) O) O<|qJ [] O O O O gv1 T (fun g1_16=>zH O zKu O) O<|qJ [(24,_)] O O O O gv1 ⟨O,O,T⟩ (fun g1_16=>zC O one3 O (A 1 O) O) O<|qJ [(25,_)] O O O O gv1 ⟨O,O,T⟩ (fun g1_16=>qR O ok298 (round_MaxInt _ (fixB (fxb g1_16)).1 (fixB (fxb g1_16)).2) ⟨zB,O,T⟩) O<|qJ [(23,_),(26,_)] O O O O gv1 ⟨O,O,O,O,T⟩ (fun g1_16=>wL O O O) O<|zL O O (wV O O O (fun h=>h) O)<|zL O O (yR O O)<|yM<|zA<|zN<|zV O ?_
 exact congrArg vB (fixV t v)
theorem value_whole (n:Int):
    Pur cfg 281 [vI n] (vB (nA n)):=by
 refine zW Tryz.func281 O Tryz.ntmps281 Tryz.results281 O ?_
 exact o6
theorem frac_inRange (n:Int):
    Pur cfg 188 [vI n] (vB (nA n)):=by
 refine zW Tryz.func188 O Tryz.ntmps188 Tryz.results188 O ?_
 exact o6
theorem frac_magnitude (n:Int) (hn: -9223372036854775808<=n) (hm:n<=9223372036854775807):
    Pur cfg 190 [vI n] (pA n.natAbs):=by
 refine zW Tryz.func190 O Tryz.ntmps190 Tryz.results190 O ?_
 intro z hz
 refine R O<|G O<|zA<|zF<|R O<|G O<|yC O<|zA<|zD O (fun c1=>?_) (fun c1=>?_)
 ·try simp only [sx] at c1
  refine R O<|G O<|zZ O (zFs O us2 ik231 O)<|zZ O (det_neg O O)<|G O<|zA<|zN<|zV O ?_
  exact congrArg pA (mag_neg c1 hn)
 ·try simp only [sx] at c1
  refine zI<|R O<|G O<|zZ O (zFs O us2 ik231 O)<|G O<|zA<|zN<|zV O ?_
  exact congrArg pA (mag_pos (by omega) hm)
theorem frac_gcd (a b:Nat):
    Pur cfg 189 [pA a,pA b] (pA (Nat.gcd a b)):=by
 refine zW Tryz.func189 O Tryz.ntmps189 Tryz.results189 O ?_
 intro z hz
 refine R O<|G O<|zA<|zF<|zP<|zU ⟨[(0,.c _),(1,.c _)],[]⟩ (Weak.mk [] ⟨zB,zB,T⟩ O)<|qF 2 0 O O (Nat×Nat) (fun ⟨x,y⟩=>[(0,pA x),(1,pA y)]) (fun ⟨x,y⟩=>[]) (fun ⟨x,y⟩=>Nat.gcd a b=Nat.gcd x y) (fun ⟨x,y⟩=>y) ⟨⟨a,b⟩,O,Weak.mk [] ⟨zB,zB,T⟩ O⟩ ?_
 rintro ⟨x,y⟩ hg
 refine zF<|R O<|G O<|wA O<|zA<|zD O (fun c1=>?_) (fun c1=>?_)
 ·try simp only [sx] at c1
  refine zI<|zP<|qW 6 mixed (by kernel_rfl) O O<|zL O O (zM O O)<|zL O O (zM O O)<|zL O O (zM O O)<|zL O O (det_rem O O O (by omega))<|zL O O (yR O O)<|zL O O (yR O O)<|yM<|zA ?_
  refine ⟨⟨y,x%y⟩,(by rw [hg];exact gcd_step (by omega)),(Nat.mod_lt _ (by omega)),Weak.mk [] ⟨zB,VLe.of_eq (congrArg pA (Int.ofNat_tmod x y).symm),T⟩ O⟩
 ·try simp only [sx] at c1
  refine qK<|R O<|G O<|G O<|zA<|zN<|zV O ?_
  exact congrArg pA (by rw [hg,show y=0 by omega,Nat.gcd_zero_right])
theorem base_gcd (a b:Nat):
    Pur cfg 286 [vI a,vI b] (vI (Nat.gcd a b)):=by
 refine zW Tryz.func286 O Tryz.ntmps286 Tryz.results286 O ?_
 intro z hz
 refine R O<|G O<|zA<|zF<|zP<|zU ⟨[(0,.c _),(1,.c _)],[]⟩ (Weak.mk [] ⟨zB,zB,T⟩ O)<|qF 2 0 O O (Nat×Nat) (fun ⟨x,y⟩=>[(0,vI x),(1,vI y)]) (fun ⟨x,y⟩=>[]) (fun ⟨x,y⟩=>Nat.gcd a b=Nat.gcd x y) (fun ⟨x,y⟩=>y) ⟨⟨a,b⟩,O,Weak.mk [] ⟨zB,zB,T⟩ O⟩ ?_
 rintro ⟨x,y⟩ hg
 refine zF<|R O<|G O<|wA O<|zA<|zD O (fun c1=>?_) (fun c1=>?_)
 ·try simp only [sx] at c1
  refine zI<|zP<|qW 6 mixed (by kernel_rfl) O O<|zL O O (zM O O)<|zL O O (zM O O)<|zL O O (zM O O)<|zL O O (det_rem O O O (by omega))<|zL O O (yR O O)<|zL O O (yR O O)<|yM<|zA ?_
  refine ⟨⟨y,x%y⟩,(by rw [hg];exact gcd_step (by omega)),(Nat.mod_lt _ (by omega)),Weak.mk [] ⟨zB,VLe.of_eq (congrArg vI (Int.ofNat_tmod x y).symm),T⟩ O⟩
 ·try simp only [sx] at c1
  refine qK<|R O<|G O<|G O<|zA<|zN<|zV O ?_
  exact congrArg vI (by rw [hg,show y=0 by omega,Nat.gcd_zero_right])
theorem frac_Valid (v:Vl):
    Pur cfg 163 [xD v] (vB (decide (1<=v.D)&&decide (v.D<=2147483647)&&nA v.N&&decide (Int.gcd v.N v.D=1))):=by
 refine zW Tryz.func163 O Tryz.ntmps163 Tryz.results163 O ?_
 intro z hz
 refine R O<|zS O O (qP O O) ?_
 rintro _ _ ⟨b1,rfl,rfl⟩
 refine G O<|zA<|zF<|qW 24 mixed (by kernel_rfl) O O<|zL O O (zH O zId O)<|zL O O (zC O one2 O (A 0 O) O)<|zL O O (kY O O O)<|zL O O (zM O O)<|qJ [] O O O O gv1 T (fun g1_3=>zH O zId O) O<|qJ [(7,_)] O O O O gv1 ⟨O,O,T⟩ (fun g1_3=>zC O one2 O (A 0 O) O) O<|qJ [(8,_)] O O O O gv1 ⟨O,O,T⟩ (fun g1_3=>wL O O O) O<|zL O O (wV O O O (fun h=>h) O)<|zL O O (zM O O)<|qJ [] O O O O gv1 T (fun g1_8=>zH O zGq O) O<|qJ [(12,_)] O O O O gv1 ⟨O,O,T⟩ (fun g1_8=>zC O one2 O (A 0 O) O) O<|qJ [(13,_)] O O O O gv1 ⟨O,O,T⟩ (fun g1_8=>qR O ok188 (frac_inRange _) ⟨zB,O,T⟩) O<|zL O O (wV O O O (fun h=>h) O)<|zL O O (zM O O)<|qJ [] O O O O gv1 T (fun g1_13=>zH O zGq O) O<|qJ [(17,_)] O O O O gv1 ⟨O,O,T⟩ (fun g1_13=>zC O one2 O (A 0 O) O) O<|qJ [(18,_)] O O O O gv1 ⟨O,O,T⟩ (fun g1_13=>qR O ok190 (frac_magnitude v.N (frV g1_13).2.2.1 (frV g1_13).2.2.2) ⟨zB,O,T⟩) O<|qJ [] O O O O gv1 T (fun g1_13=>zH O zId O) O<|qJ [(20,_)] O O O O gv1 ⟨O,O,T⟩ (fun g1_13=>zC O one2 O (A 0 O) O) O<|qJ [(21,_)] O O O O gv1 ⟨O,O,T⟩ (fun g1_13=>zFs O us2 ik231 O) O<|qJ [(19,_),(22,_)] O O O O gv1 ⟨O,O,O,O,T⟩ (fun g1_13=>qR O ok189 (show Pur cfg 189 [pA v.N.natAbs,pA (IntKind.u64.wrap v.D)] (pA (Nat.gcd v.N.natAbs v.D.natAbs)) from by rw [u64_D (frV g1_13).1 (frV g1_13).2.1];exact frac_gcd _ _) ⟨zB,O,zB,O,T⟩) O<|qJ [(23,_)] O O O O gv1 ⟨O,O,T⟩ (fun g1_13=>kH O O O) O<|zL O O (wV O O O (fun h=>h) O)<|zL O O (yR O O)<|yM<|zA<|zN<|zV O ?_
 exact congrArg vB (by rw [show (decide (((Nat.gcd v.N.natAbs v.D.natAbs:Nat):Int)=1))=decide (Int.gcd v.N v.D=1) from decide_eq_decide.2 (by unfold Int.gcd;omega)])
theorem value_Valid (t:Ty) (v:Vl):
    Pur cfg 245 [vTy t,xD v] (vB (gV t&&jP t v)):=by
 refine zW Tryz.func245 O Tryz.ntmps245 Tryz.results245 O ?_
 intro z hz
 refine R O<|zS O O (qP O O) ?_
 rintro _ _ ⟨b1,rfl,rfl⟩
 refine zS O O (qP O O) ?_
 rintro _ _ ⟨b2,rfl,rfl⟩
 refine G O<|zA<|zF<|R O<|zQ yG (A 1 O) O<|qS O ok39 (zDd _) ⟨zB,O,T⟩<|wA O<|zA<|zD O (fun c1=>?_) (fun c1=>?_)
 ·try simp only [sx] at c1
  have ht:gV t=false:=tyErr_ne c1
  refine R O<|G O<|zA<|zN<|zV O ?_
  rw [ht];rfl
 ·try simp only [sx] at c1
  have ht:gV t=true:=zJr c1
  refine zI<|zF<|R O<|zJ O zGr<|zE one3 (A 1 O) O<|zA<|zP<|R O<|yE O<|G O<|zA<|zD O (fun c2=>?_) (fun c2=>?_)
  ·try simp only [sx] at c2
   refine R O<|zQ yG (A 1 O) O<|zQ zUo (A 0 O) O<|qS O ok280 (fixed_Valid _ _) ⟨zB,O,zB,O,T⟩<|G O<|zA<|zN<|zV O ?_
   exact congrArg vB (by rw [ht,jP,c2,←zCf c2,ht];rfl)
  ·try simp only [sx] at c2
   refine R O<|yE O<|G O<|zA<|zD O (fun c3=>?_) (fun c3=>?_)
   ·try simp only [sx] at c3
    refine R O<|zJ O zId<|zE one2 (A 0 O) O<|yE O<|G O<|rL0 O (fun g7_3=>zH O zGq O) O<|B 21 O (fun g7_3=>zC O one2 O (A 0 O) O) O<|B 22 O (fun g7_3=>qR O ok281 (value_whole _) ⟨zB,O,T⟩) O<|yW O (fun h=>h)<|G O<|zA<|zN<|zV O ?_
    exact congrArg vB (by rw [ht,jP,kL c2,c3];rfl)
   ·try simp only [sx] at c3
    refine zI<|R O<|zQ zUo (A 0 O) O<|qS O ok163 (frac_Valid _) ⟨zB,O,T⟩<|G O<|zA<|zN<|zV O ?_
    exact congrArg vB (by rw [ht,jP,kL c2,kL c3];rfl)
theorem base_Val (t:Ty) (v:Vl) (ht:gV t=true):
    Pur cfg 259 [vTy t,xD v] (vB (jP t v)):=by
 refine zW Tryz.func259 O Tryz.ntmps259 Tryz.results259 O ?_
 intro z hz
 refine R O<|zS O O (qP O O) ?_
 rintro _ _ ⟨b1,rfl,rfl⟩
 refine zS O O (qP O O) ?_
 rintro _ _ ⟨b2,rfl,rfl⟩
 refine G O<|zA<|zF<|R O<|zJ O zGr<|zE one3 (A 1 O) O<|yE O<|zA<|zD O (fun c1=>?_) (fun c1=>?_)
 ·try simp only [sx] at c1
  obtain ⟨b1,b2⟩:=fixB (by rw [←zCf c1];exact ht)
  refine R O<|zJ O zKu<|zE one3 (A 1 O) O<|yY O ⟨by omega,by omega⟩<|zZ O (det_shl O O O (by omega))<|G O<|zA<|R O<|zJ O zId<|zE one2 (A 0 O) O<|yE O<|G O<|rL0 O (fun g3_3=>zH O zGq O) O<|B 17 O (fun g3_3=>zC O one2 O (A 0 O) O) O<|rL0 O (fun g3_3=>zM O O) O<|B 19 O (fun g3_3=>det_neg O O) O<|rLz [(18,_),(20,_)] O gv1 ⟨O,O,O,O,T⟩ (fun g3_3=>kY O O O) O<|yW O (fun h=>h)<|G O<|rL0 O (fun g3_10=>zH O zGq O) O<|B 24 O (fun g3_10=>zC O one2 O (A 0 O) O) O<|rL0 O (fun g3_10=>zM O O) O<|rLz [(25,_),(26,_)] O gv1 ⟨O,O,O,O,T⟩ (fun g3_10=>kM O O O) O<|yW O (fun h=>h)<|G O<|zA<|zN<|zV O ?_
  exact congrArg vB (valfix c1 b1 b2)
 ·try simp only [sx] at c1
  refine zI<|zF<|R O<|zJ O zGq<|zE one2 (A 0 O) O<|zZ O (yH O O O)<|G O<|rL0 O (fun g4_3=>zH O zGq O) O<|B 33 O (fun g4_3=>zC O one2 O (A 0 O) O) O<|B 34 O (fun g4_3=>kM O O O) O<|r_or O (fun h=>(lzf h))<|G O<|rL0 O (fun g4_8=>zH O zId O) O<|B 38 O (fun g4_8=>zC O one2 O (A 0 O) O) O<|B 39 O (fun g4_8=>kM O O O) O<|r_or O (fun h=>(lzf h))<|G O<|rL0 O (fun g4_13=>zH O zId O) O<|B 43 O (fun g4_13=>zC O one2 O (A 0 O) O) O<|B 44 O (fun g4_13=>yH O O O) O<|r_or O (fun h=>(lzf h))<|zA<|zD O (fun c2=>?_) (fun c2=>?_)
  ·refine R O<|G O<|zA<|zN<|zV O ?_
   exact congrArg vB (val_out c1 c2).symm
  ·obtain ⟨hN1,hN2,hD1,hD2⟩:=val_in c2
   refine zI<|zF<|R O<|zJ O zGr<|zE one3 (A 1 O) O<|yE O<|zA<|zD O (fun c3=>?_) (fun c3=>?_)
   ·try simp only [sx] at c3
    refine R O<|zJ O zId<|zE one2 (A 0 O) O<|yE O<|G O<|zA<|zN<|zV O ?_
    exact congrArg vB (by rw [jP,kL c1,c3];simp [nA,hN1,hN2])
   ·try simp only [sx] at c3
    refine zI<|R O<|zJ O zGq<|zE one2 (A 0 O) O<|zJ O zGq<|zE one2 (A 0 O) O<|zZ O (det_neg O O)<|zZ O (zFb O O O)<|zJ O zId<|zE one2 (A 0 O) O<|qS O ok286 (show Pur cfg 286 [vI (max v.N (IntKind.i64.wrap (-v.N))),vI v.D] (vI (Int.gcd v.N v.D)) from by rw [max_abs hN1 hN2,show v.D=(v.D.natAbs:Int) by omega];exact base_gcd _ _) ⟨zB,O,zB,O,T⟩<|yE O<|G O<|zA<|zN<|zV O ?_
    exact congrArg vB (by rw [jP,kL c1,kL c3];simp [nA,hN1,hN2,hD1,hD2];omega)
end Go.W
