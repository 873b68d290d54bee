/-
  What functions compute.
  Conditions: none.
-/
import Derived.Test.YtlfjpejkoccibaaGreatDoorWA
set_option linter.unusedSimpArgs false
set_option linter.unusedVariables false
set_option maxRecDepth 10000
namespace Go.W
open Go Go.Eng Go.Proofs Go.L41 Go.Br
attribute [local irreducible] AWP RWP TD fH
theorem agg36:nG Tryz.prog 36=some 2:=by kernel_rfl
theorem yN:nG Tryz.prog 38=some 5:=by kernel_rfl
theorem zHi:bY Tryz.prog 36 0=some (0,2):=by kernel_rfl
theorem zIu:bY Tryz.prog 36 1=some (1,2):=by kernel_rfl
theorem zHh:bY Tryz.prog 38 0=some (0,3):=by kernel_rfl
theorem zMj:bY Tryz.prog 38 1=some (1,3):=by kernel_rfl
theorem zWc:bY Tryz.prog 38 2=some (2,3):=by kernel_rfl
theorem zWb:bY Tryz.prog 38 3=some (3,3):=by kernel_rfl
theorem zWa:bY Tryz.prog 38 4=some (4,3):=by kernel_rfl
theorem fl38:rP Tryz.prog 38=some [.int,.int,.int,.int,.int]:=by kernel_rfl
theorem ik180:sM Tryz.prog 180=some .u64:=by kernel_rfl
theorem ik205:sM Tryz.prog 205=some .u64:=by kernel_rfl
theorem ok127:bA Tryz.prog 127=true:=by kernel_rfl
theorem ok161:bA Tryz.prog 161=true:=by kernel_rfl
theorem ok162:bA Tryz.prog 162=true:=by kernel_rfl
theorem ok278:bA Tryz.prog 278=true:=by kernel_rfl
theorem ok279:bA Tryz.prog 279=true:=by kernel_rfl
theorem ok280:bA Tryz.prog 280=true:=by kernel_rfl
theorem ok296:bA Tryz.prog 296=true:=by kernel_rfl
theorem ok297:bA Tryz.prog 297=true:=by kernel_rfl
theorem ok298:bA Tryz.prog 298=true:=by kernel_rfl
theorem ok299:bA Tryz.prog 299=true:=by kernel_rfl
theorem ok300:bA Tryz.prog 300=true:=by kernel_rfl
theorem ok301:bA Tryz.prog 301=true:=by kernel_rfl
theorem ok304:bA Tryz.prog 304=true:=by kernel_rfl
theorem one3:lV Tryz.prog 3=true:=by kernel_rfl
theorem pl38:gG Tryz.prog 38=some [(0,1),(1,1),(2,1),(3,1),(4,1)]:=by kernel_rfl
theorem us2:(Tryz.prog.underlying 2).isSome=true:=by kernel_rfl
theorem us3:(Tryz.prog.underlying 3).isSome=true:=by kernel_rfl
theorem m:fS Tryz.prog 38=some [(Value.int IntKind.i64 0),(Value.int IntKind.i64 0),(Value.int IntKind.i64 0),(Value.int IntKind.i64 0),(Value.int IntKind.i64 0)]:=by kernel_rfl
theorem zTq (t:Ty):
    Pur cfg 161 [vTy t] (vB (sI t)):=by
 refine zT Tryz.func161 O Tryz.ntmps161 Tryz.results161 O ?_
 intro z hz
 refine F O<|zV O O (qN O O) ?_
 rintro _ _ ⟨b1,rfl,rfl⟩
 refine A O<|H<|F O<|zP yN (R 0 O) O<|zG O zHh<|zJ one3 (R 0 O) O<|yP O m pl38<|zU O (det_aeql O fl38 O O O)<|A O<|H<|o<|X O ?_
 exact congrArg vB (plainT_eq t)
theorem zDm (t:Ty):
    Pur cfg 162 [vTy t] (vI (bif gV t then 0 else 10)):=by
 refine zT Tryz.func162 O Tryz.ntmps162 Tryz.results162 O ?_
 intro z hz
 refine F O<|zV O O (qN O O) ?_
 rintro _ _ ⟨b1,rfl,rfl⟩
 refine A O<|H<|F O<|zG O zWb<|zJ one3 (R 0 O) O<|zU O (wI O O O)<|A O<|rL0 O (fun g1_3=>zE O zWb O) O<|B 8 O (fun g1_3=>zF O one3 O (R 0 O) O) O<|B 9 O (fun g1_3=>wY O O O) O<|yQ O (fun h=>h)<|A O<|rL0 O (fun g1_8=>zE O zWa O) O<|B 13 O (fun g1_8=>zF O one3 O (R 0 O) O) O<|B 14 O (fun g1_8=>yH O O O) O<|B 15 O (fun g1_8=>zN O O) O<|rLz [] O N T (fun g1_12=>zE O zWa O) O<|rLz [(17,_)] O N ⟨O,O,T⟩ (fun g1_12=>zF O one3 O (R 0 O) O) O<|rLz [(18,_)] O N ⟨O,O,T⟩ (fun g1_12=>yH O O O) O<|B 16 O (fun g1_8=>zAu O O O O (fun h=>kD (by assumption) (lzf h))) O<|yQ O (fun h=>h)<|A O<|H<|zK<|F O<|zG O zHh<|zJ one3 (R 0 O) O<|yM O<|A O<|rL0 O (fun g2_3=>zE O zMj O) O<|B 26 O (fun g2_3=>zF O one3 O (R 0 O) O) O<|B 27 O (fun g2_3=>zBr O O O) O<|r_or O (fun h=>(lzf h))<|A O<|rL0 O (fun g2_8=>zE O zMj O) O<|B 31 O (fun g2_8=>zF O one3 O (R 0 O) O) O<|B 32 O (fun g2_8=>yG O O O) O<|r_or O (fun h=>(lzf h))<|A O<|rL0 O (fun g2_13=>zE O zWc O) O<|B 36 O (fun g2_13=>zF O one3 O (R 0 O) O) O<|B 37 O (fun g2_13=>zBr O O O) O<|r_or O (fun h=>(lzf h))<|A O<|rL0 O (fun g2_18=>zE O zWc O) O<|B 41 O (fun g2_18=>zF O one3 O (R 0 O) O) O<|B 42 O (fun g2_18=>yG O O O) O<|r_or O (fun h=>(lzf h))<|A O<|rL0 O (fun g2_23=>zN O O) O<|B 46 O (fun g2_23=>kW O O) O<|r_or O (fun h=>(lzf h))<|H<|zD O (fun c1=>?_) (fun c1=>?_)
 ·refine F O<|A O<|H<|o<|X O ?_
  rw [show gV t=false from fix_no c1];rfl
 ·refine zM<|F O<|A O<|H<|o<|X O ?_
  rw [show gV t=true from fix_yes c1];rfl
theorem zDg (t:Ty):
    Pur cfg 127 [vTy t] (vI (dQ t)):=by
 refine zT Tryz.func127 O Tryz.ntmps127 Tryz.results127 O ?_
 intro z hz
 refine F O<|zV O O (qN O O) ?_
 rintro _ _ ⟨b1,rfl,rfl⟩
 refine A O<|H<|zK<|F O<|zG O zHh<|zJ one3 (R 0 O) O<|H<|zR<|zK<|F O<|yF O<|A O<|H<|zD O (fun c1=>?_) (fun c1=>?_)
 ·try simp only [I] at c1
  refine zM<|zD O (fun c2=>?_) (fun c2=>?_)
  ·try simp only [I] at c2
   refine F O<|zP yN (R 0 O) O<|qI O ok161 (zTq _) ⟨G,O,T⟩<|H<|zD O (fun c3=>?_) (fun c3=>?_)
   ·try simp only [I] at c3
    refine F O<|A O<|H<|o<|X O ?_
    exact congrArg vI (by first|(exfalso;omega)|(rw [dQ,tyk1 (by omega),c3];rfl)|(rw [dQ,zCh (by omega),fxz c5];rfl)|(rw [dQ,zCh (by omega),fxn c5];rfl)|(rw [dQ,tyk0 (by omega) (by omega) (by omega)];rfl))
   ·try simp only [I] at c3
    refine zM<|F O<|A O<|H<|o<|X O ?_
    exact congrArg vI (by first|(exfalso;omega)|(rw [dQ,tyk1 (by omega),c3];rfl)|(rw [dQ,zCh (by omega),fxz c5];rfl)|(rw [dQ,zCh (by omega),fxn c5];rfl)|(rw [dQ,tyk0 (by omega) (by omega) (by omega)];rfl))
  ·try simp only [I] at c2
   refine F O<|yF O<|A O<|H<|zD O (fun c4=>?_) (fun c4=>?_)
   ·try simp only [I] at c4
    refine F O<|zP yN (R 0 O) O<|qI O ok162 (zDm _) ⟨G,O,T⟩<|yF O<|H<|zD O (fun c5=>?_) (fun c5=>?_)
    ·try simp only [I] at c5
     refine F O<|A O<|H<|o<|X O ?_
     exact congrArg vI (by first|(exfalso;omega)|(rw [dQ,tyk1 (by omega),c3];rfl)|(rw [dQ,zCh (by omega),fxz c5];rfl)|(rw [dQ,zCh (by omega),fxn c5];rfl)|(rw [dQ,tyk0 (by omega) (by omega) (by omega)];rfl))
    ·try simp only [I] at c5
     refine zM<|F O<|A O<|H<|o<|X O ?_
     exact congrArg vI (by first|(exfalso;omega)|(rw [dQ,tyk1 (by omega),c3];rfl)|(rw [dQ,zCh (by omega),fxz c5];rfl)|(rw [dQ,zCh (by omega),fxn c5];rfl)|(rw [dQ,tyk0 (by omega) (by omega) (by omega)];rfl))
   ·try simp only [I] at c4
    refine zM<|F O<|A O<|H<|o<|X O ?_
    exact congrArg vI (by first|(exfalso;omega)|(rw [dQ,tyk1 (by omega),c3];rfl)|(rw [dQ,zCh (by omega),fxz c5];rfl)|(rw [dQ,zCh (by omega),fxn c5];rfl)|(rw [dQ,tyk0 (by omega) (by omega) (by omega)];rfl))
 ·try simp only [I] at c1
  refine zQ O<|yF O<|A O<|H<|zD O (fun c2=>?_) (fun c2=>?_)
  ·try simp only [I] at c2
   refine F O<|zP yN (R 0 O) O<|qI O ok161 (zTq _) ⟨G,O,T⟩<|H<|zD O (fun c3=>?_) (fun c3=>?_)
   ·try simp only [I] at c3
    refine F O<|A O<|H<|o<|X O ?_
    exact congrArg vI (by first|(exfalso;omega)|(rw [dQ,tyk1 (by omega),c3];rfl)|(rw [dQ,zCh (by omega),fxz c5];rfl)|(rw [dQ,zCh (by omega),fxn c5];rfl)|(rw [dQ,tyk0 (by omega) (by omega) (by omega)];rfl))
   ·try simp only [I] at c3
    refine zM<|F O<|A O<|H<|o<|X O ?_
    exact congrArg vI (by first|(exfalso;omega)|(rw [dQ,tyk1 (by omega),c3];rfl)|(rw [dQ,zCh (by omega),fxz c5];rfl)|(rw [dQ,zCh (by omega),fxn c5];rfl)|(rw [dQ,tyk0 (by omega) (by omega) (by omega)];rfl))
  ·try simp only [I] at c2
   refine F O<|yF O<|A O<|H<|zD O (fun c4=>?_) (fun c4=>?_)
   ·try simp only [I] at c4
    refine F O<|zP yN (R 0 O) O<|qI O ok162 (zDm _) ⟨G,O,T⟩<|yF O<|H<|zD O (fun c5=>?_) (fun c5=>?_)
    ·try simp only [I] at c5
     refine F O<|A O<|H<|o<|X O ?_
     exact congrArg vI (by first|(exfalso;omega)|(rw [dQ,tyk1 (by omega),c3];rfl)|(rw [dQ,zCh (by omega),fxz c5];rfl)|(rw [dQ,zCh (by omega),fxn c5];rfl)|(rw [dQ,tyk0 (by omega) (by omega) (by omega)];rfl))
    ·try simp only [I] at c5
     refine zM<|F O<|A O<|H<|o<|X O ?_
     exact congrArg vI (by first|(exfalso;omega)|(rw [dQ,tyk1 (by omega),c3];rfl)|(rw [dQ,zCh (by omega),fxz c5];rfl)|(rw [dQ,zCh (by omega),fxn c5];rfl)|(rw [dQ,tyk0 (by omega) (by omega) (by omega)];rfl))
   ·try simp only [I] at c4
    refine zM<|F O<|A O<|H<|o<|X O ?_
    exact congrArg vI (by first|(exfalso;omega)|(rw [dQ,tyk1 (by omega),c3];rfl)|(rw [dQ,zCh (by omega),fxz c5];rfl)|(rw [dQ,zCh (by omega),fxn c5];rfl)|(rw [dQ,tyk0 (by omega) (by omega) (by omega)];rfl))
theorem base_Type (t:Ty):
    Pur cfg 148 [vTy t] (vB (jM t)):=by
 refine zT Tryz.func148 O Tryz.ntmps148 Tryz.results148 O ?_
 intro z hz
 refine F O<|zV O O (qN O O) ?_
 rintro _ _ ⟨b1,rfl,rfl⟩
 refine A O<|H<|zK<|F O<|zG O zHh<|zJ one3 (R 0 O) O<|yF O<|A O<|rL0 O (fun g1_3=>zE O zHh O) O<|B 7 O (fun g1_3=>zF O one3 O (R 0 O) O) O<|B 8 O (fun g1_3=>yH O O O) O<|r_or O (fun h=>(lzf h))<|H<|zD O (fun c1=>?_) (fun c1=>?_)
 ·refine F O<|zG O zMj<|zJ one3 (R 0 O) O<|yF O<|A O<|rL0 O (fun g2_3=>zE O zWc O) O<|B 15 O (fun g2_3=>zF O one3 O (R 0 O) O) O<|B 16 O (fun g2_3=>yH O O O) O<|yQ O (fun h=>h)<|A O<|rL0 O (fun g2_8=>zE O zWb O) O<|B 20 O (fun g2_8=>zF O one3 O (R 0 O) O) O<|B 21 O (fun g2_8=>yH O O O) O<|yQ O (fun h=>h)<|A O<|rL0 O (fun g2_13=>zE O zWa O) O<|B 25 O (fun g2_13=>zF O one3 O (R 0 O) O) O<|B 26 O (fun g2_13=>yH O O O) O<|yQ O (fun h=>h)<|A O<|H<|o<|X O ?_
  exact congrArg vB (type1 c1)
 ·refine zM<|F O<|zG O zHh<|zJ one3 (R 0 O) O<|yF O<|A O<|rL0 O (fun g3_3=>zE O zMj O) O<|B 33 O (fun g3_3=>zF O one3 O (R 0 O) O) O<|B 34 O (fun g3_3=>wI O O O) O<|yQ O (fun h=>h)<|A O<|rL0 O (fun g3_8=>zE O zMj O) O<|B 38 O (fun g3_8=>zF O one3 O (R 0 O) O) O<|B 39 O (fun g3_8=>wY O O O) O<|yQ O (fun h=>h)<|A O<|rL0 O (fun g3_13=>zE O zWc O) O<|B 43 O (fun g3_13=>zF O one3 O (R 0 O) O) O<|B 44 O (fun g3_13=>wI O O O) O<|yQ O (fun h=>h)<|A O<|rL0 O (fun g3_18=>zE O zWc O) O<|B 48 O (fun g3_18=>zF O one3 O (R 0 O) O) O<|B 49 O (fun g3_18=>wY O O O) O<|yQ O (fun h=>h)<|A O<|rL0 O (fun g3_23=>zE O zWb O) O<|B 53 O (fun g3_23=>zF O one3 O (R 0 O) O) O<|B 54 O (fun g3_23=>wI O O O) O<|yQ O (fun h=>h)<|A O<|rL0 O (fun g3_28=>zE O zWb O) O<|B 58 O (fun g3_28=>zF O one3 O (R 0 O) O) O<|B 59 O (fun g3_28=>wY O O O) O<|yQ O (fun h=>h)<|A O<|rL0 O (fun g3_33=>zE O zWa O) O<|B 63 O (fun g3_33=>zF O one3 O (R 0 O) O) O<|B 64 O (fun g3_33=>yH O O O) O<|B 65 O (fun g3_33=>zN O O) O<|rLz [] O N T (fun g3_37=>zE O zWa O) O<|rLz [(67,_)] O N ⟨O,O,T⟩ (fun g3_37=>zF O one3 O (R 0 O) O) O<|rLz [(68,_)] O N ⟨O,O,T⟩ (fun g3_37=>yH O O O) O<|B 66 O (fun g3_33=>zAu O O O O (fun h=>kD (by assumption) (lzf h))) O<|yQ O (fun h=>h)<|A O<|H<|o<|X O ?_
  exact congrArg vB (type2 c1)
theorem zUj (b:Int):
    Pur cfg 304 [vI b] (vB (decide (2<=b)&&decide (b<=31))):=by
 refine zT Tryz.func304 O Tryz.ntmps304 Tryz.results304 O ?_
 intro z hz
 refine F O<|A O<|H<|F O<|A O<|zU O (wI O O O)<|A O<|rL0 O (fun g1_2=>zN O O) O<|B 6 O (fun g1_2=>wY O O O) O<|yQ O (fun h=>h)<|A O<|H<|o<|X O ?_
 exact O
theorem round_MinInt (b:Int) (h1:2<=b) (h2:b<=31):
    Pur cfg 296 [vI b] (vI (-mI b)):=by
 refine zT Tryz.func296 O Tryz.ntmps296 Tryz.results296 O ?_
 intro z hz
 refine F O<|A O<|H<|zK<|F O<|A O<|qI O ok304 (zUj _) ⟨G,O,T⟩<|kQ O<|H<|zD O (fun c1=>?_) (fun c1=>?_)
 ·try simp only [I] at c1
  exact absurd c1 (by omega)
 ·try simp only [I] at c1
  refine zM<|F O<|A O<|zU O (yE O O O ⟨by omega,by omega⟩)<|zU O (kU O us3 ik205 O)<|zU O (det_shl O O O (by rw [zLc (by omega)];omega))<|zU O (zGo O O)<|A O<|H<|o<|X O ?_
  exact congrArg vI (min_eq h1 h2)
theorem round_MaxInt (b:Int) (h1:2<=b) (h2:b<=31):
    Pur cfg 297 [vI b] (vI (mI b-1)):=by
 refine zT Tryz.func297 O Tryz.ntmps297 Tryz.results297 O ?_
 intro z hz
 refine F O<|A O<|H<|zK<|F O<|A O<|qI O ok304 (zUj _) ⟨G,O,T⟩<|kQ O<|H<|zD O (fun c1=>?_) (fun c1=>?_)
 ·try simp only [I] at c1
  exact absurd c1 (by omega)
 ·try simp only [I] at c1
  refine zM<|F O<|A O<|zU O (yE O O O ⟨by omega,by omega⟩)<|zU O (kU O us3 ik205 O)<|zU O (det_shl O O O (by rw [zLc (by omega)];omega))<|zU O (zQo O O O)<|A O<|H<|o<|X O ?_
  exact congrArg vI (max_eq h1 h2)
theorem fixed_Valid (t:Ty) (v:Vl):
    Pur cfg 278 [vTy t,vX v] (vB (gV t&&(decide (v.D=1)&&decide (-mI t.Bits<=v.N)&&decide (v.N<mI t.Bits)))):=by
 refine zT Tryz.func278 O Tryz.ntmps278 Tryz.results278 O ?_
 intro z hz
 refine F O<|zV O O (qN O O) ?_
 rintro _ _ ⟨b1,rfl,rfl⟩
 refine zV O O (qN O O) ?_
 rintro _ _ ⟨b2,rfl,rfl⟩
 refine A O<|H<|zK<|qZ 25 mixed (by kernel_rfl) O O<|M O O (qB O yN O (R 1 O) O)<|M O O (qM O ok162 (zDm _) ⟨G,O,T⟩)<|M O O (yH O O O)<|M O O (zN O O)<|f [] O O O O gv1 T (fun g1_3=>zE O zIu O) O<|f [(9,_)] O O O O gv1 ⟨O,O,T⟩ (fun g1_3=>zF O U O (R 0 O) O) O<|f [(10,_)] O O O O gv1 ⟨O,O,T⟩ (fun g1_3=>yH O O O) O<|M O O (kZ O O O (fun h=>h) O)<|M O O (zN O O)<|f [] O O O O gv1 T (fun g1_8=>zE O zHi O) O<|f [(14,_)] O O O O gv1 ⟨O,O,T⟩ (fun g1_8=>zF O U O (R 0 O) O) O<|f [] O O O O gv1 T (fun g1_8=>zE O zMj O) O<|f [(16,_)] O O O O gv1 ⟨O,O,T⟩ (fun g1_8=>zF O one3 O (R 1 O) O) O<|f [(17,_)] O O O O gv1 ⟨O,O,T⟩ (fun g1_8=>qM O ok296 (round_MinInt _ (fixB (fxa g1_8)).1 (fixB (fxa g1_8)).2) ⟨G,O,T⟩) O<|f [(15,_),(18,_)] O O O O gv1 ⟨O,O,O,O,T⟩ (fun g1_8=>wI O O O) O<|M O O (kZ O O O (fun h=>h) O)<|M O O (zN O O)<|f [] O O O O gv1 T (fun g1_16=>zE O zHi O) O<|f [(22,_)] O O O O gv1 ⟨O,O,T⟩ (fun g1_16=>zF O U O (R 0 O) O) O<|f [] O O O O gv1 T (fun g1_16=>zE O zMj O) O<|f [(24,_)] O O O O gv1 ⟨O,O,T⟩ (fun g1_16=>zF O one3 O (R 1 O) O) O<|f [(25,_)] O O O O gv1 ⟨O,O,T⟩ (fun g1_16=>qM O ok297 (round_MaxInt _ (fixB (fxb g1_16)).1 (fixB (fxb g1_16)).2) ⟨G,O,T⟩) O<|f [(23,_),(26,_)] O O O O gv1 ⟨O,O,O,O,T⟩ (fun g1_16=>wY O O O) O<|M O O (kZ O O O (fun h=>h) O)<|M O O (yA O O)<|kE<|H<|o<|X O ?_
 exact congrArg vB (fixV t v)
theorem value_whole (n:Int):
    Pur cfg 279 [vI n] (vB (nH n)):=by
 refine zT Tryz.func279 O Tryz.ntmps279 Tryz.results279 O ?_
 intro z hz
 refine F O<|A O<|H<|F O<|A O<|zU O (wI O O O)<|A O<|rL0 O (fun g1_2=>zN O O) O<|B 6 O (fun g1_2=>wY O O O) O<|yQ O (fun h=>h)<|A O<|H<|o<|X O ?_
 exact O
theorem frac_inRange (n:Int):
    Pur cfg 298 [vI n] (vB (nH n)):=by
 refine zT Tryz.func298 O Tryz.ntmps298 Tryz.results298 O ?_
 intro z hz
 refine F O<|A O<|H<|F O<|A O<|zU O (wI O O O)<|A O<|rL0 O (fun g1_2=>zN O O) O<|B 6 O (fun g1_2=>wY O O O) O<|yQ O (fun h=>h)<|A O<|H<|o<|X O ?_
 exact O
theorem frac_magnitude (n:Int) (hn: -9223372036854775808<=n) (hm:n<=9223372036854775807):
    Pur cfg 300 [vI n] (pH n.natAbs):=by
 refine zT Tryz.func300 O Tryz.ntmps300 Tryz.results300 O ?_
 intro z hz
 refine F O<|A O<|H<|zK<|F O<|A O<|yD O<|H<|zD O (fun c1=>?_) (fun c1=>?_)
 ·try simp only [I] at c1
  refine F O<|A O<|zU O (kU O us2 ik180 O)<|zU O (zGo O O)<|A O<|H<|o<|X O ?_
  exact congrArg pH (mag_neg c1 hn)
 ·try simp only [I] at c1
  refine zM<|F O<|A O<|zU O (kU O us2 ik180 O)<|A O<|H<|o<|X O ?_
  exact congrArg pH (mag_pos (by omega) hm)
theorem frac_gcd (a b:Nat):
    Pur cfg 299 [pH a,pH b] (pH (Nat.gcd a b)):=by
 refine zT Tryz.func299 O Tryz.ntmps299 Tryz.results299 O ?_
 intro z hz
 refine F O<|A O<|H<|zK<|zR<|zY ⟨[(0,.c _),(1,.c _)],[]⟩ (Weak.mk [] ⟨G,G,T⟩ O)<|qK 2 0 O O (Nat×Nat) (fun ⟨x,y⟩=>[(0,pH x),(1,pH y)]) (fun ⟨x,y⟩=>[]) (fun ⟨x,y⟩=>Nat.gcd a b=Nat.gcd x y) (fun ⟨x,y⟩=>y) ⟨⟨a,b⟩,O,Weak.mk [] ⟨G,G,T⟩ O⟩ ?_
 rintro ⟨x,y⟩ hg
 refine zK<|F O<|A O<|yM O<|H<|zD O (fun c1=>?_) (fun c1=>?_)
 ·try simp only [I] at c1
  refine zM<|zR<|qZ 6 mixed (by kernel_rfl) O O<|M O O (zN O O)<|M O O (zN O O)<|M O O (zN O O)<|M O O (det_rem O O O (by omega))<|M O O (yA O O)<|M O O (yA O O)<|kE<|H ?_
  refine ⟨⟨y,x%y⟩,(by rw [hg];exact gcd_step (by omega)),(Nat.mod_lt _ (by omega)),Weak.mk [] ⟨G,VLe.of_eq (congrArg pH (Int.ofNat_tmod x y).symm),T⟩ O⟩
 ·try simp only [I] at c1
  refine qQ<|F O<|A O<|A O<|H<|o<|X O ?_
  exact congrArg pH (by rw [hg,show y=0 by omega,Nat.gcd_zero_right])
theorem base_gcd (a b:Nat):
    Pur cfg 301 [vI a,vI b] (vI (Nat.gcd a b)):=by
 refine zT Tryz.func301 O Tryz.ntmps301 Tryz.results301 O ?_
 intro z hz
 refine F O<|A O<|H<|zK<|zR<|zY ⟨[(0,.c _),(1,.c _)],[]⟩ (Weak.mk [] ⟨G,G,T⟩ O)<|qK 2 0 O O (Nat×Nat) (fun ⟨x,y⟩=>[(0,vI x),(1,vI y)]) (fun ⟨x,y⟩=>[]) (fun ⟨x,y⟩=>Nat.gcd a b=Nat.gcd x y) (fun ⟨x,y⟩=>y) ⟨⟨a,b⟩,O,Weak.mk [] ⟨G,G,T⟩ O⟩ ?_
 rintro ⟨x,y⟩ hg
 refine zK<|F O<|A O<|yM O<|H<|zD O (fun c1=>?_) (fun c1=>?_)
 ·try simp only [I] at c1
  refine zM<|zR<|qZ 6 mixed (by kernel_rfl) O O<|M O O (zN O O)<|M O O (zN O O)<|M O O (zN O O)<|M O O (det_rem O O O (by omega))<|M O O (yA O O)<|M O O (yA O O)<|kE<|H ?_
  refine ⟨⟨y,x%y⟩,(by rw [hg];exact gcd_step (by omega)),(Nat.mod_lt _ (by omega)),Weak.mk [] ⟨G,VLe.of_eq (congrArg vI (Int.ofNat_tmod x y).symm),T⟩ O⟩
 ·try simp only [I] at c1
  refine qQ<|F O<|A O<|A O<|H<|o<|X O ?_
  exact congrArg vI (by rw [hg,show y=0 by omega,Nat.gcd_zero_right])
theorem frac_Valid (v:Vl):
    Pur cfg 280 [vX v] (vB (decide (1<=v.D)&&decide (v.D<=2147483647)&&nH v.N&&decide (Int.gcd v.N v.D=1))):=by
 refine zT Tryz.func280 O Tryz.ntmps280 Tryz.results280 O ?_
 intro z hz
 refine F O<|zV O O (qN O O) ?_
 rintro _ _ ⟨b1,rfl,rfl⟩
 refine A O<|H<|zK<|qZ 24 mixed (by kernel_rfl) O O<|M O O (zE O zIu O)<|M O O (zF O U O (R 0 O) O)<|M O O (wI O O O)<|M O O (zN O O)<|f [] O O O O gv1 T (fun g1_3=>zE O zIu O) O<|f [(7,_)] O O O O gv1 ⟨O,O,T⟩ (fun g1_3=>zF O U O (R 0 O) O) O<|f [(8,_)] O O O O gv1 ⟨O,O,T⟩ (fun g1_3=>wY O O O) O<|M O O (kZ O O O (fun h=>h) O)<|M O O (zN O O)<|f [] O O O O gv1 T (fun g1_8=>zE O zHi O) O<|f [(12,_)] O O O O gv1 ⟨O,O,T⟩ (fun g1_8=>zF O U O (R 0 O) O) O<|f [(13,_)] O O O O gv1 ⟨O,O,T⟩ (fun g1_8=>qM O ok298 (frac_inRange _) ⟨G,O,T⟩) O<|M O O (kZ O O O (fun h=>h) O)<|M O O (zN O O)<|f [] O O O O gv1 T (fun g1_13=>zE O zHi O) O<|f [(17,_)] O O O O gv1 ⟨O,O,T⟩ (fun g1_13=>zF O U O (R 0 O) O) O<|f [(18,_)] O O O O gv1 ⟨O,O,T⟩ (fun g1_13=>qM O ok300 (frac_magnitude v.N (frV g1_13).2.2.1 (frV g1_13).2.2.2) ⟨G,O,T⟩) O<|f [] O O O O gv1 T (fun g1_13=>zE O zIu O) O<|f [(20,_)] O O O O gv1 ⟨O,O,T⟩ (fun g1_13=>zF O U O (R 0 O) O) O<|f [(21,_)] O O O O gv1 ⟨O,O,T⟩ (fun g1_13=>kU O us2 ik180 O) O<|f [(19,_),(22,_)] O O O O gv1 ⟨O,O,O,O,T⟩ (fun g1_13=>qM O ok299 (show Pur cfg 299 [pH v.N.natAbs,pH (IntKind.u64.wrap v.D)] (pH (Nat.gcd v.N.natAbs v.D.natAbs)) from by rw [u64_D (frV g1_13).1 (frV g1_13).2.1];exact frac_gcd _ _) ⟨G,O,G,O,T⟩) O<|f [(23,_)] O O O O gv1 ⟨O,O,T⟩ (fun g1_13=>yH O O O) O<|M O O (kZ O O O (fun h=>h) O)<|M O O (yA O O)<|kE<|H<|o<|X O ?_
 exact congrArg vB (by rw [show (decide (((Nat.gcd v.N.natAbs v.D.natAbs:Nat):Int)=1))=decide (Int.gcd v.N v.D=1) from decide_eq_decide.2 (by unfold Int.gcd;omega)])
theorem value_Valid (t:Ty) (v:Vl):
    Pur cfg 240 [vTy t,vX v] (vB (jM t&&lA t v)):=by
 refine zT Tryz.func240 O Tryz.ntmps240 Tryz.results240 O ?_
 intro z hz
 refine F O<|zV O O (qN O O) ?_
 rintro _ _ ⟨b1,rfl,rfl⟩
 refine zV O O (qN O O) ?_
 rintro _ _ ⟨b2,rfl,rfl⟩
 refine A O<|H<|zK<|F O<|zP yN (R 1 O) O<|qI O ok127 (zDg _) ⟨G,O,T⟩<|yM O<|H<|zD O (fun c1=>?_) (fun c1=>?_)
 ·try simp only [I] at c1
  have ht:jM t=false:=tyErr_ne c1
  refine F O<|A O<|H<|o<|X O ?_
  rw [ht];rfl
 ·try simp only [I] at c1
  have ht:jM t=true:=zLe c1
  refine zM<|zK<|F O<|zG O zHh<|zJ one3 (R 1 O) O<|H<|zR<|F O<|yF O<|A O<|H<|zD O (fun c2=>?_) (fun c2=>?_)
  ·try simp only [I] at c2
   refine F O<|zP yN (R 1 O) O<|zP agg36 (R 0 O) O<|qI O ok278 (fixed_Valid _ _) ⟨G,O,G,O,T⟩<|A O<|H<|o<|X O ?_
   exact congrArg vB (by rw [ht,lA,c2,←zCh c2,ht];rfl)
  ·try simp only [I] at c2
   refine F O<|yF O<|A O<|H<|zD O (fun c3=>?_) (fun c3=>?_)
   ·try simp only [I] at c3
    refine F O<|zG O zIu<|zJ U (R 0 O) O<|yF O<|A O<|rL0 O (fun g7_3=>zE O zHi O) O<|B 21 O (fun g7_3=>zF O U O (R 0 O) O) O<|B 22 O (fun g7_3=>qM O ok279 (value_whole _) ⟨G,O,T⟩) O<|yQ O (fun h=>h)<|A O<|H<|o<|X O ?_
    exact congrArg vB (by rw [ht,lA,yO c2,c3];rfl)
   ·try simp only [I] at c3
    refine zM<|F O<|zP agg36 (R 0 O) O<|qI O ok280 (frac_Valid _) ⟨G,O,T⟩<|A O<|H<|o<|X O ?_
    exact congrArg vB (by rw [ht,lA,yO c2,yO c3];rfl)
theorem base_Val (t:Ty) (v:Vl) (ht:jM t=true):
    Pur cfg 285 [vTy t,vX v] (vB (lA t v)):=by
 refine zT Tryz.func285 O Tryz.ntmps285 Tryz.results285 O ?_
 intro z hz
 refine F O<|zV O O (qN O O) ?_
 rintro _ _ ⟨b1,rfl,rfl⟩
 refine zV O O (qN O O) ?_
 rintro _ _ ⟨b2,rfl,rfl⟩
 refine A O<|H<|zK<|F O<|zG O zHh<|zJ one3 (R 1 O) O<|yF O<|H<|zD O (fun c1=>?_) (fun c1=>?_)
 ·try simp only [I] at c1
  obtain ⟨b1,b2⟩:=fixB (by rw [←zCh c1];exact ht)
  refine F O<|zG O zMj<|zJ one3 (R 1 O) O<|zU O (yE O O O ⟨by omega,by omega⟩)<|zU O (det_shl O O O (by omega))<|A O<|H<|F O<|zG O zIu<|zJ U (R 0 O) O<|yF O<|A O<|rL0 O (fun g3_3=>zE O zHi O) O<|B 17 O (fun g3_3=>zF O U O (R 0 O) O) O<|rL0 O (fun g3_3=>zN O O) O<|B 19 O (fun g3_3=>zGo O O) O<|rLz [(18,_),(20,_)] O gv1 ⟨O,O,O,O,T⟩ (fun g3_3=>wI O O O) O<|yQ O (fun h=>h)<|A O<|rL0 O (fun g3_10=>zE O zHi O) O<|B 24 O (fun g3_10=>zF O U O (R 0 O) O) O<|rL0 O (fun g3_10=>zN O O) O<|rLz [(25,_),(26,_)] O gv1 ⟨O,O,O,O,T⟩ (fun g3_10=>zBr O O O) O<|yQ O (fun h=>h)<|A O<|H<|o<|X O ?_
  exact congrArg vB (valfix c1 b1 b2)
 ·try simp only [I] at c1
  refine zM<|zK<|F O<|zG O zHi<|zJ U (R 0 O) O<|zU O (yG O O O)<|A O<|rL0 O (fun g4_3=>zE O zHi O) O<|B 33 O (fun g4_3=>zF O U O (R 0 O) O) O<|B 34 O (fun g4_3=>zBr O O O) O<|r_or O (fun h=>(lzf h))<|A O<|rL0 O (fun g4_8=>zE O zIu O) O<|B 38 O (fun g4_8=>zF O U O (R 0 O) O) O<|B 39 O (fun g4_8=>zBr O O O) O<|r_or O (fun h=>(lzf h))<|A O<|rL0 O (fun g4_13=>zE O zIu O) O<|B 43 O (fun g4_13=>zF O U O (R 0 O) O) O<|B 44 O (fun g4_13=>yG O O O) O<|r_or O (fun h=>(lzf h))<|H<|zD O (fun c2=>?_) (fun c2=>?_)
  ·refine F O<|A O<|H<|o<|X O ?_
   exact congrArg vB (val_out c1 c2).symm
  ·obtain ⟨hN1,hN2,hD1,hD2⟩:=val_in c2
   refine zM<|zK<|F O<|zG O zHh<|zJ one3 (R 1 O) O<|yF O<|H<|zD O (fun c3=>?_) (fun c3=>?_)
   ·try simp only [I] at c3
    refine F O<|zG O zIu<|zJ U (R 0 O) O<|yF O<|A O<|H<|o<|X O ?_
    exact congrArg vB (by rw [lA,yO c1,c3];simp [nH,hN1,hN2])
   ·try simp only [I] at c3
    refine zM<|F O<|zG O zHi<|zJ U (R 0 O) O<|zG O zHi<|zJ U (R 0 O) O<|zU O (zGo O O)<|zU O (zQp O O O)<|zG O zIu<|zJ U (R 0 O) O<|qI O ok301 (show Pur cfg 301 [vI (max v.N (IntKind.i64.wrap (-v.N))),vI v.D] (vI (Int.gcd v.N v.D)) from by rw [max_abs hN1 hN2,show v.D=(v.D.natAbs:Int) by omega];exact base_gcd _ _) ⟨G,O,G,O,T⟩<|yF O<|A O<|H<|o<|X O ?_
    exact congrArg vB (by rw [lA,yO c1,yO c3];simp [nH,hN1,hN2,hD1,hD2];omega)
end Go.W
