/-
  Walks: what functions of the program compute. Printed by wip/gen/mk2.py.
  Conditions: none.
-/
import Derived.Test.YtlfjpejkoccibaaGreatDoorWA
set_option linter.unusedSimpArgs false
set_option linter.unusedVariables false
set_option maxRecDepth 10000
namespace Go.W
open Go Go.Eng Go.Proofs Go.L41 Go.Br
attribute [local irreducible] AWP RWP TD finQ
theorem agg36:aggT Tryz.prog 36=some 2:=by kernel_rfl
theorem yR:aggT Tryz.prog 38=some 5:=by kernel_rfl
theorem zQp:fieldT Tryz.prog 36 0=some (0,2):=by kernel_rfl
theorem zQo:fieldT Tryz.prog 36 1=some (1,2):=by kernel_rfl
theorem zQn:fieldT Tryz.prog 38 0=some (0,3):=by kernel_rfl
theorem fd38_1:fieldT Tryz.prog 38 1=some (1,3):=by kernel_rfl
theorem fd38_2:fieldT Tryz.prog 38 2=some (2,3):=by kernel_rfl
theorem fd38_3:fieldT Tryz.prog 38 3=some (3,3):=by kernel_rfl
theorem fd38_4:fieldT Tryz.prog 38 4=some (4,3):=by kernel_rfl
theorem fl38:flatK Tryz.prog 38=some [.int,.int,.int,.int,.int]:=by kernel_rfl
theorem ik180:intT Tryz.prog 180=some .u64:=by kernel_rfl
theorem ik205:intT Tryz.prog 205=some .u64:=by kernel_rfl
theorem ok127:callOk Tryz.prog 127=true:=by kernel_rfl
theorem ok161:callOk Tryz.prog 161=true:=by kernel_rfl
theorem ok162:callOk Tryz.prog 162=true:=by kernel_rfl
theorem ok278:callOk Tryz.prog 278=true:=by kernel_rfl
theorem ok279:callOk Tryz.prog 279=true:=by kernel_rfl
theorem ok280:callOk Tryz.prog 280=true:=by kernel_rfl
theorem ok296:callOk Tryz.prog 296=true:=by kernel_rfl
theorem ok297:callOk Tryz.prog 297=true:=by kernel_rfl
theorem ok298:callOk Tryz.prog 298=true:=by kernel_rfl
theorem ok299:callOk Tryz.prog 299=true:=by kernel_rfl
theorem ok300:callOk Tryz.prog 300=true:=by kernel_rfl
theorem ok304:callOk Tryz.prog 304=true:=by kernel_rfl
theorem J:oneT Tryz.prog 3=true:=by kernel_rfl
theorem pl38:placesT Tryz.prog 38=some [(0,1),(1,1),(2,1),(3,1),(4,1)]:=by kernel_rfl
theorem us2:(Tryz.prog.underlying 2).isSome=true:=by kernel_rfl
theorem us3:(Tryz.prog.underlying 3).isSome=true:=by kernel_rfl
theorem l:zeroT Tryz.prog 38=some [(Value.int IntKind.i64 0),(Value.int IntKind.i64 0),(Value.int IntKind.i64 0),(Value.int IntKind.i64 0),(Value.int IntKind.i64 0)]:=by kernel_rfl
theorem zOq (t:Ty):
    Pur cfg 161 [vTy t] (vB (plainT t)):=by
 refine zQ Tryz.func161 O Tryz.ntmps161 Tryz.results161 O ?_
 intro z hz
 refine F O<|zU O O (qL O O) ?_
 rintro _ _ ⟨b1,rfl,rfl⟩
 refine A O<|H<|F O<|zO yR (R 0 O) O<|zJ O zQn<|zK J (R 0 O) O<|yS O l pl38<|zR O (det_aeql O fl38 O O O)<|A O<|H<|o<|X O ?_
 exact congrArg vB (plainT_eq t)
theorem zCd (t:Ty):
    Pur cfg 162 [vTy t] (vI (bif fixOk t then 0 else 10)):=by
 refine zQ Tryz.func162 O Tryz.ntmps162 Tryz.results162 O ?_
 intro z hz
 refine F O<|zU O O (qL O O) ?_
 rintro _ _ ⟨b1,rfl,rfl⟩
 refine A O<|H<|F O<|zJ O fd38_3<|zK J (R 0 O) O<|zR O (wK O O O)<|A O<|M O (fun g1_3=>zE O fd38_3 O) O<|B 8 O (fun g1_3=>Q O J O (R 0 O) O) O<|B 9 O (fun g1_3=>wV O O O) O<|kD O (fun h=>h)<|A O<|M O (fun g1_8=>zE O fd38_4 O) O<|B 13 O (fun g1_8=>Q O J O (R 0 O) O) O<|B 14 O (fun g1_8=>yX O O O) O<|B 15 O (fun g1_8=>w O O) O<|rLz [] O gv2 T (fun g1_12=>zE O fd38_4 O) O<|rLz [(17,_)] O gv2 ⟨O,O,T⟩ (fun g1_12=>Q O J O (R 0 O) O) O<|rLz [(18,_)] O gv2 ⟨O,O,T⟩ (fun g1_12=>yX O O O) O<|B 16 O (fun g1_8=>zDh O O O O (fun h=>kK (by assumption) (lzf h))) O<|kD O (fun h=>h)<|A O<|H<|zI<|F O<|zJ O zQn<|zK J (R 0 O) O<|yP O<|A O<|M O (fun g2_3=>zE O fd38_1 O) O<|B 26 O (fun g2_3=>Q O J O (R 0 O) O) O<|B 27 O (fun g2_3=>zHk O O O) O<|j O (fun h=>(lzf h))<|A O<|M O (fun g2_8=>zE O fd38_1 O) O<|B 31 O (fun g2_8=>Q O J O (R 0 O) O) O<|B 32 O (fun g2_8=>yW O O O) O<|j O (fun h=>(lzf h))<|A O<|M O (fun g2_13=>zE O fd38_2 O) O<|B 36 O (fun g2_13=>Q O J O (R 0 O) O) O<|B 37 O (fun g2_13=>zHk O O O) O<|j O (fun h=>(lzf h))<|A O<|M O (fun g2_18=>zE O fd38_2 O) O<|B 41 O (fun g2_18=>Q O J O (R 0 O) O) O<|B 42 O (fun g2_18=>yW O O O) O<|j O (fun h=>(lzf h))<|A O<|M O (fun g2_23=>w O O) O<|B 46 O (fun g2_23=>wC O O) O<|j O (fun h=>(lzf h))<|H<|zD O (fun c1=>?_) (fun c1=>?_)
 ·refine F O<|A O<|H<|o<|X O ?_
  rw [show fixOk t=false from fix_no c1];rfl
 ·refine zH<|F O<|A O<|H<|o<|X O ?_
  rw [show fixOk t=true from fix_yes c1];rfl
theorem zBx (t:Ty):
    Pur cfg 127 [vTy t] (vI (tyErr t)):=by
 refine zQ Tryz.func127 O Tryz.ntmps127 Tryz.results127 O ?_
 intro z hz
 refine F O<|zU O O (qL O O) ?_
 rintro _ _ ⟨b1,rfl,rfl⟩
 refine A O<|H<|zI<|F O<|zJ O zQn<|zK J (R 0 O) O<|H<|zS<|zI<|F O<|yZ O<|A O<|H<|zD O (fun c1=>?_) (fun c1=>?_)
 ·try simp only [I] at c1
  refine zH<|zD O (fun c2=>?_) (fun c2=>?_)
  ·try simp only [I] at c2
   refine F O<|zO yR (R 0 O) O<|qG O ok161 (zOq _) ⟨G,O,T⟩<|H<|zD O (fun c3=>?_) (fun c3=>?_)
   ·try simp only [I] at c3
    refine F O<|A O<|H<|o<|X O ?_
    exact congrArg vI (by first|(exfalso;omega)|(rw [tyErr,tyk1 (by omega),c3];rfl)|(rw [tyErr,zBg (by omega),fxz c5];rfl)|(rw [tyErr,zBg (by omega),fxn c5];rfl)|(rw [tyErr,tyk0 (by omega) (by omega) (by omega)];rfl))
   ·try simp only [I] at c3
    refine zH<|F O<|A O<|H<|o<|X O ?_
    exact congrArg vI (by first|(exfalso;omega)|(rw [tyErr,tyk1 (by omega),c3];rfl)|(rw [tyErr,zBg (by omega),fxz c5];rfl)|(rw [tyErr,zBg (by omega),fxn c5];rfl)|(rw [tyErr,tyk0 (by omega) (by omega) (by omega)];rfl))
  ·try simp only [I] at c2
   refine F O<|yZ O<|A O<|H<|zD O (fun c4=>?_) (fun c4=>?_)
   ·try simp only [I] at c4
    refine F O<|zO yR (R 0 O) O<|qG O ok162 (zCd _) ⟨G,O,T⟩<|yZ O<|H<|zD O (fun c5=>?_) (fun c5=>?_)
    ·try simp only [I] at c5
     refine F O<|A O<|H<|o<|X O ?_
     exact congrArg vI (by first|(exfalso;omega)|(rw [tyErr,tyk1 (by omega),c3];rfl)|(rw [tyErr,zBg (by omega),fxz c5];rfl)|(rw [tyErr,zBg (by omega),fxn c5];rfl)|(rw [tyErr,tyk0 (by omega) (by omega) (by omega)];rfl))
    ·try simp only [I] at c5
     refine zH<|F O<|A O<|H<|o<|X O ?_
     exact congrArg vI (by first|(exfalso;omega)|(rw [tyErr,tyk1 (by omega),c3];rfl)|(rw [tyErr,zBg (by omega),fxz c5];rfl)|(rw [tyErr,zBg (by omega),fxn c5];rfl)|(rw [tyErr,tyk0 (by omega) (by omega) (by omega)];rfl))
   ·try simp only [I] at c4
    refine zH<|F O<|A O<|H<|o<|X O ?_
    exact congrArg vI (by first|(exfalso;omega)|(rw [tyErr,tyk1 (by omega),c3];rfl)|(rw [tyErr,zBg (by omega),fxz c5];rfl)|(rw [tyErr,zBg (by omega),fxn c5];rfl)|(rw [tyErr,tyk0 (by omega) (by omega) (by omega)];rfl))
 ·try simp only [I] at c1
  refine zT O<|yZ O<|A O<|H<|zD O (fun c2=>?_) (fun c2=>?_)
  ·try simp only [I] at c2
   refine F O<|zO yR (R 0 O) O<|qG O ok161 (zOq _) ⟨G,O,T⟩<|H<|zD O (fun c3=>?_) (fun c3=>?_)
   ·try simp only [I] at c3
    refine F O<|A O<|H<|o<|X O ?_
    exact congrArg vI (by first|(exfalso;omega)|(rw [tyErr,tyk1 (by omega),c3];rfl)|(rw [tyErr,zBg (by omega),fxz c5];rfl)|(rw [tyErr,zBg (by omega),fxn c5];rfl)|(rw [tyErr,tyk0 (by omega) (by omega) (by omega)];rfl))
   ·try simp only [I] at c3
    refine zH<|F O<|A O<|H<|o<|X O ?_
    exact congrArg vI (by first|(exfalso;omega)|(rw [tyErr,tyk1 (by omega),c3];rfl)|(rw [tyErr,zBg (by omega),fxz c5];rfl)|(rw [tyErr,zBg (by omega),fxn c5];rfl)|(rw [tyErr,tyk0 (by omega) (by omega) (by omega)];rfl))
  ·try simp only [I] at c2
   refine F O<|yZ O<|A O<|H<|zD O (fun c4=>?_) (fun c4=>?_)
   ·try simp only [I] at c4
    refine F O<|zO yR (R 0 O) O<|qG O ok162 (zCd _) ⟨G,O,T⟩<|yZ O<|H<|zD O (fun c5=>?_) (fun c5=>?_)
    ·try simp only [I] at c5
     refine F O<|A O<|H<|o<|X O ?_
     exact congrArg vI (by first|(exfalso;omega)|(rw [tyErr,tyk1 (by omega),c3];rfl)|(rw [tyErr,zBg (by omega),fxz c5];rfl)|(rw [tyErr,zBg (by omega),fxn c5];rfl)|(rw [tyErr,tyk0 (by omega) (by omega) (by omega)];rfl))
    ·try simp only [I] at c5
     refine zH<|F O<|A O<|H<|o<|X O ?_
     exact congrArg vI (by first|(exfalso;omega)|(rw [tyErr,tyk1 (by omega),c3];rfl)|(rw [tyErr,zBg (by omega),fxz c5];rfl)|(rw [tyErr,zBg (by omega),fxn c5];rfl)|(rw [tyErr,tyk0 (by omega) (by omega) (by omega)];rfl))
   ·try simp only [I] at c4
    refine zH<|F O<|A O<|H<|o<|X O ?_
    exact congrArg vI (by first|(exfalso;omega)|(rw [tyErr,tyk1 (by omega),c3];rfl)|(rw [tyErr,zBg (by omega),fxz c5];rfl)|(rw [tyErr,zBg (by omega),fxn c5];rfl)|(rw [tyErr,tyk0 (by omega) (by omega) (by omega)];rfl))
theorem zPe (b:Int):
    Pur cfg 304 [vI b] (vB (decide (2<=b)&&decide (b<=31))):=by
 refine zQ Tryz.func304 O Tryz.ntmps304 Tryz.results304 O ?_
 intro z hz
 refine F O<|A O<|H<|F O<|A O<|zR O (wK O O O)<|A O<|M O (fun g1_2=>w O O) O<|B 6 O (fun g1_2=>wV O O O) O<|kD O (fun h=>h)<|A O<|H<|o<|X O ?_
 exact O
theorem round_MinInt (b:Int) (h1:2<=b) (h2:b<=31):
    Pur cfg 296 [vI b] (vI (-half b)):=by
 refine zQ Tryz.func296 O Tryz.ntmps296 Tryz.results296 O ?_
 intro z hz
 refine F O<|A O<|H<|zI<|F O<|A O<|qG O ok304 (zPe _) ⟨G,O,T⟩<|kY O<|H<|zD O (fun c1=>?_) (fun c1=>?_)
 ·try simp only [I] at c1
  exact absurd c1 (by omega)
 ·try simp only [I] at c1
  refine zH<|F O<|A O<|zR O (yB O O O ⟨by omega,by omega⟩)<|zR O (zCh O us3 ik205 O)<|zR O (det_shl O O O (by rw [zJk (by omega)];omega))<|zR O (det_neg O O)<|A O<|H<|o<|X O ?_
  exact congrArg vI (min_eq h1 h2)
theorem round_MaxInt (b:Int) (h1:2<=b) (h2:b<=31):
    Pur cfg 297 [vI b] (vI (half b-1)):=by
 refine zQ Tryz.func297 O Tryz.ntmps297 Tryz.results297 O ?_
 intro z hz
 refine F O<|A O<|H<|zI<|F O<|A O<|qG O ok304 (zPe _) ⟨G,O,T⟩<|kY O<|H<|zD O (fun c1=>?_) (fun c1=>?_)
 ·try simp only [I] at c1
  exact absurd c1 (by omega)
 ·try simp only [I] at c1
  refine zH<|F O<|A O<|zR O (yB O O O ⟨by omega,by omega⟩)<|zR O (zCh O us3 ik205 O)<|zR O (det_shl O O O (by rw [zJk (by omega)];omega))<|zR O (zMk O O O)<|A O<|H<|o<|X O ?_
  exact congrArg vI (max_eq h1 h2)
theorem fixed_Valid (t:Ty) (v:Vl):
    Pur cfg 278 [vTy t,vVal v] (vB (fixOk t&&(decide (v.D=1)&&decide (-half t.Bits<=v.N)&&decide (v.N<half t.Bits)))):=by
 refine zQ Tryz.func278 O Tryz.ntmps278 Tryz.results278 O ?_
 intro z hz
 refine F O<|zU O O (qL O O) ?_
 rintro _ _ ⟨b1,rfl,rfl⟩
 refine zU O O (qL O O) ?_
 rintro _ _ ⟨b2,rfl,rfl⟩
 refine A O<|H<|zI<|qY 25 mixed (by kernel_rfl) O O<|Y O O (zX O yR O (R 1 O) O)<|Y O O (qI O ok162 (zCd _) ⟨G,O,T⟩)<|Y O O (yX O O O)<|Y O O (w O O)<|i [] O O O O gv1 T (fun g1_3=>zE O zQo O) O<|i [(9,_)] O O O O gv1 ⟨O,O,T⟩ (fun g1_3=>Q O n O (R 0 O) O) O<|i [(10,_)] O O O O gv1 ⟨O,O,T⟩ (fun g1_3=>yX O O O) O<|Y O O (wX O O O (fun h=>h) O)<|Y O O (w O O)<|i [] O O O O gv1 T (fun g1_8=>zE O zQp O) O<|i [(14,_)] O O O O gv1 ⟨O,O,T⟩ (fun g1_8=>Q O n O (R 0 O) O) O<|i [] O O O O gv1 T (fun g1_8=>zE O fd38_1 O) O<|i [(16,_)] O O O O gv1 ⟨O,O,T⟩ (fun g1_8=>Q O J O (R 1 O) O) O<|i [(17,_)] O O O O gv1 ⟨O,O,T⟩ (fun g1_8=>qI O ok296 (round_MinInt _ (fixB (fxa g1_8)).1 (fixB (fxa g1_8)).2) ⟨G,O,T⟩) O<|i [(15,_),(18,_)] O O O O gv1 ⟨O,O,O,O,T⟩ (fun g1_8=>wK O O O) O<|Y O O (wX O O O (fun h=>h) O)<|Y O O (w O O)<|i [] O O O O gv1 T (fun g1_16=>zE O zQp O) O<|i [(22,_)] O O O O gv1 ⟨O,O,T⟩ (fun g1_16=>Q O n O (R 0 O) O) O<|i [] O O O O gv1 T (fun g1_16=>zE O fd38_1 O) O<|i [(24,_)] O O O O gv1 ⟨O,O,T⟩ (fun g1_16=>Q O J O (R 1 O) O) O<|i [(25,_)] O O O O gv1 ⟨O,O,T⟩ (fun g1_16=>qI O ok297 (round_MaxInt _ (fixB (fxb g1_16)).1 (fixB (fxb g1_16)).2) ⟨G,O,T⟩) O<|i [(23,_),(26,_)] O O O O gv1 ⟨O,O,O,O,T⟩ (fun g1_16=>wV O O O) O<|Y O O (wX O O O (fun h=>h) O)<|Y O O (yC O O)<|kH<|H<|o<|X O ?_
 exact congrArg vB (fixV t v)
theorem value_whole (n:Int):
    Pur cfg 279 [vI n] (vB (num31 n)):=by
 refine zQ Tryz.func279 O Tryz.ntmps279 Tryz.results279 O ?_
 intro z hz
 refine F O<|A O<|H<|F O<|A O<|zR O (wK O O O)<|A O<|M O (fun g1_2=>w O O) O<|B 6 O (fun g1_2=>wV O O O) O<|kD O (fun h=>h)<|A O<|H<|o<|X O ?_
 exact O
theorem frac_inRange (n:Int):
    Pur cfg 298 [vI n] (vB (num31 n)):=by
 refine zQ Tryz.func298 O Tryz.ntmps298 Tryz.results298 O ?_
 intro z hz
 refine F O<|A O<|H<|F O<|A O<|zR O (wK O O O)<|A O<|M O (fun g1_2=>w O O) O<|B 6 O (fun g1_2=>wV O O O) O<|kD O (fun h=>h)<|A O<|H<|o<|X O ?_
 exact O
theorem frac_magnitude (n:Int) (hn: -9223372036854775808<=n) (hm:n<=9223372036854775807):
    Pur cfg 300 [vI n] (vU64 n.natAbs):=by
 refine zQ Tryz.func300 O Tryz.ntmps300 Tryz.results300 O ?_
 intro z hz
 refine F O<|A O<|H<|zI<|F O<|A O<|yN O<|H<|zD O (fun c1=>?_) (fun c1=>?_)
 ·try simp only [I] at c1
  refine F O<|A O<|zR O (zCh O us2 ik180 O)<|zR O (det_neg O O)<|A O<|H<|o<|X O ?_
  exact congrArg vU64 (mag_neg c1 hn)
 ·try simp only [I] at c1
  refine zH<|F O<|A O<|zR O (zCh O us2 ik180 O)<|A O<|H<|o<|X O ?_
  exact congrArg vU64 (mag_pos (by omega) hm)
theorem frac_gcd (a b:Nat):
    Pur cfg 299 [vU64 a,vU64 b] (vU64 (Nat.gcd a b)):=by
 refine zQ Tryz.func299 O Tryz.ntmps299 Tryz.results299 O ?_
 intro z hz
 refine F O<|A O<|H<|zI<|zS<|zV ⟨[(0,.c _),(1,.c _)],[]⟩ (Weak.mk [] ⟨G,G,T⟩ O)<|qO 2 0 O O (Nat×Nat) (fun ⟨x,y⟩=>[(0,vU64 x),(1,vU64 y)]) (fun ⟨x,y⟩=>[]) (fun ⟨x,y⟩=>Nat.gcd a b=Nat.gcd x y) (fun ⟨x,y⟩=>y) ⟨⟨a,b⟩,O,Weak.mk [] ⟨G,G,T⟩ O⟩ ?_
 rintro ⟨x,y⟩ hg
 refine zI<|F O<|A O<|yP O<|H<|zD O (fun c1=>?_) (fun c1=>?_)
 ·try simp only [I] at c1
  refine zH<|zS<|qY 6 mixed (by kernel_rfl) O O<|Y O O (w O O)<|Y O O (w O O)<|Y O O (w O O)<|Y O O (det_rem O O O (by omega))<|Y O O (yC O O)<|Y O O (yC O O)<|kH<|H ?_
  refine ⟨⟨y,x%y⟩,(by rw [hg];exact gcd_step (by omega)),(Nat.mod_lt _ (by omega)),Weak.mk [] ⟨G,VLe.of_eq (congrArg vU64 (Int.ofNat_tmod x y).symm),T⟩ O⟩
 ·try simp only [I] at c1
  refine qQ<|F O<|A O<|A O<|H<|o<|X O ?_
  exact congrArg vU64 (by rw [hg,show y=0 by omega,Nat.gcd_zero_right])
theorem frac_Valid (v:Vl):
    Pur cfg 280 [vVal v] (vB (decide (1<=v.D)&&decide (v.D<=2147483647)&&num31 v.N&&decide (Int.gcd v.N v.D=1))):=by
 refine zQ Tryz.func280 O Tryz.ntmps280 Tryz.results280 O ?_
 intro z hz
 refine F O<|zU O O (qL O O) ?_
 rintro _ _ ⟨b1,rfl,rfl⟩
 refine A O<|H<|zI<|qY 24 mixed (by kernel_rfl) O O<|Y O O (zE O zQo O)<|Y O O (Q O n O (R 0 O) O)<|Y O O (wK O O O)<|Y O O (w O O)<|i [] O O O O gv1 T (fun g1_3=>zE O zQo O) O<|i [(7,_)] O O O O gv1 ⟨O,O,T⟩ (fun g1_3=>Q O n O (R 0 O) O) O<|i [(8,_)] O O O O gv1 ⟨O,O,T⟩ (fun g1_3=>wV O O O) O<|Y O O (wX O O O (fun h=>h) O)<|Y O O (w O O)<|i [] O O O O gv1 T (fun g1_8=>zE O zQp O) O<|i [(12,_)] O O O O gv1 ⟨O,O,T⟩ (fun g1_8=>Q O n O (R 0 O) O) O<|i [(13,_)] O O O O gv1 ⟨O,O,T⟩ (fun g1_8=>qI O ok298 (frac_inRange _) ⟨G,O,T⟩) O<|Y O O (wX O O O (fun h=>h) O)<|Y O O (w O O)<|i [] O O O O gv1 T (fun g1_13=>zE O zQp O) O<|i [(17,_)] O O O O gv1 ⟨O,O,T⟩ (fun g1_13=>Q O n O (R 0 O) O) O<|i [(18,_)] O O O O gv1 ⟨O,O,T⟩ (fun g1_13=>qI O ok300 (frac_magnitude v.N (frV g1_13).2.2.1 (frV g1_13).2.2.2) ⟨G,O,T⟩) O<|i [] O O O O gv1 T (fun g1_13=>zE O zQo O) O<|i [(20,_)] O O O O gv1 ⟨O,O,T⟩ (fun g1_13=>Q O n O (R 0 O) O) O<|i [(21,_)] O O O O gv1 ⟨O,O,T⟩ (fun g1_13=>zCh O us2 ik180 O) O<|i [(19,_),(22,_)] O O O O gv1 ⟨O,O,O,O,T⟩ (fun g1_13=>qI O ok299 (show Pur cfg 299 [vU64 v.N.natAbs,vU64 (IntKind.u64.wrap v.D)] (vU64 (Nat.gcd v.N.natAbs v.D.natAbs)) from by rw [u64_D (frV g1_13).1 (frV g1_13).2.1];exact frac_gcd _ _) ⟨G,O,G,O,T⟩) O<|i [(23,_)] O O O O gv1 ⟨O,O,T⟩ (fun g1_13=>yX O O O) O<|Y O O (wX O O O (fun h=>h) O)<|Y O O (yC O O)<|kH<|H<|o<|X O ?_
 exact congrArg vB (by rw [show (decide (((Nat.gcd v.N.natAbs v.D.natAbs:Nat):Int)=1))=decide (Int.gcd v.N v.D=1) from decide_eq_decide.2 (by unfold Int.gcd;omega)])
theorem value_Valid (t:Ty) (v:Vl):
    Pur cfg 240 [vTy t,vVal v] (vB (tyOk t&&valOk t v)):=by
 refine zQ Tryz.func240 O Tryz.ntmps240 Tryz.results240 O ?_
 intro z hz
 refine F O<|zU O O (qL O O) ?_
 rintro _ _ ⟨b1,rfl,rfl⟩
 refine zU O O (qL O O) ?_
 rintro _ _ ⟨b2,rfl,rfl⟩
 refine A O<|H<|zI<|F O<|zO yR (R 1 O) O<|qG O ok127 (zBx _) ⟨G,O,T⟩<|yP O<|H<|zD O (fun c1=>?_) (fun c1=>?_)
 ·try simp only [I] at c1
  have ht:tyOk t=false:=tyErr_ne c1
  refine F O<|A O<|H<|o<|X O ?_
  rw [ht];rfl
 ·try simp only [I] at c1
  have ht:tyOk t=true:=zHr c1
  refine zH<|zI<|F O<|zJ O zQn<|zK J (R 1 O) O<|H<|zS<|F O<|yZ O<|A O<|H<|zD O (fun c2=>?_) (fun c2=>?_)
  ·try simp only [I] at c2
   refine F O<|zO yR (R 1 O) O<|zO agg36 (R 0 O) O<|qG O ok278 (fixed_Valid _ _) ⟨G,O,G,O,T⟩<|A O<|H<|o<|X O ?_
   exact congrArg vB (by rw [ht,valOk,c2,←zBg c2,ht];rfl)
  ·try simp only [I] at c2
   refine F O<|yZ O<|A O<|H<|zD O (fun c3=>?_) (fun c3=>?_)
   ·try simp only [I] at c3
    refine F O<|zJ O zQo<|zK n (R 0 O) O<|yZ O<|A O<|M O (fun g7_3=>zE O zQp O) O<|B 21 O (fun g7_3=>Q O n O (R 0 O) O) O<|B 22 O (fun g7_3=>qI O ok279 (value_whole _) ⟨G,O,T⟩) O<|kD O (fun h=>h)<|A O<|H<|o<|X O ?_
    exact congrArg vB (by rw [ht,valOk,yL c2,c3];rfl)
   ·try simp only [I] at c3
    refine zH<|F O<|zO agg36 (R 0 O) O<|qG O ok280 (frac_Valid _) ⟨G,O,T⟩<|A O<|H<|o<|X O ?_
    exact congrArg vB (by rw [ht,valOk,yL c2,yL c3];rfl)
end Go.W
