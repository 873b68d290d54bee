/-
  Walks: what functions of the program compute. Printed by wip/gen/mk2.py.
  Conditions: none.
-/
import Derived.Test.YtlfjpejkoccibaaGreatDoorWA
set_option linter.unusedSimpArgs false
set_option linter.unusedVariables false
set_option maxRecDepth 10000
namespace Go.W
open Go Go.Eng Go.Proofs Go.L41 Go.Br
attribute [local irreducible] AWP RWP TD finQ
theorem agg36:aggT Tryz.prog 36=some 2:=by kernel_rfl
theorem yK:aggT Tryz.prog 38=some 5:=by kernel_rfl
theorem zFs:fieldT Tryz.prog 36 0=some (0,2):=by kernel_rfl
theorem zHe:fieldT Tryz.prog 36 1=some (1,2):=by kernel_rfl
theorem zFr:fieldT Tryz.prog 38 0=some (0,3):=by kernel_rfl
theorem zKc:fieldT Tryz.prog 38 1=some (1,3):=by kernel_rfl
theorem zSu:fieldT Tryz.prog 38 2=some (2,3):=by kernel_rfl
theorem zSs:fieldT Tryz.prog 38 3=some (3,3):=by kernel_rfl
theorem zSr:fieldT Tryz.prog 38 4=some (4,3):=by kernel_rfl
theorem fl38:flatK Tryz.prog 38=some [.int,.int,.int,.int,.int]:=by kernel_rfl
theorem ik180:intT Tryz.prog 180=some .u64:=by kernel_rfl
theorem ik205:intT Tryz.prog 205=some .u64:=by kernel_rfl
theorem ok127:callOk Tryz.prog 127=true:=by kernel_rfl
theorem ok161:callOk Tryz.prog 161=true:=by kernel_rfl
theorem ok162:callOk Tryz.prog 162=true:=by kernel_rfl
theorem ok278:callOk Tryz.prog 278=true:=by kernel_rfl
theorem ok279:callOk Tryz.prog 279=true:=by kernel_rfl
theorem ok280:callOk Tryz.prog 280=true:=by kernel_rfl
theorem ok296:callOk Tryz.prog 296=true:=by kernel_rfl
theorem ok297:callOk Tryz.prog 297=true:=by kernel_rfl
theorem ok298:callOk Tryz.prog 298=true:=by kernel_rfl
theorem ok299:callOk Tryz.prog 299=true:=by kernel_rfl
theorem ok300:callOk Tryz.prog 300=true:=by kernel_rfl
theorem ok301:callOk Tryz.prog 301=true:=by kernel_rfl
theorem ok304:callOk Tryz.prog 304=true:=by kernel_rfl
theorem J:oneT Tryz.prog 3=true:=by kernel_rfl
theorem pl38:placesT Tryz.prog 38=some [(0,1),(1,1),(2,1),(3,1),(4,1)]:=by kernel_rfl
theorem us2:(Tryz.prog.underlying 2).isSome=true:=by kernel_rfl
theorem us3:(Tryz.prog.underlying 3).isSome=true:=by kernel_rfl
theorem m:zeroT Tryz.prog 38=some [(Value.int IntKind.i64 0),(Value.int IntKind.i64 0),(Value.int IntKind.i64 0),(Value.int IntKind.i64 0),(Value.int IntKind.i64 0)]:=by kernel_rfl
theorem zQm (t:Ty):
    Pur cfg 161 [vTy t] (vB (plainT t)):=by
 refine zR Tryz.func161 O Tryz.ntmps161 Tryz.results161 O ?_
 intro z hz
 refine G O<|zU O O (qM O O) ?_
 rintro _ _ ⟨b1,rfl,rfl⟩
 refine F O<|I<|G O<|zO yK (Y 0 O) O<|zH O zFr<|zK J (Y 0 O) O<|yP O m pl38<|zX O (det_aeql O fl38 O O O)<|F O<|I<|o<|X O ?_
 exact congrArg vB (plainT_eq t)
theorem zCp (t:Ty):
    Pur cfg 162 [vTy t] (vI (bif fixOk t then 0 else 10)):=by
 refine zR Tryz.func162 O Tryz.ntmps162 Tryz.results162 O ?_
 intro z hz
 refine G O<|zU O O (qM O O) ?_
 rintro _ _ ⟨b1,rfl,rfl⟩
 refine F O<|I<|G O<|zH O zSs<|zK J (Y 0 O) O<|zX O (wG O O O)<|F O<|rL0 O (fun g1_3=>zD O zSs O) O<|B 8 O (fun g1_3=>Q O J O (Y 0 O) O) O<|B 9 O (fun g1_3=>wQ O O O) O<|yQ O (fun h=>h)<|F O<|rL0 O (fun g1_8=>zD O zSr O) O<|B 13 O (fun g1_8=>Q O J O (Y 0 O) O) O<|B 14 O (fun g1_8=>yG O O O) O<|B 15 O (fun g1_8=>zN O O) O<|rLz [] O P T (fun g1_12=>zD O zSr O) O<|rLz [(17,_)] O P ⟨O,O,T⟩ (fun g1_12=>Q O J O (Y 0 O) O) O<|rLz [(18,_)] O P ⟨O,O,T⟩ (fun g1_12=>yG O O O) O<|B 16 O (fun g1_8=>zAm O O O O (fun h=>kA (by assumption) (lzf h))) O<|yQ O (fun h=>h)<|F O<|I<|zJ<|G O<|zH O zFr<|zK J (Y 0 O) O<|yR O<|F O<|rL0 O (fun g2_3=>zD O zKc O) O<|B 26 O (fun g2_3=>Q O J O (Y 0 O) O) O<|B 27 O (fun g2_3=>zCt O O O) O<|r_or O (fun h=>(lzf h))<|F O<|rL0 O (fun g2_8=>zD O zKc O) O<|B 31 O (fun g2_8=>Q O J O (Y 0 O) O) O<|B 32 O (fun g2_8=>yC O O O) O<|r_or O (fun h=>(lzf h))<|F O<|rL0 O (fun g2_13=>zD O zSu O) O<|B 36 O (fun g2_13=>Q O J O (Y 0 O) O) O<|B 37 O (fun g2_13=>zCt O O O) O<|r_or O (fun h=>(lzf h))<|F O<|rL0 O (fun g2_18=>zD O zSu O) O<|B 41 O (fun g2_18=>Q O J O (Y 0 O) O) O<|B 42 O (fun g2_18=>yC O O O) O<|r_or O (fun h=>(lzf h))<|F O<|rL0 O (fun g2_23=>zN O O) O<|B 46 O (fun g2_23=>kV O O) O<|r_or O (fun h=>(lzf h))<|I<|zF O (fun c1=>?_) (fun c1=>?_)
 ·refine G O<|F O<|I<|o<|X O ?_
  rw [show fixOk t=false from fix_no c1];rfl
 ·refine zI<|G O<|F O<|I<|o<|X O ?_
  rw [show fixOk t=true from fix_yes c1];rfl
theorem zCl (t:Ty):
    Pur cfg 127 [vTy t] (vI (tyErr t)):=by
 refine zR Tryz.func127 O Tryz.ntmps127 Tryz.results127 O ?_
 intro z hz
 refine G O<|zU O O (qM O O) ?_
 rintro _ _ ⟨b1,rfl,rfl⟩
 refine F O<|I<|zJ<|G O<|zH O zFr<|zK J (Y 0 O) O<|I<|zQ<|zJ<|G O<|yE O<|F O<|I<|zF O (fun c1=>?_) (fun c1=>?_)
 ·try simp only [R] at c1
  refine zI<|zF O (fun c2=>?_) (fun c2=>?_)
  ·try simp only [R] at c2
   refine G O<|zO yK (Y 0 O) O<|qJ O ok161 (zQm _) ⟨H,O,T⟩<|I<|zF O (fun c3=>?_) (fun c3=>?_)
   ·try simp only [R] at c3
    refine G O<|F O<|I<|o<|X O ?_
    exact congrArg vI (by first|(exfalso;omega)|(rw [tyErr,tyk1 (by omega),c3];rfl)|(rw [tyErr,zBp (by omega),fxz c5];rfl)|(rw [tyErr,zBp (by omega),fxn c5];rfl)|(rw [tyErr,tyk0 (by omega) (by omega) (by omega)];rfl))
   ·try simp only [R] at c3
    refine zI<|G O<|F O<|I<|o<|X O ?_
    exact congrArg vI (by first|(exfalso;omega)|(rw [tyErr,tyk1 (by omega),c3];rfl)|(rw [tyErr,zBp (by omega),fxz c5];rfl)|(rw [tyErr,zBp (by omega),fxn c5];rfl)|(rw [tyErr,tyk0 (by omega) (by omega) (by omega)];rfl))
  ·try simp only [R] at c2
   refine G O<|yE O<|F O<|I<|zF O (fun c4=>?_) (fun c4=>?_)
   ·try simp only [R] at c4
    refine G O<|zO yK (Y 0 O) O<|qJ O ok162 (zCp _) ⟨H,O,T⟩<|yE O<|I<|zF O (fun c5=>?_) (fun c5=>?_)
    ·try simp only [R] at c5
     refine G O<|F O<|I<|o<|X O ?_
     exact congrArg vI (by first|(exfalso;omega)|(rw [tyErr,tyk1 (by omega),c3];rfl)|(rw [tyErr,zBp (by omega),fxz c5];rfl)|(rw [tyErr,zBp (by omega),fxn c5];rfl)|(rw [tyErr,tyk0 (by omega) (by omega) (by omega)];rfl))
    ·try simp only [R] at c5
     refine zI<|G O<|F O<|I<|o<|X O ?_
     exact congrArg vI (by first|(exfalso;omega)|(rw [tyErr,tyk1 (by omega),c3];rfl)|(rw [tyErr,zBp (by omega),fxz c5];rfl)|(rw [tyErr,zBp (by omega),fxn c5];rfl)|(rw [tyErr,tyk0 (by omega) (by omega) (by omega)];rfl))
   ·try simp only [R] at c4
    refine zI<|G O<|F O<|I<|o<|X O ?_
    exact congrArg vI (by first|(exfalso;omega)|(rw [tyErr,tyk1 (by omega),c3];rfl)|(rw [tyErr,zBp (by omega),fxz c5];rfl)|(rw [tyErr,zBp (by omega),fxn c5];rfl)|(rw [tyErr,tyk0 (by omega) (by omega) (by omega)];rfl))
 ·try simp only [R] at c1
  refine zS O<|yE O<|F O<|I<|zF O (fun c2=>?_) (fun c2=>?_)
  ·try simp only [R] at c2
   refine G O<|zO yK (Y 0 O) O<|qJ O ok161 (zQm _) ⟨H,O,T⟩<|I<|zF O (fun c3=>?_) (fun c3=>?_)
   ·try simp only [R] at c3
    refine G O<|F O<|I<|o<|X O ?_
    exact congrArg vI (by first|(exfalso;omega)|(rw [tyErr,tyk1 (by omega),c3];rfl)|(rw [tyErr,zBp (by omega),fxz c5];rfl)|(rw [tyErr,zBp (by omega),fxn c5];rfl)|(rw [tyErr,tyk0 (by omega) (by omega) (by omega)];rfl))
   ·try simp only [R] at c3
    refine zI<|G O<|F O<|I<|o<|X O ?_
    exact congrArg vI (by first|(exfalso;omega)|(rw [tyErr,tyk1 (by omega),c3];rfl)|(rw [tyErr,zBp (by omega),fxz c5];rfl)|(rw [tyErr,zBp (by omega),fxn c5];rfl)|(rw [tyErr,tyk0 (by omega) (by omega) (by omega)];rfl))
  ·try simp only [R] at c2
   refine G O<|yE O<|F O<|I<|zF O (fun c4=>?_) (fun c4=>?_)
   ·try simp only [R] at c4
    refine G O<|zO yK (Y 0 O) O<|qJ O ok162 (zCp _) ⟨H,O,T⟩<|yE O<|I<|zF O (fun c5=>?_) (fun c5=>?_)
    ·try simp only [R] at c5
     refine G O<|F O<|I<|o<|X O ?_
     exact congrArg vI (by first|(exfalso;omega)|(rw [tyErr,tyk1 (by omega),c3];rfl)|(rw [tyErr,zBp (by omega),fxz c5];rfl)|(rw [tyErr,zBp (by omega),fxn c5];rfl)|(rw [tyErr,tyk0 (by omega) (by omega) (by omega)];rfl))
    ·try simp only [R] at c5
     refine zI<|G O<|F O<|I<|o<|X O ?_
     exact congrArg vI (by first|(exfalso;omega)|(rw [tyErr,tyk1 (by omega),c3];rfl)|(rw [tyErr,zBp (by omega),fxz c5];rfl)|(rw [tyErr,zBp (by omega),fxn c5];rfl)|(rw [tyErr,tyk0 (by omega) (by omega) (by omega)];rfl))
   ·try simp only [R] at c4
    refine zI<|G O<|F O<|I<|o<|X O ?_
    exact congrArg vI (by first|(exfalso;omega)|(rw [tyErr,tyk1 (by omega),c3];rfl)|(rw [tyErr,zBp (by omega),fxz c5];rfl)|(rw [tyErr,zBp (by omega),fxn c5];rfl)|(rw [tyErr,tyk0 (by omega) (by omega) (by omega)];rfl))
theorem base_Type (t:Ty):
    Pur cfg 148 [vTy t] (vB (tyOk t)):=by
 refine zR Tryz.func148 O Tryz.ntmps148 Tryz.results148 O ?_
 intro z hz
 refine G O<|zU O O (qM O O) ?_
 rintro _ _ ⟨b1,rfl,rfl⟩
 refine F O<|I<|zJ<|G O<|zH O zFr<|zK J (Y 0 O) O<|yE O<|F O<|rL0 O (fun g1_3=>zD O zFr O) O<|B 7 O (fun g1_3=>Q O J O (Y 0 O) O) O<|B 8 O (fun g1_3=>yG O O O) O<|r_or O (fun h=>(lzf h))<|I<|zF O (fun c1=>?_) (fun c1=>?_)
 ·refine G O<|zH O zKc<|zK J (Y 0 O) O<|yE O<|F O<|rL0 O (fun g2_3=>zD O zSu O) O<|B 15 O (fun g2_3=>Q O J O (Y 0 O) O) O<|B 16 O (fun g2_3=>yG O O O) O<|yQ O (fun h=>h)<|F O<|rL0 O (fun g2_8=>zD O zSs O) O<|B 20 O (fun g2_8=>Q O J O (Y 0 O) O) O<|B 21 O (fun g2_8=>yG O O O) O<|yQ O (fun h=>h)<|F O<|rL0 O (fun g2_13=>zD O zSr O) O<|B 25 O (fun g2_13=>Q O J O (Y 0 O) O) O<|B 26 O (fun g2_13=>yG O O O) O<|yQ O (fun h=>h)<|F O<|I<|o<|X O ?_
  exact congrArg vB (type1 c1)
 ·refine zI<|G O<|zH O zFr<|zK J (Y 0 O) O<|yE O<|F O<|rL0 O (fun g3_3=>zD O zKc O) O<|B 33 O (fun g3_3=>Q O J O (Y 0 O) O) O<|B 34 O (fun g3_3=>wG O O O) O<|yQ O (fun h=>h)<|F O<|rL0 O (fun g3_8=>zD O zKc O) O<|B 38 O (fun g3_8=>Q O J O (Y 0 O) O) O<|B 39 O (fun g3_8=>wQ O O O) O<|yQ O (fun h=>h)<|F O<|rL0 O (fun g3_13=>zD O zSu O) O<|B 43 O (fun g3_13=>Q O J O (Y 0 O) O) O<|B 44 O (fun g3_13=>wG O O O) O<|yQ O (fun h=>h)<|F O<|rL0 O (fun g3_18=>zD O zSu O) O<|B 48 O (fun g3_18=>Q O J O (Y 0 O) O) O<|B 49 O (fun g3_18=>wQ O O O) O<|yQ O (fun h=>h)<|F O<|rL0 O (fun g3_23=>zD O zSs O) O<|B 53 O (fun g3_23=>Q O J O (Y 0 O) O) O<|B 54 O (fun g3_23=>wG O O O) O<|yQ O (fun h=>h)<|F O<|rL0 O (fun g3_28=>zD O zSs O) O<|B 58 O (fun g3_28=>Q O J O (Y 0 O) O) O<|B 59 O (fun g3_28=>wQ O O O) O<|yQ O (fun h=>h)<|F O<|rL0 O (fun g3_33=>zD O zSr O) O<|B 63 O (fun g3_33=>Q O J O (Y 0 O) O) O<|B 64 O (fun g3_33=>yG O O O) O<|B 65 O (fun g3_33=>zN O O) O<|rLz [] O P T (fun g3_37=>zD O zSr O) O<|rLz [(67,_)] O P ⟨O,O,T⟩ (fun g3_37=>Q O J O (Y 0 O) O) O<|rLz [(68,_)] O P ⟨O,O,T⟩ (fun g3_37=>yG O O O) O<|B 66 O (fun g3_33=>zAm O O O O (fun h=>kA (by assumption) (lzf h))) O<|yQ O (fun h=>h)<|F O<|I<|o<|X O ?_
  exact congrArg vB (type2 c1)
theorem zRh (b:Int):
    Pur cfg 304 [vI b] (vB (decide (2<=b)&&decide (b<=31))):=by
 refine zR Tryz.func304 O Tryz.ntmps304 Tryz.results304 O ?_
 intro z hz
 refine G O<|F O<|I<|G O<|F O<|zX O (wG O O O)<|F O<|rL0 O (fun g1_2=>zN O O) O<|B 6 O (fun g1_2=>wQ O O O) O<|yQ O (fun h=>h)<|F O<|I<|o<|X O ?_
 exact O
theorem round_MinInt (b:Int) (h1:2<=b) (h2:b<=31):
    Pur cfg 296 [vI b] (vI (-half b)):=by
 refine zR Tryz.func296 O Tryz.ntmps296 Tryz.results296 O ?_
 intro z hz
 refine G O<|F O<|I<|zJ<|G O<|F O<|qJ O ok304 (zRh _) ⟨H,O,T⟩<|kO O<|I<|zF O (fun c1=>?_) (fun c1=>?_)
 ·try simp only [R] at c1
  exact absurd c1 (by omega)
 ·try simp only [R] at c1
  refine zI<|G O<|F O<|zX O (qZ O O O ⟨by omega,by omega⟩)<|zX O (zCu O us3 ik205 O)<|zX O (det_shl O O O (by rw [zIy (by omega)];omega))<|zX O (zNr O O)<|F O<|I<|o<|X O ?_
  exact congrArg vI (min_eq h1 h2)
theorem round_MaxInt (b:Int) (h1:2<=b) (h2:b<=31):
    Pur cfg 297 [vI b] (vI (half b-1)):=by
 refine zR Tryz.func297 O Tryz.ntmps297 Tryz.results297 O ?_
 intro z hz
 refine G O<|F O<|I<|zJ<|G O<|F O<|qJ O ok304 (zRh _) ⟨H,O,T⟩<|kO O<|I<|zF O (fun c1=>?_) (fun c1=>?_)
 ·try simp only [R] at c1
  exact absurd c1 (by omega)
 ·try simp only [R] at c1
  refine zI<|G O<|F O<|zX O (qZ O O O ⟨by omega,by omega⟩)<|zX O (zCu O us3 ik205 O)<|zX O (det_shl O O O (by rw [zIy (by omega)];omega))<|zX O (zGu O O O)<|F O<|I<|o<|X O ?_
  exact congrArg vI (max_eq h1 h2)
theorem fixed_Valid (t:Ty) (v:Vl):
    Pur cfg 278 [vTy t,vVal v] (vB (fixOk t&&(decide (v.D=1)&&decide (-half t.Bits<=v.N)&&decide (v.N<half t.Bits)))):=by
 refine zR Tryz.func278 O Tryz.ntmps278 Tryz.results278 O ?_
 intro z hz
 refine G O<|zU O O (qM O O) ?_
 rintro _ _ ⟨b1,rfl,rfl⟩
 refine zU O O (qM O O) ?_
 rintro _ _ ⟨b2,rfl,rfl⟩
 refine F O<|I<|zJ<|qX 25 mixed (by kernel_rfl) O O<|M O O (zY O yK O (Y 1 O) O)<|M O O (qL O ok162 (zCp _) ⟨H,O,T⟩)<|M O O (yG O O O)<|M O O (zN O O)<|f [] O O O O gv1 T (fun g1_3=>zD O zHe O) O<|f [(9,_)] O O O O gv1 ⟨O,O,T⟩ (fun g1_3=>Q O W O (Y 0 O) O) O<|f [(10,_)] O O O O gv1 ⟨O,O,T⟩ (fun g1_3=>yG O O O) O<|M O O (kW O O O (fun h=>h) O)<|M O O (zN O O)<|f [] O O O O gv1 T (fun g1_8=>zD O zFs O) O<|f [(14,_)] O O O O gv1 ⟨O,O,T⟩ (fun g1_8=>Q O W O (Y 0 O) O) O<|f [] O O O O gv1 T (fun g1_8=>zD O zKc O) O<|f [(16,_)] O O O O gv1 ⟨O,O,T⟩ (fun g1_8=>Q O J O (Y 1 O) O) O<|f [(17,_)] O O O O gv1 ⟨O,O,T⟩ (fun g1_8=>qL O ok296 (round_MinInt _ (fixB (fxa g1_8)).1 (fixB (fxa g1_8)).2) ⟨H,O,T⟩) O<|f [(15,_),(18,_)] O O O O gv1 ⟨O,O,O,O,T⟩ (fun g1_8=>wG O O O) O<|M O O (kW O O O (fun h=>h) O)<|M O O (zN O O)<|f [] O O O O gv1 T (fun g1_16=>zD O zFs O) O<|f [(22,_)] O O O O gv1 ⟨O,O,T⟩ (fun g1_16=>Q O W O (Y 0 O) O) O<|f [] O O O O gv1 T (fun g1_16=>zD O zKc O) O<|f [(24,_)] O O O O gv1 ⟨O,O,T⟩ (fun g1_16=>Q O J O (Y 1 O) O) O<|f [(25,_)] O O O O gv1 ⟨O,O,T⟩ (fun g1_16=>qL O ok297 (round_MaxInt _ (fixB (fxb g1_16)).1 (fixB (fxb g1_16)).2) ⟨H,O,T⟩) O<|f [(23,_),(26,_)] O O O O gv1 ⟨O,O,O,O,T⟩ (fun g1_16=>wQ O O O) O<|M O O (kW O O O (fun h=>h) O)<|M O O (qY O O)<|kB<|I<|o<|X O ?_
 exact congrArg vB (fixV t v)
theorem value_whole (n:Int):
    Pur cfg 279 [vI n] (vB (num31 n)):=by
 refine zR Tryz.func279 O Tryz.ntmps279 Tryz.results279 O ?_
 intro z hz
 refine G O<|F O<|I<|G O<|F O<|zX O (wG O O O)<|F O<|rL0 O (fun g1_2=>zN O O) O<|B 6 O (fun g1_2=>wQ O O O) O<|yQ O (fun h=>h)<|F O<|I<|o<|X O ?_
 exact O
theorem frac_inRange (n:Int):
    Pur cfg 298 [vI n] (vB (num31 n)):=by
 refine zR Tryz.func298 O Tryz.ntmps298 Tryz.results298 O ?_
 intro z hz
 refine G O<|F O<|I<|G O<|F O<|zX O (wG O O O)<|F O<|rL0 O (fun g1_2=>zN O O) O<|B 6 O (fun g1_2=>wQ O O O) O<|yQ O (fun h=>h)<|F O<|I<|o<|X O ?_
 exact O
theorem frac_magnitude (n:Int) (hn: -9223372036854775808<=n) (hm:n<=9223372036854775807):
    Pur cfg 300 [vI n] (vU64 n.natAbs):=by
 refine zR Tryz.func300 O Tryz.ntmps300 Tryz.results300 O ?_
 intro z hz
 refine G O<|F O<|I<|zJ<|G O<|F O<|yH O<|I<|zF O (fun c1=>?_) (fun c1=>?_)
 ·try simp only [R] at c1
  refine G O<|F O<|zX O (zCu O us2 ik180 O)<|zX O (zNr O O)<|F O<|I<|o<|X O ?_
  exact congrArg vU64 (mag_neg c1 hn)
 ·try simp only [R] at c1
  refine zI<|G O<|F O<|zX O (zCu O us2 ik180 O)<|F O<|I<|o<|X O ?_
  exact congrArg vU64 (mag_pos (by omega) hm)
theorem frac_gcd (a b:Nat):
    Pur cfg 299 [vU64 a,vU64 b] (vU64 (Nat.gcd a b)):=by
 refine zR Tryz.func299 O Tryz.ntmps299 Tryz.results299 O ?_
 intro z hz
 refine G O<|F O<|I<|zJ<|zQ<|zW ⟨[(0,.c _),(1,.c _)],[]⟩ (Weak.mk [] ⟨H,H,T⟩ O)<|qK 2 0 O O (Nat×Nat) (fun ⟨x,y⟩=>[(0,vU64 x),(1,vU64 y)]) (fun ⟨x,y⟩=>[]) (fun ⟨x,y⟩=>Nat.gcd a b=Nat.gcd x y) (fun ⟨x,y⟩=>y) ⟨⟨a,b⟩,O,Weak.mk [] ⟨H,H,T⟩ O⟩ ?_
 rintro ⟨x,y⟩ hg
 refine zJ<|G O<|F O<|yR O<|I<|zF O (fun c1=>?_) (fun c1=>?_)
 ·try simp only [R] at c1
  refine zI<|zQ<|qX 6 mixed (by kernel_rfl) O O<|M O O (zN O O)<|M O O (zN O O)<|M O O (zN O O)<|M O O (det_rem O O O (by omega))<|M O O (qY O O)<|M O O (qY O O)<|kB<|I ?_
  refine ⟨⟨y,x%y⟩,(by rw [hg];exact gcd_step (by omega)),(Nat.mod_lt _ (by omega)),Weak.mk [] ⟨H,VLe.of_eq (congrArg vU64 (Int.ofNat_tmod x y).symm),T⟩ O⟩
 ·try simp only [R] at c1
  refine qN<|G O<|F O<|F O<|I<|o<|X O ?_
  exact congrArg vU64 (by rw [hg,show y=0 by omega,Nat.gcd_zero_right])
theorem base_gcd (a b:Nat):
    Pur cfg 301 [vI a,vI b] (vI (Nat.gcd a b)):=by
 refine zR Tryz.func301 O Tryz.ntmps301 Tryz.results301 O ?_
 intro z hz
 refine G O<|F O<|I<|zJ<|zQ<|zW ⟨[(0,.c _),(1,.c _)],[]⟩ (Weak.mk [] ⟨H,H,T⟩ O)<|qK 2 0 O O (Nat×Nat) (fun ⟨x,y⟩=>[(0,vI x),(1,vI y)]) (fun ⟨x,y⟩=>[]) (fun ⟨x,y⟩=>Nat.gcd a b=Nat.gcd x y) (fun ⟨x,y⟩=>y) ⟨⟨a,b⟩,O,Weak.mk [] ⟨H,H,T⟩ O⟩ ?_
 rintro ⟨x,y⟩ hg
 refine zJ<|G O<|F O<|yR O<|I<|zF O (fun c1=>?_) (fun c1=>?_)
 ·try simp only [R] at c1
  refine zI<|zQ<|qX 6 mixed (by kernel_rfl) O O<|M O O (zN O O)<|M O O (zN O O)<|M O O (zN O O)<|M O O (det_rem O O O (by omega))<|M O O (qY O O)<|M O O (qY O O)<|kB<|I ?_
  refine ⟨⟨y,x%y⟩,(by rw [hg];exact gcd_step (by omega)),(Nat.mod_lt _ (by omega)),Weak.mk [] ⟨H,VLe.of_eq (congrArg vI (Int.ofNat_tmod x y).symm),T⟩ O⟩
 ·try simp only [R] at c1
  refine qN<|G O<|F O<|F O<|I<|o<|X O ?_
  exact congrArg vI (by rw [hg,show y=0 by omega,Nat.gcd_zero_right])
theorem frac_Valid (v:Vl):
    Pur cfg 280 [vVal v] (vB (decide (1<=v.D)&&decide (v.D<=2147483647)&&num31 v.N&&decide (Int.gcd v.N v.D=1))):=by
 refine zR Tryz.func280 O Tryz.ntmps280 Tryz.results280 O ?_
 intro z hz
 refine G O<|zU O O (qM O O) ?_
 rintro _ _ ⟨b1,rfl,rfl⟩
 refine F O<|I<|zJ<|qX 24 mixed (by kernel_rfl) O O<|M O O (zD O zHe O)<|M O O (Q O W O (Y 0 O) O)<|M O O (wG O O O)<|M O O (zN O O)<|f [] O O O O gv1 T (fun g1_3=>zD O zHe O) O<|f [(7,_)] O O O O gv1 ⟨O,O,T⟩ (fun g1_3=>Q O W O (Y 0 O) O) O<|f [(8,_)] O O O O gv1 ⟨O,O,T⟩ (fun g1_3=>wQ O O O) O<|M O O (kW O O O (fun h=>h) O)<|M O O (zN O O)<|f [] O O O O gv1 T (fun g1_8=>zD O zFs O) O<|f [(12,_)] O O O O gv1 ⟨O,O,T⟩ (fun g1_8=>Q O W O (Y 0 O) O) O<|f [(13,_)] O O O O gv1 ⟨O,O,T⟩ (fun g1_8=>qL O ok298 (frac_inRange _) ⟨H,O,T⟩) O<|M O O (kW O O O (fun h=>h) O)<|M O O (zN O O)<|f [] O O O O gv1 T (fun g1_13=>zD O zFs O) O<|f [(17,_)] O O O O gv1 ⟨O,O,T⟩ (fun g1_13=>Q O W O (Y 0 O) O) O<|f [(18,_)] O O O O gv1 ⟨O,O,T⟩ (fun g1_13=>qL O ok300 (frac_magnitude v.N (frV g1_13).2.2.1 (frV g1_13).2.2.2) ⟨H,O,T⟩) O<|f [] O O O O gv1 T (fun g1_13=>zD O zHe O) O<|f [(20,_)] O O O O gv1 ⟨O,O,T⟩ (fun g1_13=>Q O W O (Y 0 O) O) O<|f [(21,_)] O O O O gv1 ⟨O,O,T⟩ (fun g1_13=>zCu O us2 ik180 O) O<|f [(19,_),(22,_)] O O O O gv1 ⟨O,O,O,O,T⟩ (fun g1_13=>qL O ok299 (show Pur cfg 299 [vU64 v.N.natAbs,vU64 (IntKind.u64.wrap v.D)] (vU64 (Nat.gcd v.N.natAbs v.D.natAbs)) from by rw [u64_D (frV g1_13).1 (frV g1_13).2.1];exact frac_gcd _ _) ⟨H,O,H,O,T⟩) O<|f [(23,_)] O O O O gv1 ⟨O,O,T⟩ (fun g1_13=>yG O O O) O<|M O O (kW O O O (fun h=>h) O)<|M O O (qY O O)<|kB<|I<|o<|X O ?_
 exact congrArg vB (by rw [show (decide (((Nat.gcd v.N.natAbs v.D.natAbs:Nat):Int)=1))=decide (Int.gcd v.N v.D=1) from decide_eq_decide.2 (by unfold Int.gcd;omega)])
theorem value_Valid (t:Ty) (v:Vl):
    Pur cfg 240 [vTy t,vVal v] (vB (tyOk t&&valOk t v)):=by
 refine zR Tryz.func240 O Tryz.ntmps240 Tryz.results240 O ?_
 intro z hz
 refine G O<|zU O O (qM O O) ?_
 rintro _ _ ⟨b1,rfl,rfl⟩
 refine zU O O (qM O O) ?_
 rintro _ _ ⟨b2,rfl,rfl⟩
 refine F O<|I<|zJ<|G O<|zO yK (Y 1 O) O<|qJ O ok127 (zCl _) ⟨H,O,T⟩<|yR O<|I<|zF O (fun c1=>?_) (fun c1=>?_)
 ·try simp only [R] at c1
  have ht:tyOk t=false:=tyErr_ne c1
  refine G O<|F O<|I<|o<|X O ?_
  rw [ht];rfl
 ·try simp only [R] at c1
  have ht:tyOk t=true:=zJa c1
  refine zI<|zJ<|G O<|zH O zFr<|zK J (Y 1 O) O<|I<|zQ<|G O<|yE O<|F O<|I<|zF O (fun c2=>?_) (fun c2=>?_)
  ·try simp only [R] at c2
   refine G O<|zO yK (Y 1 O) O<|zO agg36 (Y 0 O) O<|qJ O ok278 (fixed_Valid _ _) ⟨H,O,H,O,T⟩<|F O<|I<|o<|X O ?_
   exact congrArg vB (by rw [ht,valOk,c2,←zBp c2,ht];rfl)
  ·try simp only [R] at c2
   refine G O<|yE O<|F O<|I<|zF O (fun c3=>?_) (fun c3=>?_)
   ·try simp only [R] at c3
    refine G O<|zH O zHe<|zK W (Y 0 O) O<|yE O<|F O<|rL0 O (fun g7_3=>zD O zFs O) O<|B 21 O (fun g7_3=>Q O W O (Y 0 O) O) O<|B 22 O (fun g7_3=>qL O ok279 (value_whole _) ⟨H,O,T⟩) O<|yQ O (fun h=>h)<|F O<|I<|o<|X O ?_
    exact congrArg vB (by rw [ht,valOk,yJ c2,c3];rfl)
   ·try simp only [R] at c3
    refine zI<|G O<|zO agg36 (Y 0 O) O<|qJ O ok280 (frac_Valid _) ⟨H,O,T⟩<|F O<|I<|o<|X O ?_
    exact congrArg vB (by rw [ht,valOk,yJ c2,yJ c3];rfl)
theorem base_Val (t:Ty) (v:Vl) (ht:tyOk t=true):
    Pur cfg 285 [vTy t,vVal v] (vB (valOk t v)):=by
 refine zR Tryz.func285 O Tryz.ntmps285 Tryz.results285 O ?_
 intro z hz
 refine G O<|zU O O (qM O O) ?_
 rintro _ _ ⟨b1,rfl,rfl⟩
 refine zU O O (qM O O) ?_
 rintro _ _ ⟨b2,rfl,rfl⟩
 refine F O<|I<|zJ<|G O<|zH O zFr<|zK J (Y 1 O) O<|yE O<|I<|zF O (fun c1=>?_) (fun c1=>?_)
 ·try simp only [R] at c1
  obtain ⟨b1,b2⟩:=fixB (by rw [←zBp c1];exact ht)
  refine G O<|zH O zKc<|zK J (Y 1 O) O<|zX O (qZ O O O ⟨by omega,by omega⟩)<|zX O (det_shl O O O (by omega))<|F O<|I<|G O<|zH O zHe<|zK W (Y 0 O) O<|yE O<|F O<|rL0 O (fun g3_3=>zD O zFs O) O<|B 17 O (fun g3_3=>Q O W O (Y 0 O) O) O<|rL0 O (fun g3_3=>zN O O) O<|B 19 O (fun g3_3=>zNr O O) O<|rLz [(18,_),(20,_)] O gv1 ⟨O,O,O,O,T⟩ (fun g3_3=>wG O O O) O<|yQ O (fun h=>h)<|F O<|rL0 O (fun g3_10=>zD O zFs O) O<|B 24 O (fun g3_10=>Q O W O (Y 0 O) O) O<|rL0 O (fun g3_10=>zN O O) O<|rLz [(25,_),(26,_)] O gv1 ⟨O,O,O,O,T⟩ (fun g3_10=>zCt O O O) O<|yQ O (fun h=>h)<|F O<|I<|o<|X O ?_
  exact congrArg vB (valfix c1 b1 b2)
 ·try simp only [R] at c1
  refine zI<|zJ<|G O<|zH O zFs<|zK W (Y 0 O) O<|zX O (yC O O O)<|F O<|rL0 O (fun g4_3=>zD O zFs O) O<|B 33 O (fun g4_3=>Q O W O (Y 0 O) O) O<|B 34 O (fun g4_3=>zCt O O O) O<|r_or O (fun h=>(lzf h))<|F O<|rL0 O (fun g4_8=>zD O zHe O) O<|B 38 O (fun g4_8=>Q O W O (Y 0 O) O) O<|B 39 O (fun g4_8=>zCt O O O) O<|r_or O (fun h=>(lzf h))<|F O<|rL0 O (fun g4_13=>zD O zHe O) O<|B 43 O (fun g4_13=>Q O W O (Y 0 O) O) O<|B 44 O (fun g4_13=>yC O O O) O<|r_or O (fun h=>(lzf h))<|I<|zF O (fun c2=>?_) (fun c2=>?_)
  ·refine G O<|F O<|I<|o<|X O ?_
   exact congrArg vB (val_out c1 c2).symm
  ·obtain ⟨hN1,hN2,hD1,hD2⟩:=val_in c2
   refine zI<|zJ<|G O<|zH O zFr<|zK J (Y 1 O) O<|yE O<|I<|zF O (fun c3=>?_) (fun c3=>?_)
   ·try simp only [R] at c3
    refine G O<|zH O zHe<|zK W (Y 0 O) O<|yE O<|F O<|I<|o<|X O ?_
    exact congrArg vB (by rw [valOk,yJ c1,c3];simp [num31,hN1,hN2])
   ·try simp only [R] at c3
    refine zI<|G O<|zH O zFs<|zK W (Y 0 O) O<|zH O zFs<|zK W (Y 0 O) O<|zX O (zNr O O)<|zX O (zNu O O O)<|zH O zHe<|zK W (Y 0 O) O<|qJ O ok301 (show Pur cfg 301 [vI (max v.N (IntKind.i64.wrap (-v.N))),vI v.D] (vI (Int.gcd v.N v.D)) from by rw [max_abs hN1 hN2,show v.D=(v.D.natAbs:Int) by omega];exact base_gcd _ _) ⟨H,O,H,O,T⟩<|yE O<|F O<|I<|o<|X O ?_
    exact congrArg vB (by rw [valOk,yJ c1,yJ c3];simp [num31,hN1,hN2,hD1,hD2];omega)
end Go.W
