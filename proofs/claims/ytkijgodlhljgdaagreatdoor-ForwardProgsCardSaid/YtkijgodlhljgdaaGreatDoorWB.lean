/-
  Walks: what functions of the program compute. Printed by wip/gen/mk2.py.
  Conditions: none.
-/
import Derived.Test.YtkijgodlhljgdaaGreatDoorWA
set_option linter.unusedSimpArgs false
set_option linter.unusedVariables false
set_option maxRecDepth 10000
namespace Go.W
open Go Go.Eng Go.Proofs Go.L41 Go.Br
attribute [local irreducible] AWP RWP TD finQ
theorem agg29:aggT Tryz.prog 29=some 2:=by kernel_rfl
theorem yF:aggT Tryz.prog 31=some 5:=by kernel_rfl
theorem zFa:fieldT Tryz.prog 29 0=some (0,2):=by kernel_rfl
theorem zFw:fieldT Tryz.prog 29 1=some (1,2):=by kernel_rfl
theorem zAn:fieldT Tryz.prog 31 0=some (0,3):=by kernel_rfl
theorem zIb:fieldT Tryz.prog 31 1=some (1,3):=by kernel_rfl
theorem zPe:fieldT Tryz.prog 31 2=some (2,3):=by kernel_rfl
theorem zPd:fieldT Tryz.prog 31 3=some (3,3):=by kernel_rfl
theorem zPc:fieldT Tryz.prog 31 4=some (4,3):=by kernel_rfl
theorem fl31:flatK Tryz.prog 31=some [.int,.int,.int,.int,.int]:=by kernel_rfl
theorem ik198:intT Tryz.prog 198=some .u64:=by kernel_rfl
theorem ik230:intT Tryz.prog 230=some .u64:=by kernel_rfl
theorem ok117:callOk Tryz.prog 117=true:=by kernel_rfl
theorem ok214:callOk Tryz.prog 214=true:=by kernel_rfl
theorem ok216:callOk Tryz.prog 216=true:=by kernel_rfl
theorem ok217:callOk Tryz.prog 217=true:=by kernel_rfl
theorem ok218:callOk Tryz.prog 218=true:=by kernel_rfl
theorem ok258:callOk Tryz.prog 258=true:=by kernel_rfl
theorem ok259:callOk Tryz.prog 259=true:=by kernel_rfl
theorem ok260:callOk Tryz.prog 260=true:=by kernel_rfl
theorem ok261:callOk Tryz.prog 261=true:=by kernel_rfl
theorem ok262:callOk Tryz.prog 262=true:=by kernel_rfl
theorem ok263:callOk Tryz.prog 263=true:=by kernel_rfl
theorem ok264:callOk Tryz.prog 264=true:=by kernel_rfl
theorem ok265:callOk Tryz.prog 265=true:=by kernel_rfl
theorem ok292:callOk Tryz.prog 292=true:=by kernel_rfl
theorem w:oneT Tryz.prog 3=true:=by kernel_rfl
theorem pl29:placesT Tryz.prog 29=some [(0,1),(1,1)]:=by kernel_rfl
theorem pl31:placesT Tryz.prog 31=some [(0,1),(1,1),(2,1),(3,1),(4,1)]:=by kernel_rfl
theorem us2:(Tryz.prog.underlying 2).isSome=true:=by kernel_rfl
theorem us3:(Tryz.prog.underlying 3).isSome=true:=by kernel_rfl
theorem zr29:zeroT Tryz.prog 29=some [(Value.int IntKind.i64 0),(Value.int IntKind.i64 0)]:=by kernel_rfl
theorem zr31:zeroT Tryz.prog 31=some [(Value.int IntKind.i64 0),(Value.int IntKind.i64 0),(Value.int IntKind.i64 0),(Value.int IntKind.i64 0),(Value.int IntKind.i64 0)]:=by kernel_rfl
theorem zNj (t:Ty):
    Pur cfg 258 [vTy t] (vB (plainT t)):=by
 refine zV Tryz.func258 O Tryz.ntmps258 Tryz.results258 O ?_
 intro z hz
 refine B O<|zW O O (qJ O O) ?_
 rintro _ _ ⟨b1,rfl,rfl⟩
 refine F O<|H<|B O<|zL yF (K 0 O) O<|zG O zAn<|zK w (K 0 O) O<|kA O zr31 pl31<|qB O (zMx O fl31 O O O)<|F O<|H<|W<|R O ?_
 exact congrArg vB (plainT_eq t)
theorem zCf (t:Ty):
    Pur cfg 259 [vTy t] (vI (bif fixOk t then 0 else 10)):=by
 refine zV Tryz.func259 O Tryz.ntmps259 Tryz.results259 O ?_
 intro z hz
 refine B O<|zW O O (qJ O O) ?_
 rintro _ _ ⟨b1,rfl,rfl⟩
 refine F O<|H<|B O<|zG O zPd<|zK w (K 0 O) O<|qB O (wL O O O)<|F O<|u O (fun g1_3=>zD O zPd O) O<|J 8 O (fun g1_3=>zF O w O (K 0 O) O) O<|J 9 O (fun g1_3=>wA O O O) O<|yZ O (fun h=>h)<|F O<|u O (fun g1_8=>zD O zPc O) O<|J 13 O (fun g1_8=>zF O w O (K 0 O) O) O<|J 14 O (fun g1_8=>yL O O O) O<|J 15 O (fun g1_8=>zQ O O) O<|rLz [] O j T (fun g1_12=>zD O zPc O) O<|rLz [(17,_)] O j ⟨O,O,T⟩ (fun g1_12=>zF O w O (K 0 O) O) O<|rLz [(18,_)] O j ⟨O,O,T⟩ (fun g1_12=>yL O O O) O<|J 16 O (fun g1_8=>zBo O O O O (fun h=>kH (by assumption) (lzf h))) O<|yZ O (fun h=>h)<|F O<|H<|U<|B O<|zG O zAn<|zK w (K 0 O) O<|yP O<|F O<|u O (fun g2_3=>zD O zIb O) O<|J 26 O (fun g2_3=>zF O w O (K 0 O) O) O<|J 27 O (fun g2_3=>zFo O O O) O<|r_or O (fun h=>(lzf h))<|F O<|u O (fun g2_8=>zD O zIb O) O<|J 31 O (fun g2_8=>zF O w O (K 0 O) O) O<|J 32 O (fun g2_8=>yM O O O) O<|r_or O (fun h=>(lzf h))<|F O<|u O (fun g2_13=>zD O zPe O) O<|J 36 O (fun g2_13=>zF O w O (K 0 O) O) O<|J 37 O (fun g2_13=>zFo O O O) O<|r_or O (fun h=>(lzf h))<|F O<|u O (fun g2_18=>zD O zPe O) O<|J 41 O (fun g2_18=>zF O w O (K 0 O) O) O<|J 42 O (fun g2_18=>yM O O O) O<|r_or O (fun h=>(lzf h))<|F O<|u O (fun g2_23=>zQ O O) O<|J 46 O (fun g2_23=>kU O O) O<|r_or O (fun h=>(lzf h))<|H<|g O (fun c1=>?_) (fun c1=>?_)
 ·refine B O<|F O<|H<|W<|R O ?_
  rw [show fixOk t=false from fix_no c1];rfl
 ·refine zJ<|B O<|F O<|H<|W<|R O ?_
  rw [show fixOk t=true from fix_yes c1];rfl
theorem zCc (t:Ty):
    Pur cfg 214 [vTy t] (vI (tyErr t)):=by
 refine zV Tryz.func214 O Tryz.ntmps214 Tryz.results214 O ?_
 intro z hz
 refine B O<|zW O O (qJ O O) ?_
 rintro _ _ ⟨b1,rfl,rfl⟩
 refine F O<|H<|U<|B O<|zG O zAn<|zK w (K 0 O) O<|H<|zP<|U<|B O<|qX O<|F O<|H<|g O (fun c1=>?_) (fun c1=>?_)
 ·try simp only [I] at c1
  refine zJ<|g O (fun c2=>?_) (fun c2=>?_)
  ·try simp only [I] at c2
   refine B O<|zL yF (K 0 O) O<|qK O ok258 (zNj _) ⟨G,O,T⟩<|H<|g O (fun c3=>?_) (fun c3=>?_)
   ·try simp only [I] at c3
    refine B O<|F O<|H<|W<|R O ?_
    exact congrArg vI (by first|(exfalso;omega)|(rw [tyErr,tyk1 (by omega),c3];rfl)|(rw [tyErr,zBh (by omega),fxz c5];rfl)|(rw [tyErr,zBh (by omega),fxn c5];rfl)|(rw [tyErr,tyk0 (by omega) (by omega) (by omega)];rfl))
   ·try simp only [I] at c3
    refine zJ<|B O<|F O<|H<|W<|R O ?_
    exact congrArg vI (by first|(exfalso;omega)|(rw [tyErr,tyk1 (by omega),c3];rfl)|(rw [tyErr,zBh (by omega),fxz c5];rfl)|(rw [tyErr,zBh (by omega),fxn c5];rfl)|(rw [tyErr,tyk0 (by omega) (by omega) (by omega)];rfl))
  ·try simp only [I] at c2
   refine B O<|qX O<|F O<|H<|g O (fun c4=>?_) (fun c4=>?_)
   ·try simp only [I] at c4
    refine B O<|zL yF (K 0 O) O<|qK O ok259 (zCf _) ⟨G,O,T⟩<|qX O<|H<|g O (fun c5=>?_) (fun c5=>?_)
    ·try simp only [I] at c5
     refine B O<|F O<|H<|W<|R O ?_
     exact congrArg vI (by first|(exfalso;omega)|(rw [tyErr,tyk1 (by omega),c3];rfl)|(rw [tyErr,zBh (by omega),fxz c5];rfl)|(rw [tyErr,zBh (by omega),fxn c5];rfl)|(rw [tyErr,tyk0 (by omega) (by omega) (by omega)];rfl))
    ·try simp only [I] at c5
     refine zJ<|B O<|F O<|H<|W<|R O ?_
     exact congrArg vI (by first|(exfalso;omega)|(rw [tyErr,tyk1 (by omega),c3];rfl)|(rw [tyErr,zBh (by omega),fxz c5];rfl)|(rw [tyErr,zBh (by omega),fxn c5];rfl)|(rw [tyErr,tyk0 (by omega) (by omega) (by omega)];rfl))
   ·try simp only [I] at c4
    refine zJ<|B O<|F O<|H<|W<|R O ?_
    exact congrArg vI (by first|(exfalso;omega)|(rw [tyErr,tyk1 (by omega),c3];rfl)|(rw [tyErr,zBh (by omega),fxz c5];rfl)|(rw [tyErr,zBh (by omega),fxn c5];rfl)|(rw [tyErr,tyk0 (by omega) (by omega) (by omega)];rfl))
 ·try simp only [I] at c1
  refine zU O<|qX O<|F O<|H<|g O (fun c2=>?_) (fun c2=>?_)
  ·try simp only [I] at c2
   refine B O<|zL yF (K 0 O) O<|qK O ok258 (zNj _) ⟨G,O,T⟩<|H<|g O (fun c3=>?_) (fun c3=>?_)
   ·try simp only [I] at c3
    refine B O<|F O<|H<|W<|R O ?_
    exact congrArg vI (by first|(exfalso;omega)|(rw [tyErr,tyk1 (by omega),c3];rfl)|(rw [tyErr,zBh (by omega),fxz c5];rfl)|(rw [tyErr,zBh (by omega),fxn c5];rfl)|(rw [tyErr,tyk0 (by omega) (by omega) (by omega)];rfl))
   ·try simp only [I] at c3
    refine zJ<|B O<|F O<|H<|W<|R O ?_
    exact congrArg vI (by first|(exfalso;omega)|(rw [tyErr,tyk1 (by omega),c3];rfl)|(rw [tyErr,zBh (by omega),fxz c5];rfl)|(rw [tyErr,zBh (by omega),fxn c5];rfl)|(rw [tyErr,tyk0 (by omega) (by omega) (by omega)];rfl))
  ·try simp only [I] at c2
   refine B O<|qX O<|F O<|H<|g O (fun c4=>?_) (fun c4=>?_)
   ·try simp only [I] at c4
    refine B O<|zL yF (K 0 O) O<|qK O ok259 (zCf _) ⟨G,O,T⟩<|qX O<|H<|g O (fun c5=>?_) (fun c5=>?_)
    ·try simp only [I] at c5
     refine B O<|F O<|H<|W<|R O ?_
     exact congrArg vI (by first|(exfalso;omega)|(rw [tyErr,tyk1 (by omega),c3];rfl)|(rw [tyErr,zBh (by omega),fxz c5];rfl)|(rw [tyErr,zBh (by omega),fxn c5];rfl)|(rw [tyErr,tyk0 (by omega) (by omega) (by omega)];rfl))
    ·try simp only [I] at c5
     refine zJ<|B O<|F O<|H<|W<|R O ?_
     exact congrArg vI (by first|(exfalso;omega)|(rw [tyErr,tyk1 (by omega),c3];rfl)|(rw [tyErr,zBh (by omega),fxz c5];rfl)|(rw [tyErr,zBh (by omega),fxn c5];rfl)|(rw [tyErr,tyk0 (by omega) (by omega) (by omega)];rfl))
   ·try simp only [I] at c4
    refine zJ<|B O<|F O<|H<|W<|R O ?_
    exact congrArg vI (by first|(exfalso;omega)|(rw [tyErr,tyk1 (by omega),c3];rfl)|(rw [tyErr,zBh (by omega),fxz c5];rfl)|(rw [tyErr,zBh (by omega),fxn c5];rfl)|(rw [tyErr,tyk0 (by omega) (by omega) (by omega)];rfl))
theorem zPv (t:Ty):
    Pur cfg 117 [vTy t] (vB (tyOk t)):=by
 refine zV Tryz.func117 O Tryz.ntmps117 Tryz.results117 O ?_
 intro z hz
 refine B O<|zW O O (qJ O O) ?_
 rintro _ _ ⟨b1,rfl,rfl⟩
 refine F O<|H<|U<|B O<|zG O zAn<|zK w (K 0 O) O<|qX O<|F O<|u O (fun g1_3=>zD O zAn O) O<|J 7 O (fun g1_3=>zF O w O (K 0 O) O) O<|J 8 O (fun g1_3=>yL O O O) O<|r_or O (fun h=>(lzf h))<|H<|g O (fun c1=>?_) (fun c1=>?_)
 ·refine B O<|zG O zIb<|zK w (K 0 O) O<|qX O<|F O<|u O (fun g2_3=>zD O zPe O) O<|J 15 O (fun g2_3=>zF O w O (K 0 O) O) O<|J 16 O (fun g2_3=>yL O O O) O<|yZ O (fun h=>h)<|F O<|u O (fun g2_8=>zD O zPd O) O<|J 20 O (fun g2_8=>zF O w O (K 0 O) O) O<|J 21 O (fun g2_8=>yL O O O) O<|yZ O (fun h=>h)<|F O<|u O (fun g2_13=>zD O zPc O) O<|J 25 O (fun g2_13=>zF O w O (K 0 O) O) O<|J 26 O (fun g2_13=>yL O O O) O<|yZ O (fun h=>h)<|F O<|H<|W<|R O ?_
  exact congrArg vB (type1 c1)
 ·refine zJ<|B O<|zG O zAn<|zK w (K 0 O) O<|qX O<|F O<|u O (fun g3_3=>zD O zIb O) O<|J 33 O (fun g3_3=>zF O w O (K 0 O) O) O<|J 34 O (fun g3_3=>wL O O O) O<|yZ O (fun h=>h)<|F O<|u O (fun g3_8=>zD O zIb O) O<|J 38 O (fun g3_8=>zF O w O (K 0 O) O) O<|J 39 O (fun g3_8=>wA O O O) O<|yZ O (fun h=>h)<|F O<|u O (fun g3_13=>zD O zPe O) O<|J 43 O (fun g3_13=>zF O w O (K 0 O) O) O<|J 44 O (fun g3_13=>wL O O O) O<|yZ O (fun h=>h)<|F O<|u O (fun g3_18=>zD O zPe O) O<|J 48 O (fun g3_18=>zF O w O (K 0 O) O) O<|J 49 O (fun g3_18=>wA O O O) O<|yZ O (fun h=>h)<|F O<|u O (fun g3_23=>zD O zPd O) O<|J 53 O (fun g3_23=>zF O w O (K 0 O) O) O<|J 54 O (fun g3_23=>wL O O O) O<|yZ O (fun h=>h)<|F O<|u O (fun g3_28=>zD O zPd O) O<|J 58 O (fun g3_28=>zF O w O (K 0 O) O) O<|J 59 O (fun g3_28=>wA O O O) O<|yZ O (fun h=>h)<|F O<|u O (fun g3_33=>zD O zPc O) O<|J 63 O (fun g3_33=>zF O w O (K 0 O) O) O<|J 64 O (fun g3_33=>yL O O O) O<|J 65 O (fun g3_33=>zQ O O) O<|rLz [] O j T (fun g3_37=>zD O zPc O) O<|rLz [(67,_)] O j ⟨O,O,T⟩ (fun g3_37=>zF O w O (K 0 O) O) O<|rLz [(68,_)] O j ⟨O,O,T⟩ (fun g3_37=>yL O O O) O<|J 66 O (fun g3_33=>zBo O O O O (fun h=>kH (by assumption) (lzf h))) O<|yZ O (fun h=>h)<|F O<|H<|W<|R O ?_
  exact congrArg vB (type2 c1)
theorem zNw (b:Int):
    Pur cfg 292 [vI b] (vB (decide (2<=b)&&decide (b<=31))):=by
 refine zV Tryz.func292 O Tryz.ntmps292 Tryz.results292 O ?_
 intro z hz
 refine B O<|F O<|H<|B O<|F O<|qB O (wL O O O)<|F O<|u O (fun g1_2=>zQ O O) O<|J 6 O (fun g1_2=>wA O O O) O<|yZ O (fun h=>h)<|F O<|H<|W<|R O ?_
 exact O
theorem round_MinInt (b:Int) (h1:2<=b) (h2:b<=31):
    Pur cfg 260 [vI b] (vI (-half b)):=by
 refine zV Tryz.func260 O Tryz.ntmps260 Tryz.results260 O ?_
 intro z hz
 refine B O<|F O<|H<|U<|B O<|F O<|qK O ok292 (zNw _) ⟨G,O,T⟩<|wI O<|H<|g O (fun c1=>?_) (fun c1=>?_)
 ·try simp only [I] at c1
  exact absurd c1 (by omega)
 ·try simp only [I] at c1
  refine zJ<|B O<|F O<|qB O (zAk O O O ⟨by omega,by omega⟩)<|qB O (zFq O us3 ik198 O)<|qB O (det_shl O O O (by rw [zGw (by omega)];omega))<|qB O (det_neg O O)<|F O<|H<|W<|R O ?_
  exact congrArg vI (min_eq h1 h2)
theorem round_MaxInt (b:Int) (h1:2<=b) (h2:b<=31):
    Pur cfg 261 [vI b] (vI (half b-1)):=by
 refine zV Tryz.func261 O Tryz.ntmps261 Tryz.results261 O ?_
 intro z hz
 refine B O<|F O<|H<|U<|B O<|F O<|qK O ok292 (zNw _) ⟨G,O,T⟩<|wI O<|H<|g O (fun c1=>?_) (fun c1=>?_)
 ·try simp only [I] at c1
  exact absurd c1 (by omega)
 ·try simp only [I] at c1
  refine zJ<|B O<|F O<|qB O (zAk O O O ⟨by omega,by omega⟩)<|qB O (zFq O us3 ik198 O)<|qB O (det_shl O O O (by rw [zGw (by omega)];omega))<|qB O (det_sub O O O)<|F O<|H<|W<|R O ?_
  exact congrArg vI (max_eq h1 h2)
theorem fixed_Valid (t:Ty) (v:Vl):
    Pur cfg 216 [vTy t,vVal v] (vB (fixOk t&&(decide (v.D=1)&&decide (-half t.Bits<=v.N)&&decide (v.N<half t.Bits)))):=by
 refine zV Tryz.func216 O Tryz.ntmps216 Tryz.results216 O ?_
 intro z hz
 refine B O<|zW O O (qJ O O) ?_
 rintro _ _ ⟨b1,rfl,rfl⟩
 refine zW O O (qJ O O) ?_
 rintro _ _ ⟨b2,rfl,rfl⟩
 refine F O<|H<|U<|qO 25 mixed (by kernel_rfl) O O<|Y O O (zN O yF O (K 1 O) O)<|Y O O (qF O ok259 (zCf _) ⟨G,O,T⟩)<|Y O O (yL O O O)<|Y O O (zQ O O)<|f [] O O O O P T (fun g1_3=>zD O zFw O) O<|f [(9,_)] O O O O P ⟨O,O,T⟩ (fun g1_3=>zF O one2 O (K 0 O) O) O<|f [(10,_)] O O O O P ⟨O,O,T⟩ (fun g1_3=>yL O O O) O<|Y O O (kR O O O (fun h=>h) O)<|Y O O (zQ O O)<|f [] O O O O P T (fun g1_8=>zD O zFa O) O<|f [(14,_)] O O O O P ⟨O,O,T⟩ (fun g1_8=>zF O one2 O (K 0 O) O) O<|f [] O O O O P T (fun g1_8=>zD O zIb O) O<|f [(16,_)] O O O O P ⟨O,O,T⟩ (fun g1_8=>zF O w O (K 1 O) O) O<|f [(17,_)] O O O O P ⟨O,O,T⟩ (fun g1_8=>qF O ok260 (round_MinInt _ (fixB (fxa g1_8)).1 (fixB (fxa g1_8)).2) ⟨G,O,T⟩) O<|f [(15,_),(18,_)] O O O O P ⟨O,O,O,O,T⟩ (fun g1_8=>wL O O O) O<|Y O O (kR O O O (fun h=>h) O)<|Y O O (zQ O O)<|f [] O O O O P T (fun g1_16=>zD O zFa O) O<|f [(22,_)] O O O O P ⟨O,O,T⟩ (fun g1_16=>zF O one2 O (K 0 O) O) O<|f [] O O O O P T (fun g1_16=>zD O zIb O) O<|f [(24,_)] O O O O P ⟨O,O,T⟩ (fun g1_16=>zF O w O (K 1 O) O) O<|f [(25,_)] O O O O P ⟨O,O,T⟩ (fun g1_16=>qF O ok261 (round_MaxInt _ (fixB (fxb g1_16)).1 (fixB (fxb g1_16)).2) ⟨G,O,T⟩) O<|f [(23,_),(26,_)] O O O O P ⟨O,O,O,O,T⟩ (fun g1_16=>wA O O O) O<|Y O O (kR O O O (fun h=>h) O)<|Y O O (yX O O)<|yK<|H<|W<|R O ?_
 exact congrArg vB (fixV t v)
theorem value_whole (n:Int):
    Pur cfg 217 [vI n] (vB (num31 n)):=by
 refine zV Tryz.func217 O Tryz.ntmps217 Tryz.results217 O ?_
 intro z hz
 refine B O<|F O<|H<|B O<|F O<|qB O (wL O O O)<|F O<|u O (fun g1_2=>zQ O O) O<|J 6 O (fun g1_2=>wA O O O) O<|yZ O (fun h=>h)<|F O<|H<|W<|R O ?_
 exact O
theorem frac_inRange (n:Int):
    Pur cfg 262 [vI n] (vB (num31 n)):=by
 refine zV Tryz.func262 O Tryz.ntmps262 Tryz.results262 O ?_
 intro z hz
 refine B O<|F O<|H<|B O<|F O<|qB O (wL O O O)<|F O<|u O (fun g1_2=>zQ O O) O<|J 6 O (fun g1_2=>wA O O O) O<|yZ O (fun h=>h)<|F O<|H<|W<|R O ?_
 exact O
theorem frac_magnitude (n:Int) (hn: -9223372036854775808<=n) (hm:n<=9223372036854775807):
    Pur cfg 264 [vI n] (vU64 n.natAbs):=by
 refine zV Tryz.func264 O Tryz.ntmps264 Tryz.results264 O ?_
 intro z hz
 refine B O<|F O<|H<|U<|B O<|F O<|yB O<|H<|g O (fun c1=>?_) (fun c1=>?_)
 ·try simp only [I] at c1
  refine B O<|F O<|qB O (zFq O us2 ik230 O)<|qB O (det_neg O O)<|F O<|H<|W<|R O ?_
  exact congrArg vU64 (mag_neg c1 hn)
 ·try simp only [I] at c1
  refine zJ<|B O<|F O<|qB O (zFq O us2 ik230 O)<|F O<|H<|W<|R O ?_
  exact congrArg vU64 (mag_pos (by omega) hm)
theorem frac_gcd (a b:Nat):
    Pur cfg 263 [vU64 a,vU64 b] (vU64 (Nat.gcd a b)):=by
 refine zV Tryz.func263 O Tryz.ntmps263 Tryz.results263 O ?_
 intro z hz
 refine B O<|F O<|H<|U<|zP<|zT ⟨[(0,.c _),(1,.c _)],[]⟩ (Weak.mk [] ⟨G,G,T⟩ O)<|qG 2 0 O O (Nat×Nat) (fun ⟨x,y⟩=>[(0,vU64 x),(1,vU64 y)]) (fun ⟨x,y⟩=>[]) (fun ⟨x,y⟩=>Nat.gcd a b=Nat.gcd x y) (fun ⟨x,y⟩=>y) ⟨⟨a,b⟩,O,Weak.mk [] ⟨G,G,T⟩ O⟩ ?_
 rintro ⟨x,y⟩ hg
 refine U<|B O<|F O<|yP O<|H<|g O (fun c1=>?_) (fun c1=>?_)
 ·try simp only [I] at c1
  refine zJ<|zP<|qO 6 mixed (by kernel_rfl) O O<|Y O O (zQ O O)<|Y O O (zQ O O)<|Y O O (zQ O O)<|Y O O (det_rem O O O (by omega))<|Y O O (yX O O)<|Y O O (yX O O)<|yK<|H ?_
  refine ⟨⟨y,x%y⟩,(by rw [hg];exact gcd_step (by omega)),(Nat.mod_lt _ (by omega)),Weak.mk [] ⟨G,VLe.of_eq (congrArg vU64 (Int.ofNat_tmod x y).symm),T⟩ O⟩
 ·try simp only [I] at c1
  refine qM<|B O<|F O<|F O<|H<|W<|R O ?_
  exact congrArg vU64 (by rw [hg,show y=0 by omega,Nat.gcd_zero_right])
theorem base_gcd (a b:Nat):
    Pur cfg 265 [vI a,vI b] (vI (Nat.gcd a b)):=by
 refine zV Tryz.func265 O Tryz.ntmps265 Tryz.results265 O ?_
 intro z hz
 refine B O<|F O<|H<|U<|zP<|zT ⟨[(0,.c _),(1,.c _)],[]⟩ (Weak.mk [] ⟨G,G,T⟩ O)<|qG 2 0 O O (Nat×Nat) (fun ⟨x,y⟩=>[(0,vI x),(1,vI y)]) (fun ⟨x,y⟩=>[]) (fun ⟨x,y⟩=>Nat.gcd a b=Nat.gcd x y) (fun ⟨x,y⟩=>y) ⟨⟨a,b⟩,O,Weak.mk [] ⟨G,G,T⟩ O⟩ ?_
 rintro ⟨x,y⟩ hg
 refine U<|B O<|F O<|yP O<|H<|g O (fun c1=>?_) (fun c1=>?_)
 ·try simp only [I] at c1
  refine zJ<|zP<|qO 6 mixed (by kernel_rfl) O O<|Y O O (zQ O O)<|Y O O (zQ O O)<|Y O O (zQ O O)<|Y O O (det_rem O O O (by omega))<|Y O O (yX O O)<|Y O O (yX O O)<|yK<|H ?_
  refine ⟨⟨y,x%y⟩,(by rw [hg];exact gcd_step (by omega)),(Nat.mod_lt _ (by omega)),Weak.mk [] ⟨G,VLe.of_eq (congrArg vI (Int.ofNat_tmod x y).symm),T⟩ O⟩
 ·try simp only [I] at c1
  refine qM<|B O<|F O<|F O<|H<|W<|R O ?_
  exact congrArg vI (by rw [hg,show y=0 by omega,Nat.gcd_zero_right])
theorem frac_Valid (v:Vl):
    Pur cfg 218 [vVal v] (vB (decide (1<=v.D)&&decide (v.D<=2147483647)&&num31 v.N&&decide (Int.gcd v.N v.D=1))):=by
 refine zV Tryz.func218 O Tryz.ntmps218 Tryz.results218 O ?_
 intro z hz
 refine B O<|zW O O (qJ O O) ?_
 rintro _ _ ⟨b1,rfl,rfl⟩
 refine F O<|H<|U<|qO 24 mixed (by kernel_rfl) O O<|Y O O (zD O zFw O)<|Y O O (zF O one2 O (K 0 O) O)<|Y O O (wL O O O)<|Y O O (zQ O O)<|f [] O O O O P T (fun g1_3=>zD O zFw O) O<|f [(7,_)] O O O O P ⟨O,O,T⟩ (fun g1_3=>zF O one2 O (K 0 O) O) O<|f [(8,_)] O O O O P ⟨O,O,T⟩ (fun g1_3=>wA O O O) O<|Y O O (kR O O O (fun h=>h) O)<|Y O O (zQ O O)<|f [] O O O O P T (fun g1_8=>zD O zFa O) O<|f [(12,_)] O O O O P ⟨O,O,T⟩ (fun g1_8=>zF O one2 O (K 0 O) O) O<|f [(13,_)] O O O O P ⟨O,O,T⟩ (fun g1_8=>qF O ok262 (frac_inRange _) ⟨G,O,T⟩) O<|Y O O (kR O O O (fun h=>h) O)<|Y O O (zQ O O)<|f [] O O O O P T (fun g1_13=>zD O zFa O) O<|f [(17,_)] O O O O P ⟨O,O,T⟩ (fun g1_13=>zF O one2 O (K 0 O) O) O<|f [(18,_)] O O O O P ⟨O,O,T⟩ (fun g1_13=>qF O ok264 (frac_magnitude v.N (frV g1_13).2.2.1 (frV g1_13).2.2.2) ⟨G,O,T⟩) O<|f [] O O O O P T (fun g1_13=>zD O zFw O) O<|f [(20,_)] O O O O P ⟨O,O,T⟩ (fun g1_13=>zF O one2 O (K 0 O) O) O<|f [(21,_)] O O O O P ⟨O,O,T⟩ (fun g1_13=>zFq O us2 ik230 O) O<|f [(19,_),(22,_)] O O O O P ⟨O,O,O,O,T⟩ (fun g1_13=>qF O ok263 (show Pur cfg 263 [vU64 v.N.natAbs,vU64 (IntKind.u64.wrap v.D)] (vU64 (Nat.gcd v.N.natAbs v.D.natAbs)) from by rw [u64_D (frV g1_13).1 (frV g1_13).2.1];exact frac_gcd _ _) ⟨G,O,G,O,T⟩) O<|f [(23,_)] O O O O P ⟨O,O,T⟩ (fun g1_13=>yL O O O) O<|Y O O (kR O O O (fun h=>h) O)<|Y O O (yX O O)<|yK<|H<|W<|R O ?_
 exact congrArg vB (by rw [show (decide (((Nat.gcd v.N.natAbs v.D.natAbs:Nat):Int)=1))=decide (Int.gcd v.N v.D=1) from decide_eq_decide.2 (by unfold Int.gcd;omega)])
theorem value_Valid (t:Ty) (v:Vl):
    Pur cfg 161 [vTy t,vVal v] (vB (tyOk t&&valOk t v)):=by
 refine zV Tryz.func161 O Tryz.ntmps161 Tryz.results161 O ?_
 intro z hz
 refine B O<|zW O O (qJ O O) ?_
 rintro _ _ ⟨b1,rfl,rfl⟩
 refine zW O O (qJ O O) ?_
 rintro _ _ ⟨b2,rfl,rfl⟩
 refine F O<|H<|U<|B O<|zL yF (K 1 O) O<|qK O ok214 (zCc _) ⟨G,O,T⟩<|yP O<|H<|g O (fun c1=>?_) (fun c1=>?_)
 ·try simp only [I] at c1
  have ht:tyOk t=false:=tyErr_ne c1
  refine B O<|F O<|H<|W<|R O ?_
  rw [ht];rfl
 ·try simp only [I] at c1
  have ht:tyOk t=true:=tyErr_eq c1
  refine zJ<|U<|B O<|zG O zAn<|zK w (K 1 O) O<|H<|zP<|B O<|qX O<|F O<|H<|g O (fun c2=>?_) (fun c2=>?_)
  ·try simp only [I] at c2
   refine B O<|zL yF (K 1 O) O<|zL agg29 (K 0 O) O<|qK O ok216 (fixed_Valid _ _) ⟨G,O,G,O,T⟩<|F O<|H<|W<|R O ?_
   exact congrArg vB (by rw [ht,valOk,c2,←zBh c2,ht];rfl)
  ·try simp only [I] at c2
   refine B O<|qX O<|F O<|H<|g O (fun c3=>?_) (fun c3=>?_)
   ·try simp only [I] at c3
    refine B O<|zG O zFw<|zK one2 (K 0 O) O<|qX O<|F O<|u O (fun g7_3=>zD O zFa O) O<|J 21 O (fun g7_3=>zF O one2 O (K 0 O) O) O<|J 22 O (fun g7_3=>qF O ok217 (value_whole _) ⟨G,O,T⟩) O<|yZ O (fun h=>h)<|F O<|H<|W<|R O ?_
    exact congrArg vB (by rw [ht,valOk,yE c2,c3];rfl)
   ·try simp only [I] at c3
    refine zJ<|B O<|zL agg29 (K 0 O) O<|qK O ok218 (frac_Valid _) ⟨G,O,T⟩<|F O<|H<|W<|R O ?_
    exact congrArg vB (by rw [ht,valOk,yE c2,yE c3];rfl)
theorem base_Val (t:Ty) (v:Vl) (ht:tyOk t=true):
    Pur cfg 221 [vTy t,vVal v] (vB (valOk t v)):=by
 refine zV Tryz.func221 O Tryz.ntmps221 Tryz.results221 O ?_
 intro z hz
 refine B O<|zW O O (qJ O O) ?_
 rintro _ _ ⟨b1,rfl,rfl⟩
 refine zW O O (qJ O O) ?_
 rintro _ _ ⟨b2,rfl,rfl⟩
 refine F O<|H<|U<|B O<|zG O zAn<|zK w (K 1 O) O<|qX O<|H<|g O (fun c1=>?_) (fun c1=>?_)
 ·try simp only [I] at c1
  obtain ⟨b1,b2⟩:=fixB (by rw [←zBh c1];exact ht)
  refine B O<|zG O zIb<|zK w (K 1 O) O<|qB O (zAk O O O ⟨by omega,by omega⟩)<|qB O (det_shl O O O (by omega))<|F O<|H<|B O<|zG O zFw<|zK one2 (K 0 O) O<|qX O<|F O<|u O (fun g3_3=>zD O zFa O) O<|J 17 O (fun g3_3=>zF O one2 O (K 0 O) O) O<|u O (fun g3_3=>zQ O O) O<|J 19 O (fun g3_3=>det_neg O O) O<|rLz [(18,_),(20,_)] O P ⟨O,O,O,O,T⟩ (fun g3_3=>wL O O O) O<|yZ O (fun h=>h)<|F O<|u O (fun g3_10=>zD O zFa O) O<|J 24 O (fun g3_10=>zF O one2 O (K 0 O) O) O<|u O (fun g3_10=>zQ O O) O<|rLz [(25,_),(26,_)] O P ⟨O,O,O,O,T⟩ (fun g3_10=>zFo O O O) O<|yZ O (fun h=>h)<|F O<|H<|W<|R O ?_
  exact congrArg vB (valfix c1 b1 b2)
 ·try simp only [I] at c1
  refine zJ<|U<|B O<|zG O zFa<|zK one2 (K 0 O) O<|qB O (yM O O O)<|F O<|u O (fun g4_3=>zD O zFa O) O<|J 33 O (fun g4_3=>zF O one2 O (K 0 O) O) O<|J 34 O (fun g4_3=>zFo O O O) O<|r_or O (fun h=>(lzf h))<|F O<|u O (fun g4_8=>zD O zFw O) O<|J 38 O (fun g4_8=>zF O one2 O (K 0 O) O) O<|J 39 O (fun g4_8=>zFo O O O) O<|r_or O (fun h=>(lzf h))<|F O<|u O (fun g4_13=>zD O zFw O) O<|J 43 O (fun g4_13=>zF O one2 O (K 0 O) O) O<|J 44 O (fun g4_13=>yM O O O) O<|r_or O (fun h=>(lzf h))<|H<|g O (fun c2=>?_) (fun c2=>?_)
  ·refine B O<|F O<|H<|W<|R O ?_
   exact congrArg vB (val_out c1 c2).symm
  ·obtain ⟨hN1,hN2,hD1,hD2⟩:=val_in c2
   refine zJ<|U<|B O<|zG O zAn<|zK w (K 1 O) O<|qX O<|H<|g O (fun c3=>?_) (fun c3=>?_)
   ·try simp only [I] at c3
    refine B O<|zG O zFw<|zK one2 (K 0 O) O<|qX O<|F O<|H<|W<|R O ?_
    exact congrArg vB (by rw [valOk,yE c1,c3];simp [num31,hN1,hN2])
   ·try simp only [I] at c3
    refine zJ<|B O<|zG O zFa<|zK one2 (K 0 O) O<|zG O zFa<|zK one2 (K 0 O) O<|qB O (det_neg O O)<|qB O (det_max O O O)<|zG O zFw<|zK one2 (K 0 O) O<|qK O ok265 (show Pur cfg 265 [vI (max v.N (IntKind.i64.wrap (-v.N))),vI v.D] (vI (Int.gcd v.N v.D)) from by rw [max_abs hN1 hN2,show v.D=(v.D.natAbs:Int) by omega];exact base_gcd _ _) ⟨G,O,G,O,T⟩<|qX O<|F O<|H<|W<|R O ?_
    exact congrArg vB (by rw [valOk,yE c1,yE c3];simp [num31,hN1,hN2,hD1,hD2];omega)
end Go.W
