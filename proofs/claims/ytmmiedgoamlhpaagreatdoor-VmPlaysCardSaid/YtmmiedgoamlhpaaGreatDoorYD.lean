/-
  Walks: what functions of the program compute. Printed by wip/gen/mk2.py.
  Conditions: none.
-/
import Derived.Test.YtmmiedgoamlhpaaGreatDoorYC
import Derived.Test.YtmmiedgoamlhpaaGreatDoorPlainM
set_option linter.unusedSimpArgs false
set_option linter.unusedVariables false
set_option maxRecDepth 10000
namespace Go.W
open Go Go.Eng Go.Proofs Go.L41 Go.Br
attribute [local irreducible] AWP RWP TD finQ
theorem agg67 : aggT Tryz.prog 67 = some 11 := by kernel_rfl
theorem agg238 : aggT Tryz.prog 238 = some 5 := by kernel_rfl
theorem ar238 : arrT Tryz.prog 238 = some (5, 3, 1) := by kernel_rfl
theorem ar241 : arrT Tryz.prog 241 = some (17, 240, 6) := by kernel_rfl
theorem el22 : elemT Tryz.prog 22 = some (67, 11, 88) := by kernel_rfl
theorem el23 : elemT Tryz.prog 23 = some (65, 5, 40) := by kernel_rfl
theorem el55 : elemT Tryz.prog 55 = some (3, 1, 8) := by kernel_rfl
theorem el123 : elemT Tryz.prog 123 = some (9, 1, 16) := by kernel_rfl
theorem fd67_0 : fieldT Tryz.prog 67 0 = some (0, 3) := by kernel_rfl
theorem fd67_1 : fieldT Tryz.prog 67 1 = some (1, 3) := by kernel_rfl
theorem fd67_2 : fieldT Tryz.prog 67 2 = some (2, 3) := by kernel_rfl
theorem fd67_3 : fieldT Tryz.prog 67 3 = some (3, 3) := by kernel_rfl
theorem fd67_4 : fieldT Tryz.prog 67 4 = some (4, 63) := by kernel_rfl
theorem fd67_5 : fieldT Tryz.prog 67 5 = some (6, 65) := by kernel_rfl
theorem fd240_1 : fieldT Tryz.prog 240 1 = some (1, 238) := by kernel_rfl
theorem fk67 : flatK2 Tryz.prog 67 = some [.int, .int, .int, .int, .int, .int, .int, .int, .int, .int, .int] := by kernel_rfl
theorem fl63 : flatK Tryz.prog 63 = some [.int, .int] := by kernel_rfl
theorem ok59 : callOk Tryz.prog 59 = true := by kernel_rfl
theorem ok61 : callOk Tryz.prog 61 = true := by kernel_rfl
theorem ok64 : callOk Tryz.prog 64 = true := by kernel_rfl
theorem ok65 : callOk Tryz.prog 65 = true := by kernel_rfl
theorem ok108 : callOk Tryz.prog 108 = true := by kernel_rfl
theorem ok109 : callOk Tryz.prog 109 = true := by kernel_rfl
theorem ok112 : callOk Tryz.prog 112 = true := by kernel_rfl
theorem ok113 : callOk Tryz.prog 113 = true := by kernel_rfl
theorem ok114 : callOk Tryz.prog 114 = true := by kernel_rfl
theorem ok115 : callOk Tryz.prog 115 = true := by kernel_rfl
theorem ok116 : callOk Tryz.prog 116 = true := by kernel_rfl
theorem ok157 : callOk Tryz.prog 157 = true := by kernel_rfl
theorem ok158 : callOk Tryz.prog 158 = true := by kernel_rfl
theorem ok159 : callOk Tryz.prog 159 = true := by kernel_rfl
theorem ok160 : callOk Tryz.prog 160 = true := by kernel_rfl
theorem ok162 : callOk Tryz.prog 162 = true := by kernel_rfl
theorem one9 : oneT Tryz.prog 9 = true := by kernel_rfl
theorem pl67 : placesT Tryz.prog 67 = some [(0, 1), (1, 1), (2, 1), (3, 1), (4, 2), (6, 5)] := by kernel_rfl
theorem sz3 : (Tryz.prog.info? 3).map (·.size) = some 1 := by kernel_rfl
theorem sz65 : (Tryz.prog.info? 65).map (·.size) = some 5 := by kernel_rfl
theorem sz67 : (Tryz.prog.info? 67).map (·.size) = some 11 := by kernel_rfl
theorem un9 : Tryz.prog.underlying 9 = some .string := by kernel_rfl
theorem zr3 : zeroT Tryz.prog 3 = some [(Value.int IntKind.i64 0)] := by kernel_rfl
theorem zr9 : zeroT Tryz.prog 9 = some [(Value.string (ByteArray.mk #[]))] := by kernel_rfl
theorem zr67 : zeroT Tryz.prog 67 = some [(Value.int IntKind.i64 0), (Value.int IntKind.i64 0), (Value.int IntKind.i64 0), (Value.int IntKind.i64 0), (Value.int IntKind.i64 0), (Value.int IntKind.i64 0), (Value.int IntKind.i64 0), (Value.int IntKind.i64 0), (Value.int IntKind.i64 0), (Value.int IntKind.i64 0), (Value.int IntKind.i64 0)] := by kernel_rfl
theorem isa_known (op : Int) :
    Pur cfg 157 [vI op] (vB (knownB op)) := by
 refine con_intro Tryz.func157 rfl Tryz.ntmps157 Tryz.results157 rfl ?_
 intro z hz
 refine sReg rfl <|
  rMv rfl <|
  rwp_nil <|
  sReg rfl <|
  rMv rfl <|
  rwp_det rfl rfl (det_geq rfl rfl rfl) <|
  rMv rfl <|
  rLz [] rfl gv1 trivial (fun g1_2 => det_move rfl rfl) rfl <|
  rLz [(6, _)] rfl gv1 ⟨rfl, rfl, trivial⟩ (fun g1_2 => det_lss rfl rfl rfl) rfl <|
  rwp_det rfl rfl (det_and rfl rfl rfl (fun h => h) rfl) <|
  rMv rfl <|
  rwp_nil <|
  awp_ret <|
  fin1 (rs_c rfl) ?_
 exact rfl

theorem isa_within (n a b : Int) :
    Pur cfg 59 [vI n, vI a, vI b] (vB (withinB n a b)) := by
 refine con_intro Tryz.func59 rfl Tryz.ntmps59 Tryz.results59 rfl ?_
 intro z hz
 refine sReg rfl <|
  rMv rfl <|
  rwp_nil <|
  sReg rfl <|
  rMv rfl <|
  rMv rfl <|
  rwp_det rfl rfl (det_geq rfl rfl rfl) <|
  rMv rfl <|
  rLz [] rfl gv1 trivial (fun g1_3 => det_move rfl rfl) rfl <|
  rLz [] rfl gv1 trivial (fun g1_3 => det_move rfl rfl) rfl <|
  rLz [(11, _), (12, _)] rfl gv1 ⟨rfl, rfl, rfl, rfl, trivial⟩ (fun g1_3 => det_leq rfl rfl rfl) rfl <|
  rwp_det rfl rfl (det_and rfl rfl rfl (fun h => h) rfl) <|
  rMv rfl <|
  rwp_nil <|
  awp_ret <|
  fin1 (rs_c rfl) ?_
 exact rfl

theorem isa_keep0 (b : Nat) (u x : In) (k : Int) :
    Con cfg 160 [.c (.lit (.pointer (some ⟨b, 0, none⟩))), vIn x, vI k] [E.row b 67 u.cells] fun r μ' => r = .tup [] ∧ ∃ ν, μ' = ν ++ [E.row b 67 (keepK u x k).cells] := by
 refine con_intro Tryz.func160 rfl Tryz.ntmps160 Tryz.results160 rfl ?_
 intro z hz
 refine sReg rfl <|
  rwp_op rfl rfl (ope_box rfl rfl) ?_
 rintro _ _ ⟨b1, rfl, rfl⟩
 refine rwp_nil <|
  sReg rfl <|
  rMv rfl <|
  rwp_nil <|
  awp_block <|
  awp_seq <|
  sReg rfl <|
  rwp_det rfl rfl (det_eql rfl rfl rfl) <|
  rMv rfl <|
  rwp_nil <|
  awp_cond rfl (fun c1 => ?_) (fun c1 => ?_)
 ·try simp only [sx] at c1
  refine awp_skip <|
   awp_cond rfl (fun c3 => ?_) (fun c3 => ?_)
  ·try simp only [sx] at c3
   refine awp_region rfl <|
    rMv rfl <|
    rwp_det rfl rfl (det_field_lit rfl fd67_1 rfl) <|
    rwp_det rfl rfl (det_load_one rfl one3 rfl (ptr_row 0 rfl) rfl) <|
    rwp_det rfl rfl (det_nilcheck_ptr rfl rfl) <|
    rwp_det rfl rfl (det_field_lit rfl fd67_1 rfl) <|
    rwp_det0 rfl rfl (det_store rfl sz3 rfl rfl rfl (st_row 1 rfl rfl)) <|
    rwp_nil ?_
   repeat (first | refine then_exit ?_ | refine block_exit ?_)
   refine fin_end <| fin0 ?_
   exact ⟨rfl, [_], by rw [show keepK u x k = { u with A := x.A } by unfold keepK; simp [*]]; rfl⟩
  ·try simp only [sx] at c3
   exact absurd c1 c3
 ·try simp only [sx] at c1
  refine sReg rfl <|
   rwp_det rfl rfl (det_eql rfl rfl rfl) <|
   rMv rfl <|
   rwp_nil <|
   awp_cond rfl (fun c2 => ?_) (fun c2 => ?_)
  ·try simp only [sx] at c2
   refine awp_skip <|
    awp_cond rfl (fun c3 => ?_) (fun c3 => ?_)
   ·try simp only [sx] at c3
    refine awp_region rfl <|
     rMv rfl <|
     rwp_det rfl rfl (det_field_lit rfl fd67_1 rfl) <|
     rwp_det rfl rfl (det_load_one rfl one3 rfl (ptr_row 0 rfl) rfl) <|
     rwp_det rfl rfl (det_nilcheck_ptr rfl rfl) <|
     rwp_det rfl rfl (det_field_lit rfl fd67_1 rfl) <|
     rwp_det0 rfl rfl (det_store rfl sz3 rfl rfl rfl (st_row 1 rfl rfl)) <|
     rwp_nil ?_
    repeat (first | refine then_exit ?_ | refine block_exit ?_)
    refine fin_end <| fin0 ?_
    exact ⟨rfl, [_], by rw [show keepK u x k = { u with A := x.A } by unfold keepK; simp [*]]; rfl⟩
   ·try simp only [sx] at c3
    exact absurd c2 c3
  ·try simp only [sx] at c2
   refine awp_region rfl <|
    rwp_det rfl rfl (det_eql rfl rfl rfl) <|
    rMv rfl <|
    rwp_nil <|
    awp_cond rfl (fun c3 => ?_) (fun c3 => ?_)
   ·try simp only [sx] at c3
    refine awp_region rfl <|
     rMv rfl <|
     rwp_det rfl rfl (det_field_lit rfl fd67_1 rfl) <|
     rwp_det rfl rfl (det_load_one rfl one3 rfl (ptr_row 0 rfl) rfl) <|
     rwp_det rfl rfl (det_nilcheck_ptr rfl rfl) <|
     rwp_det rfl rfl (det_field_lit rfl fd67_1 rfl) <|
     rwp_det0 rfl rfl (det_store rfl sz3 rfl rfl rfl (st_row 1 rfl rfl)) <|
     rwp_nil ?_
    repeat (first | refine then_exit ?_ | refine block_exit ?_)
    refine fin_end <| fin0 ?_
    exact ⟨rfl, [_], by rw [show keepK u x k = { u with A := x.A } by unfold keepK; simp [*]]; rfl⟩
   ·try simp only [sx] at c3
    refine awp_seq <|
     sReg rfl <|
     rwp_det rfl rfl (det_eql rfl rfl rfl) <|
     rMv rfl <|
     rwp_nil <|
     awp_cond rfl (fun c4 => ?_) (fun c4 => ?_)
    ·try simp only [sx] at c4
     refine awp_skip <|
      awp_cond rfl (fun c6 => ?_) (fun c6 => ?_)
     ·try simp only [sx] at c6
      refine awp_region rfl <|
       rMv rfl <|
       rwp_det rfl rfl (det_field_lit rfl fd67_2 rfl) <|
       rwp_det rfl rfl (det_load_one rfl one3 rfl (ptr_row 0 rfl) rfl) <|
       rwp_det rfl rfl (det_nilcheck_ptr rfl rfl) <|
       rwp_det rfl rfl (det_field_lit rfl fd67_2 rfl) <|
       rwp_det0 rfl rfl (det_store rfl sz3 rfl rfl rfl (st_row 1 rfl rfl)) <|
       rwp_nil ?_
      repeat (first | refine then_exit ?_ | refine block_exit ?_)
      refine fin_end <| fin0 ?_
      exact ⟨rfl, [_], by rw [show keepK u x k = { u with B := x.B } by unfold keepK; simp [*]]; rfl⟩
     ·try simp only [sx] at c6
      exact absurd c4 c6
    ·try simp only [sx] at c4
     refine sReg rfl <|
      rwp_det rfl rfl (det_eql rfl rfl rfl) <|
      rMv rfl <|
      rwp_nil <|
      awp_cond rfl (fun c5 => ?_) (fun c5 => ?_)
     ·try simp only [sx] at c5
      refine awp_skip <|
       awp_cond rfl (fun c6 => ?_) (fun c6 => ?_)
      ·try simp only [sx] at c6
       refine awp_region rfl <|
        rMv rfl <|
        rwp_det rfl rfl (det_field_lit rfl fd67_2 rfl) <|
        rwp_det rfl rfl (det_load_one rfl one3 rfl (ptr_row 0 rfl) rfl) <|
        rwp_det rfl rfl (det_nilcheck_ptr rfl rfl) <|
        rwp_det rfl rfl (det_field_lit rfl fd67_2 rfl) <|
        rwp_det0 rfl rfl (det_store rfl sz3 rfl rfl rfl (st_row 1 rfl rfl)) <|
        rwp_nil ?_
       repeat (first | refine then_exit ?_ | refine block_exit ?_)
       refine fin_end <| fin0 ?_
       exact ⟨rfl, [_], by rw [show keepK u x k = { u with B := x.B } by unfold keepK; simp [*]]; rfl⟩
      ·try simp only [sx] at c6
       exact absurd c5 c6
     ·try simp only [sx] at c5
      refine awp_region rfl <|
       rwp_det rfl rfl (det_eql rfl rfl rfl) <|
       rMv rfl <|
       rwp_nil <|
       awp_cond rfl (fun c6 => ?_) (fun c6 => ?_)
      ·try simp only [sx] at c6
       refine awp_region rfl <|
        rMv rfl <|
        rwp_det rfl rfl (det_field_lit rfl fd67_2 rfl) <|
        rwp_det rfl rfl (det_load_one rfl one3 rfl (ptr_row 0 rfl) rfl) <|
        rwp_det rfl rfl (det_nilcheck_ptr rfl rfl) <|
        rwp_det rfl rfl (det_field_lit rfl fd67_2 rfl) <|
        rwp_det0 rfl rfl (det_store rfl sz3 rfl rfl rfl (st_row 1 rfl rfl)) <|
        rwp_nil ?_
       repeat (first | refine then_exit ?_ | refine block_exit ?_)
       refine fin_end <| fin0 ?_
       exact ⟨rfl, [_], by rw [show keepK u x k = { u with B := x.B } by unfold keepK; simp [*]]; rfl⟩
      ·try simp only [sx] at c6
       refine awp_seq <|
        sReg rfl <|
        rwp_det rfl rfl (det_eql rfl rfl rfl) <|
        rMv rfl <|
        rwp_nil <|
        awp_cond rfl (fun c7 => ?_) (fun c7 => ?_)
       ·try simp only [sx] at c7
        refine awp_skip <|
         awp_cond rfl (fun c11 => ?_) (fun c11 => ?_)
        ·try simp only [sx] at c11
         refine awp_region rfl <|
          rMv rfl <|
          rwp_det rfl rfl (det_field_lit rfl fd67_3 rfl) <|
          rwp_det rfl rfl (det_load_one rfl one3 rfl (ptr_row 0 rfl) rfl) <|
          rwp_det rfl rfl (det_nilcheck_ptr rfl rfl) <|
          rwp_det rfl rfl (det_field_lit rfl fd67_3 rfl) <|
          rwp_det0 rfl rfl (det_store rfl sz3 rfl rfl rfl (st_row 1 rfl rfl)) <|
          rwp_nil ?_
         repeat (first | refine then_exit ?_ | refine block_exit ?_)
         refine fin_end <| fin0 ?_
         exact ⟨rfl, [_], by rw [show keepK u x k = { u with C := x.C } by unfold keepK; simp [*]]; rfl⟩
        ·try simp only [sx] at c11
         exact absurd c7 c11
       ·try simp only [sx] at c7
        refine sReg rfl <|
         rwp_det rfl rfl (det_eql rfl rfl rfl) <|
         rMv rfl <|
         rwp_nil <|
         awp_cond rfl (fun c8 => ?_) (fun c8 => ?_)
        ·try simp only [sx] at c8
         refine awp_skip <|
          awp_cond rfl (fun c11 => ?_) (fun c11 => ?_)
         ·try simp only [sx] at c11
          refine awp_region rfl <|
           rMv rfl <|
           rwp_det rfl rfl (det_field_lit rfl fd67_3 rfl) <|
           rwp_det rfl rfl (det_load_one rfl one3 rfl (ptr_row 0 rfl) rfl) <|
           rwp_det rfl rfl (det_nilcheck_ptr rfl rfl) <|
           rwp_det rfl rfl (det_field_lit rfl fd67_3 rfl) <|
           rwp_det0 rfl rfl (det_store rfl sz3 rfl rfl rfl (st_row 1 rfl rfl)) <|
           rwp_nil ?_
          repeat (first | refine then_exit ?_ | refine block_exit ?_)
          refine fin_end <| fin0 ?_
          exact ⟨rfl, [_], by rw [show keepK u x k = { u with C := x.C } by unfold keepK; simp [*]]; rfl⟩
         ·try simp only [sx] at c11
          exact absurd c8 c11
        ·try simp only [sx] at c8
         refine sReg rfl <|
          rwp_det rfl rfl (det_eql rfl rfl rfl) <|
          rMv rfl <|
          rwp_nil <|
          awp_cond rfl (fun c9 => ?_) (fun c9 => ?_)
         ·try simp only [sx] at c9
          refine awp_skip <|
           awp_cond rfl (fun c11 => ?_) (fun c11 => ?_)
          ·try simp only [sx] at c11
           refine awp_region rfl <|
            rMv rfl <|
            rwp_det rfl rfl (det_field_lit rfl fd67_3 rfl) <|
            rwp_det rfl rfl (det_load_one rfl one3 rfl (ptr_row 0 rfl) rfl) <|
            rwp_det rfl rfl (det_nilcheck_ptr rfl rfl) <|
            rwp_det rfl rfl (det_field_lit rfl fd67_3 rfl) <|
            rwp_det0 rfl rfl (det_store rfl sz3 rfl rfl rfl (st_row 1 rfl rfl)) <|
            rwp_nil ?_
           repeat (first | refine then_exit ?_ | refine block_exit ?_)
           refine fin_end <| fin0 ?_
           exact ⟨rfl, [_], by rw [show keepK u x k = { u with C := x.C } by unfold keepK; simp [*]]; rfl⟩
          ·try simp only [sx] at c11
           exact absurd c9 c11
         ·try simp only [sx] at c9
          refine sReg rfl <|
           rwp_det rfl rfl (det_eql rfl rfl rfl) <|
           rMv rfl <|
           rwp_nil <|
           awp_cond rfl (fun c10 => ?_) (fun c10 => ?_)
          ·try simp only [sx] at c10
           refine awp_skip <|
            awp_cond rfl (fun c11 => ?_) (fun c11 => ?_)
           ·try simp only [sx] at c11
            refine awp_region rfl <|
             rMv rfl <|
             rwp_det rfl rfl (det_field_lit rfl fd67_3 rfl) <|
             rwp_det rfl rfl (det_load_one rfl one3 rfl (ptr_row 0 rfl) rfl) <|
             rwp_det rfl rfl (det_nilcheck_ptr rfl rfl) <|
             rwp_det rfl rfl (det_field_lit rfl fd67_3 rfl) <|
             rwp_det0 rfl rfl (det_store rfl sz3 rfl rfl rfl (st_row 1 rfl rfl)) <|
             rwp_nil ?_
            repeat (first | refine then_exit ?_ | refine block_exit ?_)
            refine fin_end <| fin0 ?_
            exact ⟨rfl, [_], by rw [show keepK u x k = { u with C := x.C } by unfold keepK; simp [*]]; rfl⟩
           ·try simp only [sx] at c11
            exact absurd c10 c11
          ·try simp only [sx] at c10
           refine awp_region rfl <|
            rwp_det rfl rfl (det_eql rfl rfl rfl) <|
            rMv rfl <|
            rwp_nil <|
            awp_cond rfl (fun c11 => ?_) (fun c11 => ?_)
           ·try simp only [sx] at c11
            refine awp_region rfl <|
             rMv rfl <|
             rwp_det rfl rfl (det_field_lit rfl fd67_3 rfl) <|
             rwp_det rfl rfl (det_load_one rfl one3 rfl (ptr_row 0 rfl) rfl) <|
             rwp_det rfl rfl (det_nilcheck_ptr rfl rfl) <|
             rwp_det rfl rfl (det_field_lit rfl fd67_3 rfl) <|
             rwp_det0 rfl rfl (det_store rfl sz3 rfl rfl rfl (st_row 1 rfl rfl)) <|
             rwp_nil ?_
            repeat (first | refine then_exit ?_ | refine block_exit ?_)
            refine fin_end <| fin0 ?_
            exact ⟨rfl, [_], by rw [show keepK u x k = { u with C := x.C } by unfold keepK; simp [*]]; rfl⟩
           ·try simp only [sx] at c11
            refine awp_seq <|
             sReg rfl <|
             rwp_det rfl rfl (det_eql rfl rfl rfl) <|
             rMv rfl <|
             rwp_nil <|
             awp_cond rfl (fun c12 => ?_) (fun c12 => ?_)
            ·try simp only [sx] at c12
             refine awp_skip <|
              awp_cond rfl (fun c15 => ?_) (fun c15 => ?_)
             ·try simp only [sx] at c15
              refine awp_region rfl <|
               rMv rfl <|
               rwp_det rfl rfl (det_field_lit rfl fd67_4 rfl) <|
               rwp_det rfl rfl (det_field_lit rfl fd63_0 rfl) <|
               rwp_det rfl rfl (det_load_one rfl one2 rfl (ptr_row 0 rfl) rfl) <|
               rwp_det rfl rfl (det_build rfl zr63 pl63 rfl) <|
               rwp_det rfl rfl (det_nilcheck_ptr rfl rfl) <|
               rwp_det rfl rfl (det_field_lit rfl fd67_4 rfl) <|
               rwp_det0 rfl rfl (det_store rfl sz63 rfl rfl rfl (st_row 1 rfl rfl)) <|
               rwp_nil ?_
              repeat (first | refine then_exit ?_ | refine block_exit ?_)
              refine fin_end <| fin0 ?_
              exact ⟨rfl, [_], by rw [show keepK u x k = { u with Val := ⟨x.Val.N, 1⟩ } by unfold keepK; simp [*]]; rfl⟩
             ·try simp only [sx] at c15
              exact absurd c12 c15
            ·try simp only [sx] at c12
             refine sReg rfl <|
              rwp_det rfl rfl (det_eql rfl rfl rfl) <|
              rMv rfl <|
              rwp_nil <|
              awp_cond rfl (fun c13 => ?_) (fun c13 => ?_)
             ·try simp only [sx] at c13
              refine awp_skip <|
               awp_cond rfl (fun c15 => ?_) (fun c15 => ?_)
              ·try simp only [sx] at c15
               refine awp_region rfl <|
                rMv rfl <|
                rwp_det rfl rfl (det_field_lit rfl fd67_4 rfl) <|
                rwp_det rfl rfl (det_field_lit rfl fd63_0 rfl) <|
                rwp_det rfl rfl (det_load_one rfl one2 rfl (ptr_row 0 rfl) rfl) <|
                rwp_det rfl rfl (det_build rfl zr63 pl63 rfl) <|
                rwp_det rfl rfl (det_nilcheck_ptr rfl rfl) <|
                rwp_det rfl rfl (det_field_lit rfl fd67_4 rfl) <|
                rwp_det0 rfl rfl (det_store rfl sz63 rfl rfl rfl (st_row 1 rfl rfl)) <|
                rwp_nil ?_
               repeat (first | refine then_exit ?_ | refine block_exit ?_)
               refine fin_end <| fin0 ?_
               exact ⟨rfl, [_], by rw [show keepK u x k = { u with Val := ⟨x.Val.N, 1⟩ } by unfold keepK; simp [*]]; rfl⟩
              ·try simp only [sx] at c15
               exact absurd c13 c15
             ·try simp only [sx] at c13
              refine sReg rfl <|
               rwp_det rfl rfl (det_eql rfl rfl rfl) <|
               rMv rfl <|
               rwp_nil <|
               awp_cond rfl (fun c14 => ?_) (fun c14 => ?_)
              ·try simp only [sx] at c14
               refine awp_skip <|
                awp_cond rfl (fun c15 => ?_) (fun c15 => ?_)
               ·try simp only [sx] at c15
                refine awp_region rfl <|
                 rMv rfl <|
                 rwp_det rfl rfl (det_field_lit rfl fd67_4 rfl) <|
                 rwp_det rfl rfl (det_field_lit rfl fd63_0 rfl) <|
                 rwp_det rfl rfl (det_load_one rfl one2 rfl (ptr_row 0 rfl) rfl) <|
                 rwp_det rfl rfl (det_build rfl zr63 pl63 rfl) <|
                 rwp_det rfl rfl (det_nilcheck_ptr rfl rfl) <|
                 rwp_det rfl rfl (det_field_lit rfl fd67_4 rfl) <|
                 rwp_det0 rfl rfl (det_store rfl sz63 rfl rfl rfl (st_row 1 rfl rfl)) <|
                 rwp_nil ?_
                repeat (first | refine then_exit ?_ | refine block_exit ?_)
                refine fin_end <| fin0 ?_
                exact ⟨rfl, [_], by rw [show keepK u x k = { u with Val := ⟨x.Val.N, 1⟩ } by unfold keepK; simp [*]]; rfl⟩
               ·try simp only [sx] at c15
                exact absurd c14 c15
              ·try simp only [sx] at c14
               refine awp_region rfl <|
                rwp_det rfl rfl (det_eql rfl rfl rfl) <|
                rMv rfl <|
                rwp_nil <|
                awp_cond rfl (fun c15 => ?_) (fun c15 => ?_)
               ·try simp only [sx] at c15
                refine awp_region rfl <|
                 rMv rfl <|
                 rwp_det rfl rfl (det_field_lit rfl fd67_4 rfl) <|
                 rwp_det rfl rfl (det_field_lit rfl fd63_0 rfl) <|
                 rwp_det rfl rfl (det_load_one rfl one2 rfl (ptr_row 0 rfl) rfl) <|
                 rwp_det rfl rfl (det_build rfl zr63 pl63 rfl) <|
                 rwp_det rfl rfl (det_nilcheck_ptr rfl rfl) <|
                 rwp_det rfl rfl (det_field_lit rfl fd67_4 rfl) <|
                 rwp_det0 rfl rfl (det_store rfl sz63 rfl rfl rfl (st_row 1 rfl rfl)) <|
                 rwp_nil ?_
                repeat (first | refine then_exit ?_ | refine block_exit ?_)
                refine fin_end <| fin0 ?_
                exact ⟨rfl, [_], by rw [show keepK u x k = { u with Val := ⟨x.Val.N, 1⟩ } by unfold keepK; simp [*]]; rfl⟩
               ·try simp only [sx] at c15
                refine sReg rfl <|
                 rwp_det rfl rfl (det_eql rfl rfl rfl) <|
                 rMv rfl <|
                 rwp_nil <|
                 awp_cond rfl (fun c16 => ?_) (fun c16 => ?_)
                ·try simp only [sx] at c16
                 refine awp_region rfl <|
                  rMv rfl <|
                  rwp_det rfl rfl (det_field_lit rfl fd67_4 rfl) <|
                  rwp_det rfl rfl (det_load_agg rfl agg63 rfl (ptr_row 0 rfl) rfl) <|
                  rwp_det rfl rfl (det_nilcheck_ptr rfl rfl) <|
                  rwp_det rfl rfl (det_field_lit rfl fd67_4 rfl) <|
                  rwp_det0 rfl rfl (det_store rfl sz63 rfl rfl rfl (st_row 1 rfl rfl)) <|
                  rwp_nil ?_
                 repeat (first | refine then_exit ?_ | refine block_exit ?_)
                 refine fin_end <| fin0 ?_
                 exact ⟨rfl, [_], by rw [show keepK u x k = { u with Val := x.Val } by unfold keepK; simp [*]]; rfl⟩
                ·try simp only [sx] at c16
                 refine sReg rfl <|
                  rwp_det rfl rfl (det_eql rfl rfl rfl) <|
                  rMv rfl <|
                  rwp_nil <|
                  awp_cond rfl (fun c17 => ?_) (fun c17 => ?_)
                 ·try simp only [sx] at c17
                  refine awp_region rfl <|
                   rMv rfl <|
                   rwp_det rfl rfl (det_field_lit rfl fd67_5 rfl) <|
                   rwp_det rfl rfl (det_load_agg rfl agg65 rfl (ptr_row 0 rfl) rfl) <|
                   rwp_det rfl rfl (det_nilcheck_ptr rfl rfl) <|
                   rwp_det rfl rfl (det_field_lit rfl fd67_5 rfl) <|
                   rwp_det0 rfl rfl (det_store rfl sz65 rfl rfl rfl (st_row 1 rfl rfl)) <|
                   rwp_nil ?_
                  repeat (first | refine then_exit ?_ | refine block_exit ?_)
                  refine fin_end <| fin0 ?_
                  exact ⟨rfl, [_], by rw [show keepK u x k = { u with Ty := x.Ty } by unfold keepK; simp [*]]; rfl⟩
                 ·try simp only [sx] at c17
                  refine awp_skip ?_
                  repeat (first | refine then_exit ?_ | refine block_exit ?_)
                  refine fin_end <| fin0 ?_
                  exact ⟨rfl, [_], by rw [show keepK u x k = u by unfold keepK; simp [*]]; rfl⟩

theorem isa_keep (b : Nat) (u x : In) (k : Int) : Con cfg 160 [.c (.lit (.pointer (some ⟨b, 0, none⟩))), vIn x, vI k] [E.row b 67 u.cells] fun r μ' => r = .tup [] ∧ μ' = [E.row b 67 (keepK u x k).cells] := Con.drop (isa_keep0 b u x k)
theorem isa_fits (x : In) (k : Int) :
    Pur cfg 159 [vIn x, vI k] (vB (fitsB x k)) := by
 refine con_intro Tryz.func159 rfl Tryz.ntmps159 Tryz.results159 rfl ?_
 intro z hz
 refine sReg rfl <|
  rwp_op rfl rfl (ope_box rfl rfl) ?_
 rintro _ _ ⟨b1, rfl, rfl⟩
 refine rMv rfl <|
  rwp_nil <|
  awp_seq <|
  sReg rfl <|
  rMv rfl <|
  rwp_nil <|
  awp_block <|
  awp_seq <|
  sReg rfl <|
  rwp_det rfl rfl (det_eql rfl rfl rfl) <|
  rMv rfl <|
  rwp_nil <|
  awp_cond rfl (fun c1 => ?_) (fun c1 => ?_)
 ·try simp only [sx] at c1
  refine awp_skip <|
   awp_cond rfl (fun c2 => ?_) (fun c2 => ?_)
  ·try simp only [sx] at c2
   refine sReg rfl <|
    rwp_det rfl rfl (det_field_lit rfl fd67_1 rfl) <|
    rwp_det rfl rfl (det_load_one rfl one3 rfl (ptr_row 0 rfl) rfl) <|
    rwp_det rfl rfl (det_call rfl ok59 (isa_within _ _ _) ⟨VLe.refl _, rfl, VLe.refl _, rfl, VLe.refl _, rfl, trivial⟩) <|
    rMv rfl <|
    rwp_nil <|
    awp_ret <|
    fin1 (rs_c rfl) ?_
   exact congrArg vB (by unfold fitsB; first | (simp [*, withinB]; done) | (simp [*, frOk]; done) | (simp [*, ty_dec]))
  ·try simp only [sx] at c2
   exact absurd c1 c2
 ·try simp only [sx] at c1
  refine awp_region rfl <|
   rwp_det rfl rfl (det_eql rfl rfl rfl) <|
   rMv rfl <|
   rwp_nil <|
   awp_cond rfl (fun c2 => ?_) (fun c2 => ?_)
  ·try simp only [sx] at c2
   refine sReg rfl <|
    rwp_det rfl rfl (det_field_lit rfl fd67_1 rfl) <|
    rwp_det rfl rfl (det_load_one rfl one3 rfl (ptr_row 0 rfl) rfl) <|
    rwp_det rfl rfl (det_call rfl ok59 (isa_within _ _ _) ⟨VLe.refl _, rfl, VLe.refl _, rfl, VLe.refl _, rfl, trivial⟩) <|
    rMv rfl <|
    rwp_nil <|
    awp_ret <|
    fin1 (rs_c rfl) ?_
   exact congrArg vB (by unfold fitsB; first | (simp [*, withinB]; done) | (simp [*, frOk]; done) | (simp [*, ty_dec]))
  ·try simp only [sx] at c2
   refine awp_seq <|
    sReg rfl <|
    rwp_det rfl rfl (det_eql rfl rfl rfl) <|
    rMv rfl <|
    rwp_nil <|
    awp_cond rfl (fun c3 => ?_) (fun c3 => ?_)
   ·try simp only [sx] at c3
    refine awp_skip <|
     awp_cond rfl (fun c4 => ?_) (fun c4 => ?_)
    ·try simp only [sx] at c4
     refine sReg rfl <|
      rwp_det rfl rfl (det_field_lit rfl fd67_2 rfl) <|
      rwp_det rfl rfl (det_load_one rfl one3 rfl (ptr_row 0 rfl) rfl) <|
      rwp_det rfl rfl (det_call rfl ok59 (isa_within _ _ _) ⟨VLe.refl _, rfl, VLe.refl _, rfl, VLe.refl _, rfl, trivial⟩) <|
      rMv rfl <|
      rwp_nil <|
      awp_ret <|
      fin1 (rs_c rfl) ?_
     exact congrArg vB (by unfold fitsB; first | (simp [*, withinB]; done) | (simp [*, frOk]; done) | (simp [*, ty_dec]))
    ·try simp only [sx] at c4
     exact absurd c3 c4
   ·try simp only [sx] at c3
    refine awp_region rfl <|
     rwp_det rfl rfl (det_eql rfl rfl rfl) <|
     rMv rfl <|
     rwp_nil <|
     awp_cond rfl (fun c4 => ?_) (fun c4 => ?_)
    ·try simp only [sx] at c4
     refine sReg rfl <|
      rwp_det rfl rfl (det_field_lit rfl fd67_2 rfl) <|
      rwp_det rfl rfl (det_load_one rfl one3 rfl (ptr_row 0 rfl) rfl) <|
      rwp_det rfl rfl (det_call rfl ok59 (isa_within _ _ _) ⟨VLe.refl _, rfl, VLe.refl _, rfl, VLe.refl _, rfl, trivial⟩) <|
      rMv rfl <|
      rwp_nil <|
      awp_ret <|
      fin1 (rs_c rfl) ?_
     exact congrArg vB (by unfold fitsB; first | (simp [*, withinB]; done) | (simp [*, frOk]; done) | (simp [*, ty_dec]))
    ·try simp only [sx] at c4
     refine awp_seq <|
      sReg rfl <|
      rwp_det rfl rfl (det_eql rfl rfl rfl) <|
      rMv rfl <|
      rwp_nil <|
      awp_cond rfl (fun c5 => ?_) (fun c5 => ?_)
     ·try simp only [sx] at c5
      refine awp_skip <|
       awp_cond rfl (fun c6 => ?_) (fun c6 => ?_)
      ·try simp only [sx] at c6
       refine sReg rfl <|
        rwp_det rfl rfl (det_field_lit rfl fd67_3 rfl) <|
        rwp_det rfl rfl (det_load_one rfl one3 rfl (ptr_row 0 rfl) rfl) <|
        rwp_det rfl rfl (det_call rfl ok59 (isa_within _ _ _) ⟨VLe.refl _, rfl, VLe.refl _, rfl, VLe.refl _, rfl, trivial⟩) <|
        rMv rfl <|
        rwp_nil <|
        awp_ret <|
        fin1 (rs_c rfl) ?_
       exact congrArg vB (by unfold fitsB; first | (simp [*, withinB]; done) | (simp [*, frOk]; done) | (simp [*, ty_dec]))
      ·try simp only [sx] at c6
       exact absurd c5 c6
     ·try simp only [sx] at c5
      refine awp_region rfl <|
       rwp_det rfl rfl (det_eql rfl rfl rfl) <|
       rMv rfl <|
       rwp_nil <|
       awp_cond rfl (fun c6 => ?_) (fun c6 => ?_)
      ·try simp only [sx] at c6
       refine sReg rfl <|
        rwp_det rfl rfl (det_field_lit rfl fd67_3 rfl) <|
        rwp_det rfl rfl (det_load_one rfl one3 rfl (ptr_row 0 rfl) rfl) <|
        rwp_det rfl rfl (det_call rfl ok59 (isa_within _ _ _) ⟨VLe.refl _, rfl, VLe.refl _, rfl, VLe.refl _, rfl, trivial⟩) <|
        rMv rfl <|
        rwp_nil <|
        awp_ret <|
        fin1 (rs_c rfl) ?_
       exact congrArg vB (by unfold fitsB; first | (simp [*, withinB]; done) | (simp [*, frOk]; done) | (simp [*, ty_dec]))
      ·try simp only [sx] at c6
       refine sReg rfl <|
        rwp_det rfl rfl (det_eql rfl rfl rfl) <|
        rMv rfl <|
        rwp_nil <|
        awp_cond rfl (fun c7 => ?_) (fun c7 => ?_)
       ·try simp only [sx] at c7
        refine sReg rfl <|
         rwp_det rfl rfl (det_field_lit rfl fd67_1 rfl) <|
         rwp_det rfl rfl (det_load_one rfl one3 rfl (ptr_row 0 rfl) rfl) <|
         rwp_det rfl rfl (det_call rfl ok59 (isa_within _ _ _) ⟨VLe.refl _, rfl, VLe.refl _, rfl, VLe.refl _, rfl, trivial⟩) <|
         rMv rfl <|
         rwp_nil <|
         awp_ret <|
         fin1 (rs_c rfl) ?_
        exact congrArg vB (by unfold fitsB; first | (simp [*, withinB]; done) | (simp [*, frOk]; done) | (simp [*, ty_dec]))
       ·try simp only [sx] at c7
        refine sReg rfl <|
         rwp_det rfl rfl (det_eql rfl rfl rfl) <|
         rMv rfl <|
         rwp_nil <|
         awp_cond rfl (fun c8 => ?_) (fun c8 => ?_)
        ·try simp only [sx] at c8
         refine sReg rfl <|
          rwp_det rfl rfl (det_field_lit rfl fd67_2 rfl) <|
          rwp_det rfl rfl (det_load_one rfl one3 rfl (ptr_row 0 rfl) rfl) <|
          rwp_det rfl rfl (det_call rfl ok59 (isa_within _ _ _) ⟨VLe.refl _, rfl, VLe.refl _, rfl, VLe.refl _, rfl, trivial⟩) <|
          rMv rfl <|
          rwp_nil <|
          awp_ret <|
          fin1 (rs_c rfl) ?_
         exact congrArg vB (by unfold fitsB; first | (simp [*, withinB]; done) | (simp [*, frOk]; done) | (simp [*, ty_dec]))
        ·try simp only [sx] at c8
         refine sReg rfl <|
          rwp_det rfl rfl (det_eql rfl rfl rfl) <|
          rMv rfl <|
          rwp_nil <|
          awp_cond rfl (fun c9 => ?_) (fun c9 => ?_)
         ·try simp only [sx] at c9
          refine sReg rfl <|
           rwp_det rfl rfl (det_field_lit rfl fd67_3 rfl) <|
           rwp_det rfl rfl (det_load_one rfl one3 rfl (ptr_row 0 rfl) rfl) <|
           rwp_det rfl rfl (det_call rfl ok59 (isa_within _ _ _) ⟨VLe.refl _, rfl, VLe.refl _, rfl, VLe.refl _, rfl, trivial⟩) <|
           rMv rfl <|
           rwp_nil <|
           awp_ret <|
           fin1 (rs_c rfl) ?_
          exact congrArg vB (by unfold fitsB; first | (simp [*, withinB]; done) | (simp [*, frOk]; done) | (simp [*, ty_dec]))
         ·try simp only [sx] at c9
          refine sReg rfl <|
           rwp_det rfl rfl (det_eql rfl rfl rfl) <|
           rMv rfl <|
           rwp_nil <|
           awp_cond rfl (fun c10 => ?_) (fun c10 => ?_)
          ·try simp only [sx] at c10
           refine sReg rfl <|
            rwp_det rfl rfl (det_field_lit rfl fd67_4 rfl) <|
            rwp_det rfl rfl (det_field_lit rfl fd63_0 rfl) <|
            rwp_det rfl rfl (det_load_one rfl one2 rfl (ptr_row 0 rfl) rfl) <|
            rwp_det rfl rfl (det_geq rfl rfl rfl) <|
            rMv rfl <|
            rLz [] rfl gv1 trivial (fun g18_4 => det_field_lit rfl fd67_4 rfl) rfl <|
            rLz [(46, _)] rfl gv1 ⟨rfl, rfl, trivial⟩ (fun g18_4 => det_field_lit rfl fd63_0 rfl) rfl <|
            rLz [(47, _)] rfl gv1 ⟨rfl, rfl, trivial⟩ (fun g18_4 => det_load_one rfl one2 rfl (ptr_row 0 rfl) rfl) rfl <|
            rLz [] rfl gv1 trivial (fun g18_4 => det_field_lit rfl fd67_3 rfl) rfl <|
            rLz [(49, _)] rfl gv1 ⟨rfl, rfl, trivial⟩ (fun g18_4 => det_load_one rfl one3 rfl (ptr_row 0 rfl) rfl) rfl <|
            rLz [(48, _), (50, _)] rfl gv1 ⟨rfl, rfl, rfl, rfl, trivial⟩ (fun g18_4 => det_leq rfl rfl rfl) rfl <|
            rwp_det rfl rfl (det_and rfl rfl rfl (fun h => h) rfl) <|
            rMv rfl <|
            rwp_nil <|
            awp_ret <|
            fin1 (rs_c rfl) ?_
           exact congrArg vB (by unfold fitsB; first | (simp [*, withinB]; done) | (simp [*, frOk]; done) | (simp [*, ty_dec]))
          ·try simp only [sx] at c10
           refine sReg rfl <|
            rwp_det rfl rfl (det_eql rfl rfl rfl) <|
            rMv rfl <|
            rwp_nil <|
            awp_cond rfl (fun c11 => ?_) (fun c11 => ?_)
           ·try simp only [sx] at c11
            refine sReg rfl <|
             rwp_det rfl rfl (det_field_lit rfl fd67_3 rfl) <|
             rwp_det rfl rfl (det_load_one rfl one3 rfl (ptr_row 0 rfl) rfl) <|
             rwp_det rfl rfl (det_call rfl ok59 (isa_within _ _ _) ⟨VLe.refl _, rfl, VLe.refl _, rfl, VLe.refl _, rfl, trivial⟩) <|
             rMv rfl <|
             rwp_nil <|
             awp_ret <|
             fin1 (rs_c rfl) ?_
            exact congrArg vB (by unfold fitsB; first | (simp [*, withinB]; done) | (simp [*, frOk]; done) | (simp [*, ty_dec]))
           ·try simp only [sx] at c11
            refine sReg rfl <|
             rwp_det rfl rfl (det_eql rfl rfl rfl) <|
             rMv rfl <|
             rwp_nil <|
             awp_cond rfl (fun c12 => ?_) (fun c12 => ?_)
            ·try simp only [sx] at c12
             refine sReg rfl <|
              rwp_det rfl rfl (det_field_lit rfl fd67_4 rfl) <|
              rwp_det rfl rfl (det_field_lit rfl fd63_0 rfl) <|
              rwp_det rfl rfl (det_load_one rfl one2 rfl (ptr_row 0 rfl) rfl) <|
              rwp_det rfl rfl (det_geq rfl rfl rfl) <|
              rMv rfl <|
              rLz [] rfl gv1 trivial (fun g22_4 => det_field_lit rfl fd67_4 rfl) rfl <|
              rLz [(65, _)] rfl gv1 ⟨rfl, rfl, trivial⟩ (fun g22_4 => det_field_lit rfl fd63_0 rfl) rfl <|
              rLz [(66, _)] rfl gv1 ⟨rfl, rfl, trivial⟩ (fun g22_4 => det_load_one rfl one2 rfl (ptr_row 0 rfl) rfl) rfl <|
              rLz [(67, _)] rfl gv1 ⟨rfl, rfl, trivial⟩ (fun g22_4 => det_leq rfl rfl rfl) rfl <|
              rwp_det rfl rfl (det_and rfl rfl rfl (fun h => h) rfl) <|
              rMv rfl <|
              rwp_nil <|
              awp_ret <|
              fin1 (rs_c rfl) ?_
             exact congrArg vB (by unfold fitsB; first | (simp [*, withinB]; done) | (simp [*, frOk]; done) | (simp [*, ty_dec]))
            ·try simp only [sx] at c12
             refine sReg rfl <|
              rwp_det rfl rfl (det_eql rfl rfl rfl) <|
              rMv rfl <|
              rwp_nil <|
              awp_cond rfl (fun c13 => ?_) (fun c13 => ?_)
             ·try simp only [sx] at c13
              refine sReg rfl <|
               rwp_det rfl rfl (det_field_lit rfl fd67_3 rfl) <|
               rwp_det rfl rfl (det_load_one rfl one3 rfl (ptr_row 0 rfl) rfl) <|
               rwp_det rfl rfl (det_call rfl ok59 (isa_within _ _ _) ⟨VLe.refl _, rfl, VLe.refl _, rfl, VLe.refl _, rfl, trivial⟩) <|
               rMv rfl <|
               rwp_nil <|
               awp_ret <|
               fin1 (rs_c rfl) ?_
              exact congrArg vB (by unfold fitsB; first | (simp [*, withinB]; done) | (simp [*, frOk]; done) | (simp [*, ty_dec]))
             ·try simp only [sx] at c13
              refine sReg rfl <|
               rwp_det rfl rfl (det_eql rfl rfl rfl) <|
               rMv rfl <|
               rwp_nil <|
               awp_cond rfl (fun c14 => ?_) (fun c14 => ?_)
              ·try simp only [sx] at c14
               refine sReg rfl <|
                rwp_det rfl rfl (det_field_lit rfl fd67_4 rfl) <|
                rwp_det rfl rfl (det_load_agg rfl agg63 rfl (ptr_row 0 rfl) rfl) <|
                rwp_det rfl rfl (det_call rfl ok165 (frac_Valid x.Val) ⟨VLe.refl _, rfl, trivial⟩) <|
                rMv rfl <|
                rwp_nil <|
                awp_ret <|
                fin1 (rs_c rfl) ?_
               exact congrArg vB (by unfold fitsB; first | (simp [*, withinB]; done) | (simp [*, frOk]; done) | (simp [*, ty_dec]))
              ·try simp only [sx] at c14
               refine sReg rfl <|
                rwp_det rfl rfl (det_eql rfl rfl rfl) <|
                rMv rfl <|
                rwp_nil <|
                awp_cond rfl (fun c15 => ?_) (fun c15 => ?_)
               ·try simp only [sx] at c15
                refine sReg rfl <|
                 rwp_det rfl rfl (det_field_lit rfl fd67_4 rfl) <|
                 rwp_det rfl rfl (det_field_lit rfl fd63_0 rfl) <|
                 rwp_det rfl rfl (det_load_one rfl one2 rfl (ptr_row 0 rfl) rfl) <|
                 rwp_det rfl rfl (det_geq rfl rfl rfl) <|
                 rMv rfl <|
                 rLz [] rfl gv1 trivial (fun g28_4 => det_field_lit rfl fd67_4 rfl) rfl <|
                 rLz [(87, _)] rfl gv1 ⟨rfl, rfl, trivial⟩ (fun g28_4 => det_field_lit rfl fd63_0 rfl) rfl <|
                 rLz [(88, _)] rfl gv1 ⟨rfl, rfl, trivial⟩ (fun g28_4 => det_load_one rfl one2 rfl (ptr_row 0 rfl) rfl) rfl <|
                 rLz [(89, _)] rfl gv1 ⟨rfl, rfl, trivial⟩ (fun g28_4 => det_leq rfl rfl rfl) rfl <|
                 rwp_det rfl rfl (det_and rfl rfl rfl (fun h => h) rfl) <|
                 rMv rfl <|
                 rwp_nil <|
                 awp_ret <|
                 fin1 (rs_c rfl) ?_
                exact congrArg vB (by unfold fitsB; first | (simp [*, withinB]; done) | (simp [*, frOk]; done) | (simp [*, ty_dec]))
               ·try simp only [sx] at c15
                refine sReg rfl <|
                 rwp_det rfl rfl (det_eql rfl rfl rfl) <|
                 rMv rfl <|
                 rwp_nil <|
                 awp_cond rfl (fun c16 => ?_) (fun c16 => ?_)
                ·try simp only [sx] at c16
                 refine sReg rfl <|
                  rwp_det rfl rfl (det_field_lit rfl fd67_4 rfl) <|
                  rwp_det rfl rfl (det_field_lit rfl fd63_0 rfl) <|
                  rwp_det rfl rfl (det_load_one rfl one2 rfl (ptr_row 0 rfl) rfl) <|
                  rwp_det rfl rfl (det_geq rfl rfl rfl) <|
                  rMv rfl <|
                  rLz [] rfl gv1 trivial (fun g30_4 => det_field_lit rfl fd67_4 rfl) rfl <|
                  rLz [(99, _)] rfl gv1 ⟨rfl, rfl, trivial⟩ (fun g30_4 => det_field_lit rfl fd63_0 rfl) rfl <|
                  rLz [(100, _)] rfl gv1 ⟨rfl, rfl, trivial⟩ (fun g30_4 => det_load_one rfl one2 rfl (ptr_row 0 rfl) rfl) rfl <|
                  rLz [(101, _)] rfl gv1 ⟨rfl, rfl, trivial⟩ (fun g30_4 => det_leq rfl rfl rfl) rfl <|
                  rwp_det rfl rfl (det_and rfl rfl rfl (fun h => h) rfl) <|
                  rMv rfl <|
                  rwp_nil <|
                  awp_ret <|
                  fin1 (rs_c rfl) ?_
                 exact congrArg vB (by unfold fitsB; first | (simp [*, withinB]; done) | (simp [*, frOk]; done) | (simp [*, ty_dec]))
                ·try simp only [sx] at c16
                 refine awp_skip <|
                  sReg rfl <|
                  rwp_det rfl rfl (det_field_lit rfl fd67_5 rfl) <|
                  rwp_det rfl rfl (det_load_agg rfl agg65 rfl (ptr_row 0 rfl) rfl) <|
                  rwp_det rfl rfl (det_call rfl ok60 (value_ValidateType x.Ty) ⟨VLe.refl _, rfl, trivial⟩) <|
                  rwp_det rfl rfl (det_eql rfl rfl rfl) <|
                  rMv rfl <|
                  rwp_nil <|
                  awp_ret <|
                  fin1 (rs_c rfl) ?_
                 exact congrArg vB (by unfold fitsB; first | (simp [*, withinB]; done) | (simp [*, frOk]; done) | (simp [*, ty_dec]))

theorem isa_operands (x : In) (h0 : 0 ≤ x.Op) (h17 : x.Op < 17) :
    OwnR cfg 158 [vIn x] 3 1 ((kinds x).map fun n => [cI n]) := by
 refine con_intro Tryz.func158 rfl Tryz.ntmps158 Tryz.results158 rfl ?_
 intro z hz
 have hlen := kRow_len h0 h17
 refine sReg rfl <|
  rwp_op rfl rfl (ope_box rfl rfl) ?_
 rintro _ _ ⟨b1, rfl, rfl⟩
 refine rMv rfl <|
  rwp_weak _ (weak_own 3 1) <|
  rwp_nil <|
  sReg rfl <|
  rMv rfl <|
  rwp_weak _ (weak_own 3 1) <|
  rwp_nil <|
  awp_seq <|
  sReg rfl <|
  rwp_det rfl rfl (det_field_lit rfl fd67_0 rfl) <|
  rwp_det rfl rfl (det_load_one rfl one3 rfl (ptr_row 2 rfl) rfl) <|
  rwp_det rfl rfl (det_arr_lit rfl ar241 rfl rfl h0 h17) <|
  rwp_det rfl rfl (det_field_lit rfl fd240_1 rfl) <|
  rwp_det rfl rfl (det_load_glob rfl agg238 rfl (ops_len h0 h17) ops_one (ops_row h0 h17)) <|
  rMv rfl <|
  rwp_nil <|
  awp_block <|
  awp_weak ⟨[(11, .c _), (3, .c _), (1, .c _), (10, .agg _)], [_, _]⟩ (Weak.mk [true, false, true] ⟨VLe.of_eq rfl, VLe.of_eq rfl, VLe.of_eq rfl, VLe.of_eq rfl, trivial⟩ rfl) <|
  awp_loop_k 2 1 rfl rfl (Nat × Value) (fun ⟨k, sv⟩ => [(11, vI k), (3, .c (.lit sv))]) (fun ⟨k, sv⟩ => [E.vec sv 3 1 ((((kRow x.Op).take k).filter fun k => !skipK x k).map fun n => [cI n])]) (fun ⟨k, sv⟩ => k ≤ (kRow x.Op).length) (fun ⟨k, sv⟩ => (kRow x.Op).length - k) ⟨⟨0, (.slice none 0 0)⟩, (by omega), Weak.mk [true, true] ⟨VLe.refl _, VLe.refl _, VLe.refl _, VLe.refl _, trivial⟩ rfl⟩ ?_
 rintro ⟨k, sv⟩ hk
 show AWP _ _ _ _ _ ⟨[(11, vI k), (3, .c (.lit sv))] ++ _, [E.vec sv 3 1 ((((kRow x.Op).take k).filter fun k => !skipK x k).map fun n => [cI n])] ++ _⟩
 refine sReg rfl <|
  rwp_det rfl rfl (det_lss rfl rfl rfl) <|
  rwp_nil <|
  awp_seq <|
  awp_cond rfl (fun c1 => ?_) (fun c1 => ?_)
 ·try simp only [sx] at c1
  obtain ⟨q, hq⟩ := ex_get (kRow x.Op) k (by omega)
  refine awp_skip <|
   awp_seq <|
   awp_block <|
   sReg rfl <|
   rwp_det rfl rfl (det_index_arr rfl ar238 one3 rfl rfl (by omega) (by omega) (kRow_at hq)) <|
   rMv rfl <|
   rwp_nil <|
   awp_seq <|
   sReg rfl <|
   rMv rfl <|
   rwp_det rfl rfl (det_eql rfl rfl rfl) <|
   rMv rfl <|
   rLz [] rfl gv1 trivial (fun g5_2 => det_move rfl rfl) rfl <|
   rLz [(17, _)] rfl gv1 ⟨rfl, rfl, trivial⟩ (fun g5_2 => det_eql rfl rfl rfl) rfl <|
   rLz [(18, _)] rfl gv1 ⟨rfl, rfl, trivial⟩ (fun g5_2 => det_move rfl rfl) rfl <|
   rLz [] rfl gv2 trivial (fun g5_5 => det_field_lit rfl fd67_0 rfl) rfl <|
   rLz [(20, _)] rfl gv2 ⟨rfl, rfl, trivial⟩ (fun g5_5 => det_load_one rfl one3 rfl (ptr_row 1 rfl) rfl) rfl <|
   rLz [(21, _)] rfl gv2 ⟨rfl, rfl, trivial⟩ (fun g5_5 => det_eql rfl rfl rfl) rfl <|
   rLz [(19, _)] rfl gv1 ⟨rfl, rfl, trivial⟩ (fun g5_2 => det_and rfl rfl rfl (fun h => and_mk (by assumption) h) rfl) rfl <|
   rLz [(23, _)] rfl gv1 ⟨rfl, rfl, trivial⟩ (fun g5_2 => det_move rfl rfl) rfl <|
   rLz [] rfl gv2 trivial (fun g5_10 => det_field_lit rfl fd67_4 rfl) rfl <|
   rLz [(25, _)] rfl gv2 ⟨rfl, rfl, trivial⟩ (fun g5_10 => det_field_lit rfl fd63_0 rfl) rfl <|
   rLz [(26, _)] rfl gv2 ⟨rfl, rfl, trivial⟩ (fun g5_10 => det_load_one rfl one2 rfl (ptr_row 1 rfl) rfl) rfl <|
   rLz [(27, _)] rfl gv2 ⟨rfl, rfl, trivial⟩ (fun g5_10 => det_eql rfl rfl rfl) rfl <|
   rLz [(24, _)] rfl gv1 ⟨rfl, rfl, trivial⟩ (fun g5_2 => det_and rfl rfl rfl (fun h => and_mk (by assumption) h) rfl) rfl <|
   rwp_det rfl rfl (det_or rfl rfl rfl rfl (fun h => (lzf h))) <|
   rwp_nil <|
   awp_cond rfl (fun c2 => ?_) (fun c2 => ?_)
  ·have c2 : skipK x q = true := by rw [← skip_eq]; exact c2
   refine awp_exit <|
    awp_region rfl <|
    rwp_det rfl rfl (det_add_nw rfl rfl rfl ⟨by omega, by omega⟩) <|
    rMv rfl <|
    rwp_nil ?_
   refine ⟨⟨k + 1, sv⟩, (by omega), (by show (kRow x.Op).length - (k + 1) < (kRow x.Op).length - k; omega), Weak.mk [true, true] ⟨VLe.refl _, VLe.refl _, VLe.refl _, VLe.refl _, trivial⟩ (by exact mem1_eq (by rw [filt_no hq (by rw [c2]; rfl)]))⟩
  ·have c2 : skipK x q = false := by rw [← skip_eq]; exact c2
   have hfl : (((kRow x.Op).take k).filter fun k => !skipK x k).length ≤ 5 := Nat.le_trans (List.length_filter_le _ _) (by rw [List.length_take]; omega)
   refine awp_skip <|
    awp_region rfl <|
    rMv rfl <|
    rMv rfl <|
    rwp_det rfl rfl (det_bslice rfl el55 zr3 rfl rfl rfl rfl) <|
    rwp_op rfl rfl (ope_append 0 rfl el55 rfl rfl rfl (by simp only [List.length_map, List.length_cons, List.length_nil]; omega) (by simp only [List.length_map, List.length_cons, List.length_nil]; omega)) ?_
   rintro _ _ ⟨sv4, rfl, rfl⟩
   refine rMv rfl <|
    rwp_nil <|
    awp_region rfl <|
    rwp_det rfl rfl (det_add_nw rfl rfl rfl ⟨by omega, by omega⟩) <|
    rMv rfl <|
    rwp_nil ?_
   refine ⟨⟨k + 1, sv4⟩, (by omega), (by show (kRow x.Op).length - (k + 1) < (kRow x.Op).length - k; omega), Weak.mk [true, true] ⟨VLe.refl _, VLe.refl _, VLe.refl _, VLe.refl _, trivial⟩ (by exact mem1_eq (by rw [filt_yes hq (by rw [c2]; rfl), List.map_append]; rfl))⟩
 ·try simp only [sx] at c1
  refine awp_exit <|
   sReg rfl <|
   rMv rfl <|
   rMv rfl <|
   rwp_nil <|
   awp_weak _ (Weak.mem [true, false] rfl) <|
   awp_ret <|
   fin1 (rs_c rfl) ?_
  exact ⟨_, rfl, by rw [kinds_all (by omega)]; rfl⟩

theorem isa_jumps (op : Int) :
    Pur cfg 109 [vI op] (vB (jmpB op)) := by
 refine con_intro Tryz.func109 rfl Tryz.ntmps109 Tryz.results109 rfl ?_
 intro z hz
 refine sReg rfl <|
  rMv rfl <|
  rwp_nil <|
  awp_seq <|
  sReg rfl <|
  rMv rfl <|
  rwp_det rfl rfl (det_call rfl ok157 (isa_known op) ⟨VLe.refl _, rfl, trivial⟩) <|
  rwp_det rfl rfl (det_not rfl rfl) <|
  rwp_nil <|
  awp_cond rfl (fun c1 => ?_) (fun c1 => ?_)
 ·have hk : knownB op = false := by simpa using c1
  refine sReg rfl <|
   rMv rfl <|
   rwp_nil <|
   awp_ret <|
   fin1 (rs_c rfl) ?_
  rw [jmp_out hk]
 ·have hk : knownB op = true := by simpa using c1
  obtain ⟨h0, h17⟩ := known_in hk
  have hlen := kRow_len h0 h17
  refine awp_skip <|
   awp_seq <|
   sReg rfl <|
   rMv rfl <|
   rwp_det rfl rfl (det_arr_lit rfl ar241 rfl rfl h0 h17) <|
   rwp_det rfl rfl (det_field_lit rfl fd240_1 rfl) <|
   rwp_det rfl rfl (det_load_glob rfl agg238 rfl (ops_len h0 h17) ops_one (ops_row h0 h17)) <|
   rMv rfl <|
   rwp_nil <|
   awp_block <|
   awp_weak ⟨[(12, .c _), (11, .agg _)], []⟩ (Weak.mk [] ⟨VLe.of_eq rfl, VLe.of_eq rfl, trivial⟩ rfl) <|
   awp_loop_k 1 0 rfl rfl (Nat) (fun k => [(12, vI k)]) (fun k => []) (fun k => k ≤ (kRow op).length ∧ (((kRow op).take k).any (fun k => decide (k = 7)) = false)) (fun k => (kRow op).length - k) ⟨0, ⟨by omega, rfl⟩, Weak.mk [] ⟨VLe.refl _, VLe.refl _, trivial⟩ rfl⟩ ?_
  rintro k ⟨hk, hp⟩
  refine sReg rfl <|
   rwp_det rfl rfl (det_lss rfl rfl rfl) <|
   rwp_nil <|
   awp_seq <|
   awp_cond rfl (fun c2 => ?_) (fun c2 => ?_)
  ·try simp only [sx] at c2
   obtain ⟨q, hq⟩ := ex_get (kRow op) k (by omega)
   refine awp_skip <|
    awp_seq <|
    awp_block <|
    sReg rfl <|
    rwp_det rfl rfl (det_index_arr rfl ar238 one3 rfl rfl (by omega) (by omega) (kRow_at hq)) <|
    rMv rfl <|
    rwp_nil <|
    sReg rfl <|
    rMv rfl <|
    rwp_det rfl rfl (det_eql rfl rfl rfl) <|
    rwp_nil <|
    awp_cond rfl (fun c3 => ?_) (fun c3 => ?_)
   ·try simp only [sx] at c3
    refine sReg rfl <|
     rMv rfl <|
     rwp_nil <|
     awp_ret <|
     fin1 (rs_c rfl) ?_
    rw [← jmp_tab h0 h17, List.any_eq_true.2 ⟨q, mem_of_get hq, decide_eq_true c3⟩]
   ·try simp only [sx] at c3
    refine awp_skip <|
     awp_region rfl <|
     rwp_det rfl rfl (det_add_nw rfl rfl rfl ⟨by omega, by omega⟩) <|
     rMv rfl <|
     rwp_nil ?_
    refine ⟨k + 1, ⟨by omega, any_next hq hp (decide_eq_false c3)⟩, (by omega), Weak.mk [] ⟨VLe.refl _, VLe.refl _, trivial⟩ rfl⟩
  ·try simp only [sx] at c2
   refine awp_exit <|
    sReg rfl <|
    rMv rfl <|
    rwp_nil <|
    awp_ret <|
    fin1 (rs_c rfl) ?_
   rw [take_all (by omega)] at hp
   rw [← jmp_tab h0 h17, hp]

theorem isa_wellFormed (x : In) :
    Pur cfg 108 [vIn x] (vB (wfP x)) := by
 refine con_intro Tryz.func108 rfl Tryz.ntmps108 Tryz.results108 rfl ?_
 intro z hz
 refine sReg rfl <|
  rwp_op rfl rfl (ope_box rfl rfl) ?_
 rintro _ _ ⟨b1, rfl, rfl⟩
 refine rMv rfl <|
  rwp_nil <|
  awp_seq <|
  sReg rfl <|
  rwp_det rfl rfl (det_field_lit rfl fd67_0 rfl) <|
  rwp_det rfl rfl (det_load_one rfl one3 rfl (ptr_row 0 rfl) rfl) <|
  rwp_det rfl rfl (det_call rfl ok157 (isa_known x.Op) ⟨VLe.refl _, rfl, trivial⟩) <|
  rwp_det rfl rfl (det_not rfl rfl) <|
  rwp_nil <|
  awp_cond rfl (fun c1 => ?_) (fun c1 => ?_)
 ·have hk : knownB x.Op = false := by simpa using c1
  refine sReg rfl <|
   rMv rfl <|
   rwp_nil <|
   awp_ret <|
   fin1 (rs_c rfl) ?_
  rw [wfP, hk]; rfl
 ·have hkn : knownB x.Op = true := by simpa using c1
  obtain ⟨h0, h17⟩ := known_in hkn
  have hkl : (kinds x).length ≤ 5 := Nat.le_trans (List.length_filter_le _ _) (Nat.le_of_eq (kRow_len h0 h17))
  refine awp_skip <|
   sReg rfl <|
   rwp_det rfl rfl (det_field_lit rfl fd67_0 rfl) <|
   rwp_det rfl rfl (det_load_one rfl one3 rfl (ptr_row 0 rfl) rfl) <|
   rwp_det rfl rfl (det_build rfl zr67 pl67 rfl) <|
   rwp_op rfl rfl (ope_alloc rfl zr67) ?_
  rintro _ _ ⟨b2, rfl, rfl⟩
  refine rwp_det0 rfl rfl (det_store rfl sz67 rfl rfl rfl (st_row 0 rfl rfl)) <|
   rwp_nil <|
   awp_seq <|
   sReg rfl <|
   rwp_det rfl rfl (det_load_agg rfl agg67 rfl (ptr_row 1 rfl) rfl) <|
   rwp_det rfl rfl (det_call rfl ok158 (OwnR.pur (isa_operands x h0 h17)) ⟨VLe.refl _, rfl, trivial⟩) <|
   rwp_det rfl rfl (det_len_slm rfl el55 rfl) <|
   rMv rfl <|
   rwp_nil <|
   awp_block <|
   awp_weak ⟨[(16, .c _), (1, .c _), (3, .c _), (14, .c _), (15, .c _)], [_, _]⟩ (Weak.mk [true, true] ⟨VLe.of_eq rfl, VLe.of_eq rfl, VLe.of_eq rfl, VLe.of_eq rfl, VLe.of_eq rfl, trivial⟩ rfl) <|
   awp_loop_k 1 1 rfl rfl (Nat) (fun k => [(16, vI k)]) (fun k => [E.row b2 67 (((kinds x).take k).foldl (fun u k => keepK u x k) (in0 x.Op)).cells]) (fun k => k ≤ (kinds x).length ∧ (((kinds x).take k).all (fitsB x) = true)) (fun k => (kinds x).length - k) ⟨0, ⟨by omega, rfl⟩, Weak.mk [true, true] ⟨VLe.refl _, VLe.refl _, VLe.refl _, VLe.refl _, VLe.refl _, trivial⟩ rfl⟩ ?_
  rintro k ⟨hk, hp⟩
  refine sReg rfl <|
   rwp_det rfl rfl (det_lss rfl rfl rfl) <|
   rwp_nil <|
   awp_seq <|
   awp_cond rfl (fun c2 => ?_) (fun c2 => ?_)
  ·try simp only [sx] at c2
   obtain ⟨q, hq⟩ := ex_get (kinds x) k (by omega)
   refine awp_skip <|
    awp_seq <|
    awp_block <|
    sReg rfl <|
    rwp_det rfl rfl (det_index_sl rfl el55 rfl rfl (by omega) (getm (by assumption))) <|
    rwp_det rfl rfl (det_load_one rfl one3 rfl ptr_imm rfl) <|
    rMv rfl <|
    rwp_nil <|
    awp_seq <|
    sReg rfl <|
    rwp_det rfl rfl (det_load_agg rfl agg67 rfl (ptr_row 1 rfl) rfl) <|
    rMv rfl <|
    rwp_det rfl rfl (det_call rfl ok159 (isa_fits x q) ⟨VLe.refl _, rfl, VLe.refl _, rfl, trivial⟩) <|
    rwp_det rfl rfl (det_not rfl rfl) <|
    rwp_nil <|
    awp_cond rfl (fun c3 => ?_) (fun c3 => ?_)
   ·have c3 : fitsB x q = false := by simpa using c3
    refine sReg rfl <|
     rMv rfl <|
     rwp_nil <|
     awp_ret <|
     fin1 (rs_c rfl) ?_
    rw [wf_no hq c3]
   ·have c3 : fitsB x q = true := by simpa using c3
    refine awp_skip <|
     awp_region rfl <|
     rwp_det rfl rfl (det_load_agg rfl agg67 rfl (ptr_row 1 rfl) rfl) <|
     rMv rfl <|
     rwp_det rfl rfl (det_call_mem [0] rfl ok160 (isa_keep _ (((kinds x).take k).foldl (fun u k => keepK u x k) (in0 x.Op)) x q) ⟨VLe.refl _, rfl, VLe.refl _, rfl, VLe.refl _, rfl, trivial⟩ rfl) <|
     rwp_nil <|
     awp_region rfl <|
     rwp_det rfl rfl (det_add_nw rfl rfl rfl ⟨by omega, by omega⟩) <|
     rMv rfl <|
     rwp_nil ?_
    refine ⟨k + 1, ⟨by omega, all_next hq hp c3⟩, (by omega), Weak.mk [true, true] ⟨VLe.refl _, VLe.refl _, VLe.refl _, VLe.refl _, VLe.refl _, trivial⟩ (by show _ = [E.row b2 67 (((kinds x).take (k + 1)).foldl (fun u k => keepK u x k) (in0 x.Op)).cells] ++ _; rw [take_next hq, List.foldl_append]; rfl)⟩
  ·try simp only [sx] at c2
   rw [take_all (l := kinds x) (k := k) (by omega)] at hp
   rw [take_all (l := kinds x) (k := k) (by omega)]
   refine awp_exit <|
    sReg rfl <|
    rwp_det rfl rfl (det_load_agg rfl agg67 rfl (ptr_row 0 rfl) rfl) <|
    rwp_det rfl rfl (det_load_agg rfl agg67 rfl (ptr_row 1 rfl) rfl) <|
    rwp_det rfl rfl (det_aeql2 rfl fk67 rfl rfl rfl) <|
    rMv rfl <|
    rwp_nil <|
    awp_ret <|
    fin1 (rs_c rfl) ?_
   exact congrArg vB (by rw [← wf_yes hkn hp, ← in_lits]; rfl)

theorem isa_valid (x : In) (m t w : Int) :
    Pur cfg 61 [vIn x, vI m, vI t, vI w] (vB (inOk m t w x)) := by
 refine con_intro Tryz.func61 rfl Tryz.ntmps61 Tryz.results61 rfl ?_
 intro z hz
 refine sReg rfl <|
  rwp_op rfl rfl (ope_box rfl rfl) ?_
 rintro _ _ ⟨b1, rfl, rfl⟩
 refine rMv rfl <|
  rwp_nil <|
  awp_seq <|
  awp_block <|
  sReg rfl <|
  rwp_det rfl rfl (det_load_agg rfl agg67 rfl (ptr_row 0 rfl) rfl) <|
  rwp_det rfl rfl (det_call rfl ok108 (isa_wellFormed x) ⟨VLe.refl _, rfl, trivial⟩) <|
  rwp_det rfl rfl (det_not rfl rfl) <|
  rMv rfl <|
  rwp_nil <|
  awp_cond rfl (fun c1 => ?_) (fun c1 => ?_)
 ·have hw : wfP x = false := by simpa using c1
  refine sReg rfl <|
   rMv rfl <|
   rwp_nil <|
   awp_ret <|
   fin1 (rs_c rfl) ?_
  rw [val1 hw]
 ·have hw : wfP x = true := by simpa using c1
  refine sReg rfl <|
   rwp_det rfl rfl (det_field_lit rfl fd67_0 rfl) <|
   rwp_det rfl rfl (det_load_one rfl one3 rfl (ptr_row 0 rfl) rfl) <|
   rwp_det rfl rfl (det_call rfl ok109 (isa_jumps x.Op) ⟨VLe.refl _, rfl, trivial⟩) <|
   rMv rfl <|
   rwp_nil <|
   awp_cond rfl (fun c2 => ?_) (fun c2 => ?_)
  ·try simp only [sx] at c2
   refine sReg rfl <|
    rwp_det rfl rfl (det_field_lit rfl fd67_1 rfl) <|
    rwp_det rfl rfl (det_load_one rfl one3 rfl (ptr_row 0 rfl) rfl) <|
    rMv rfl <|
    rwp_det rfl rfl (det_lss rfl rfl rfl) <|
    rMv rfl <|
    rwp_nil <|
    awp_ret <|
    fin1 (rs_c rfl) ?_
   exact congrArg vB (val2 hw c2)
  ·try simp only [sx] at c2
   have hj : jmpB x.Op = false := by simpa using c2
   refine sReg rfl <|
    rwp_det rfl rfl (det_field_lit rfl fd67_0 rfl) <|
    rwp_det rfl rfl (det_load_one rfl one3 rfl (ptr_row 0 rfl) rfl) <|
    rwp_det rfl rfl (det_eql rfl rfl rfl) <|
    rMv rfl <|
    rLz [] rfl gv1 trivial (fun g5_3 => det_field_lit rfl fd67_0 rfl) rfl <|
    rLz [(26, _)] rfl gv1 ⟨rfl, rfl, trivial⟩ (fun g5_3 => det_load_one rfl one3 rfl (ptr_row 0 rfl) rfl) rfl <|
    rLz [(27, _)] rfl gv1 ⟨rfl, rfl, trivial⟩ (fun g5_3 => det_eql rfl rfl rfl) rfl <|
    rwp_det rfl rfl (det_or rfl rfl rfl rfl (fun h => (lzf h))) <|
    rMv rfl <|
    rwp_nil <|
    awp_cond rfl (fun c3 => ?_) (fun c3 => ?_)
   ·have h3 : x.Op = 10 ∨ x.Op = 11 := by simpa using c3
    refine sReg rfl <|
     rwp_det rfl rfl (det_field_lit rfl fd67_3 rfl) <|
     rwp_det rfl rfl (det_load_one rfl one3 rfl (ptr_row 0 rfl) rfl) <|
     rMv rfl <|
     rwp_det rfl rfl (det_leq rfl rfl rfl) <|
     rMv rfl <|
     rwp_nil <|
     awp_ret <|
     fin1 (rs_c rfl) ?_
    exact congrArg vB (val3 hw hj h3)
   ·have h3 : ¬ (x.Op = 10 ∨ x.Op = 11) := by simpa using c3
    refine sReg rfl <|
     rwp_det rfl rfl (det_field_lit rfl fd67_0 rfl) <|
     rwp_det rfl rfl (det_load_one rfl one3 rfl (ptr_row 0 rfl) rfl) <|
     rwp_det rfl rfl (det_eql rfl rfl rfl) <|
     rMv rfl <|
     rwp_nil <|
     awp_cond rfl (fun c4 => ?_) (fun c4 => ?_)
    ·try simp only [sx] at c4
     refine sReg rfl <|
      rwp_det rfl rfl (det_field_lit rfl fd67_4 rfl) <|
      rwp_det rfl rfl (det_field_lit rfl fd63_0 rfl) <|
      rwp_det rfl rfl (det_load_one rfl one2 rfl (ptr_row 0 rfl) rfl) <|
      rMv rfl <|
      rwp_det rfl rfl (det_lss rfl rfl rfl) <|
      rMv rfl <|
      rwp_nil <|
      awp_ret <|
      fin1 (rs_c rfl) ?_
     exact congrArg vB (val4 hw hj c4)
    ·try simp only [sx] at c4
     refine awp_skip <|
      sReg rfl <|
      rMv rfl <|
      rwp_nil <|
      awp_ret <|
      fin1 (rs_c rfl) ?_
     rw [val5 hw hj h3 c4]

theorem isa_Validate (code : List In) (tys : List Ty) (w : Int) (htl : tys.length ≤ 1000000) :
    Pur cfg 22 [vIns code, vTys tys, vI w] (.tup [vI (vld code tys w).1, vI (vld code tys w).2]) := by
 refine con_intro Tryz.func22 rfl Tryz.ntmps22 Tryz.results22 rfl ?_
 intro z hz
 refine sReg rfl <|
  rMv rfl <|
  rMv rfl <|
  rwp_nil <|
  awp_seq <|
  awp_block <|
  sReg rfl <|
  rMv rfl <|
  rwp_det rfl rfl (det_len_slm rfl el22 rfl) <|
  rwp_det rfl rfl (det_gtr rfl rfl rfl) <|
  rMv rfl <|
  rwp_nil <|
  awp_cond rfl (fun c1 => ?_) (fun c1 => ?_)
 ·try simp only [sx] at c1
  refine sReg rfl <|
   rMv rfl <|
   rMv rfl <|
   rwp_nil <|
   awp_ret <|
   fin2 (rs_c rfl) (rs_c rfl) ?_
  rw [vld1 c1]
 ·try simp only [sx] at c1
  refine sReg rfl <|
   rMv rfl <|
   rwp_det rfl rfl (det_call rfl ok59 (isa_within w 0 1048576) ⟨VLe.refl _, rfl, VLe.refl _, rfl, VLe.refl _, rfl, trivial⟩) <|
   rwp_det rfl rfl (det_not rfl rfl) <|
   rMv rfl <|
   rwp_nil <|
   awp_cond rfl (fun c2 => ?_) (fun c2 => ?_)
  ·have c2 : withinB w 0 1048576 = false := by simpa using c2
   refine sReg rfl <|
    rMv rfl <|
    rMv rfl <|
    rwp_nil <|
    awp_ret <|
    fin2 (rs_c rfl) (rs_c rfl) ?_
   rw [vld2 (by omega) c2]
  ·have c2 : withinB w 0 1048576 = true := by simpa using c2
   refine awp_skip <|
    awp_seq <|
    sReg rfl <|
    rMv rfl <|
    rwp_det rfl rfl (det_len_slm rfl el23 rfl) <|
    rMv rfl <|
    rwp_nil <|
    awp_block <|
    awp_weak ⟨[(22, .c _), (0, .c _), (1, .c _), (2, .c _), (20, .c _), (21, .c _)], []⟩ (Weak.mk [] ⟨VLe.of_eq rfl, VLe.of_eq rfl, VLe.of_eq rfl, VLe.of_eq rfl, VLe.of_eq rfl, VLe.of_eq rfl, trivial⟩ rfl) <|
    awp_loop_k 1 0 rfl rfl (Nat) (fun k => [(22, vI k)]) (fun k => []) (fun k => k ≤ tys.length ∧ ((tys.take k).any (fun t => !tyOk t) = false)) (fun k => tys.length - k) ⟨0, ⟨by omega, rfl⟩, Weak.mk [] ⟨VLe.refl _, VLe.refl _, VLe.refl _, VLe.refl _, VLe.refl _, VLe.refl _, trivial⟩ rfl⟩ ?_
   rintro k ⟨hk, hp⟩
   refine sReg rfl <|
    rwp_det rfl rfl (det_lss rfl rfl rfl) <|
    rwp_nil <|
    awp_seq <|
    awp_cond rfl (fun c3 => ?_) (fun c3 => ?_)
   ·try simp only [sx] at c3
    obtain ⟨x, hx⟩ := ex_get tys k (by omega)
    refine awp_skip <|
     awp_seq <|
     awp_block <|
     sReg rfl <|
     rwp_det rfl rfl (det_index_sl rfl el23 rfl rfl (by omega) (getm (by assumption))) <|
     rwp_det rfl rfl (det_load_agg rfl agg65 rfl ptr_imm rfl) <|
     rwp_op rfl rfl (ope_alloc rfl zr65) ?_
    rintro _ _ ⟨b1, rfl, rfl⟩
    refine rwp_det0 rfl rfl (det_store rfl sz65 rfl rfl rfl (st_row 0 rfl rfl)) <|
     rwp_nil <|
     sReg rfl <|
     rwp_det rfl rfl (det_load_agg rfl agg65 rfl (ptr_row 0 rfl) rfl) <|
     rwp_det rfl rfl (det_call rfl ok60 (value_ValidateType x) ⟨VLe.refl _, rfl, trivial⟩) <|
     rwp_det rfl rfl (det_neq rfl rfl rfl) <|
     rwp_nil <|
     awp_cond rfl (fun c4 => ?_) (fun c4 => ?_)
    ·try simp only [sx] at c4
     have h4 := tyErr_ne c4
     refine sReg rfl <|
      rMv rfl <|
      rMv rfl <|
      rwp_nil <|
      awp_ret <|
      fin2 (rs_c rfl) (rs_c rfl) ?_
     rw [vld3 (by omega) c2 hx h4]
    ·try simp only [sx] at c4
     have h4 : tyOk x = true := tyErr_eq (by omega)
     refine awp_skip <|
      awp_region rfl <|
      rwp_det rfl rfl (det_add_nw rfl rfl rfl ⟨by omega, by omega⟩) <|
      rMv rfl <|
      rwp_nil ?_
     refine ⟨k + 1, ⟨by omega, any_next hx hp (by rw [h4]; rfl)⟩, (by omega), Weak.mk [false] ⟨VLe.refl _, VLe.refl _, VLe.refl _, VLe.refl _, VLe.refl _, VLe.refl _, trivial⟩ rfl⟩
   ·try simp only [sx] at c3
    rw [take_all (l := tys) (k := k) (by omega)] at hp
    refine awp_exit <|
     awp_seq <|
     sReg rfl <|
     rMv rfl <|
     rwp_det rfl rfl (det_len_slm rfl el22 rfl) <|
     rMv rfl <|
     rwp_nil <|
     awp_block <|
     awp_weak ⟨[(32, .c _), (0, .c _), (1, .c _), (2, .c _), (30, .c _), (31, .c _)], []⟩ (Weak.mk [] ⟨VLe.of_eq rfl, VLe.of_eq rfl, VLe.of_eq rfl, VLe.of_eq rfl, VLe.of_eq rfl, VLe.of_eq rfl, trivial⟩ rfl) <|
     awp_loop_k 1 0 rfl rfl (Nat) (fun j => [(32, vI j)]) (fun j => []) (fun j => j ≤ code.length ∧ ((code.take j).any (fun x => !inOk code.length tys.length w x) = false)) (fun j => code.length - j) ⟨0, ⟨by omega, rfl⟩, Weak.mk [] ⟨VLe.refl _, VLe.refl _, VLe.refl _, VLe.refl _, VLe.refl _, VLe.refl _, trivial⟩ rfl⟩ ?_
    rintro j ⟨hj, hr⟩
    refine sReg rfl <|
     rwp_det rfl rfl (det_lss rfl rfl rfl) <|
     rwp_nil <|
     awp_seq <|
     awp_cond rfl (fun c5 => ?_) (fun c5 => ?_)
    ·try simp only [sx] at c5
     obtain ⟨y, hy⟩ := ex_get code j (by omega)
     refine awp_skip <|
      awp_seq <|
      awp_block <|
      sReg rfl <|
      rMv rfl <|
      rwp_det rfl rfl (det_index_sl rfl el22 rfl rfl (by omega) (getm (by assumption))) <|
      rwp_det rfl rfl (det_load_agg rfl agg67 rfl ptr_imm rfl) <|
      rwp_op rfl rfl (ope_alloc rfl zr67) ?_
     rintro _ _ ⟨b2, rfl, rfl⟩
     refine rMv rfl <|
      rwp_det0 rfl rfl (det_store rfl sz67 rfl rfl rfl (st_row 0 rfl rfl)) <|
      rwp_nil <|
      sReg rfl <|
      rwp_det rfl rfl (det_load_agg rfl agg67 rfl (ptr_row 0 rfl) rfl) <|
      rMv rfl <|
      rwp_det rfl rfl (det_len_slm rfl el22 rfl) <|
      rMv rfl <|
      rwp_det rfl rfl (det_len_slm rfl el23 rfl) <|
      rMv rfl <|
      rwp_det rfl rfl (det_call rfl ok61 (isa_valid y code.length tys.length w) ⟨VLe.refl _, rfl, VLe.refl _, rfl, VLe.refl _, rfl, VLe.refl _, rfl, trivial⟩) <|
      rwp_det rfl rfl (det_not rfl rfl) <|
      rwp_nil <|
      awp_cond rfl (fun c6 => ?_) (fun c6 => ?_)
     ·have c6 : (!inOk code.length tys.length w y) = true := c6
      refine sReg rfl <|
       rMv rfl <|
       rMv rfl <|
       rMv rfl <|
       rwp_nil <|
       awp_ret <|
       fin2 (rs_c rfl) (rs_c rfl) ?_
      rw [vldF (by omega) c2 hp, firstBad_at hy c6 hr]
     ·have c6 : (!inOk code.length tys.length w y) = false := c6
      refine awp_skip <|
       awp_region rfl <|
       rwp_det rfl rfl (det_add_nw rfl rfl rfl ⟨by omega, by omega⟩) <|
       rMv rfl <|
       rwp_nil ?_
      refine ⟨j + 1, ⟨by omega, any_next hy hr c6⟩, (by omega), Weak.mk [false] ⟨VLe.refl _, VLe.refl _, VLe.refl _, VLe.refl _, VLe.refl _, VLe.refl _, trivial⟩ rfl⟩
    ·try simp only [sx] at c5
     refine awp_exit <|
      sReg rfl <|
      rMv rfl <|
      rMv rfl <|
      rwp_nil <|
      awp_ret <|
      fin2 (rs_c rfl) (rs_c rfl) ?_
     rw [vldF (by omega) c2 hp, firstBad_no (by omega) hr]

theorem ref47_Mnemonic (op : Int) :
    Pur cfg 112 [vI op] (vS (mnT op)) := by
 refine con_intro Tryz.func112 rfl Tryz.ntmps112 Tryz.results112 rfl ?_
 intro z hz
 refine sReg rfl <|
  rMv rfl <|
  rwp_nil <|
  sReg rfl <|
  rwp_det rfl rfl (det_bslice rfl el123 zr9 rfl rfl rfl rfl) <|
  rMv rfl <|
  rwp_nil <|
  awp_seq <|
  sReg rfl <|
  rMv rfl <|
  rwp_det rfl rfl (det_lss rfl rfl rfl) <|
  rMv rfl <|
  rLz [] rfl gv1 trivial (fun g2_2 => det_move rfl rfl) rfl <|
  rLz [] rfl gv1 trivial (fun g2_2 => det_move rfl rfl) rfl <|
  rLz [(9, _)] rfl gv1 ⟨rfl, rfl, trivial⟩ (fun g2_2 => det_len_sl rfl el123 rfl) rfl <|
  rLz [(8, _), (10, _)] rfl gv1 ⟨rfl, rfl, rfl, rfl, trivial⟩ (fun g2_2 => det_geq rfl rfl rfl) rfl <|
  rwp_det rfl rfl (det_or rfl rfl rfl rfl (fun h => (lzf h))) <|
  rwp_nil <|
  awp_cond rfl (fun c1 => ?_) (fun c1 => ?_)
 ·have c1 : (decide (op < 0) || decide (17 ≤ op)) = true := c1
  refine sReg rfl <|
   rMv rfl <|
   rwp_nil <|
   awp_ret <|
   fin1 (rs_c rfl) ?_
  exact congrArg vS (mn_out c1)
 ·have c1 : (decide (op < 0) || decide (17 ≤ op)) = false := c1
  have h0 : 0 ≤ op := by simp at c1; omega
  have h17 : op < 17 := by simp at c1; omega
  refine awp_skip <|
   sReg rfl <|
   rMv rfl <|
   rMv rfl <|
   rwp_det rfl rfl (det_index_sl rfl el123 rfl rfl (by omega) (by exact mn_get h0 h17)) <|
   rwp_det rfl rfl (det_load_one rfl one9 rfl ptr_imm rfl) <|
   rMv rfl <|
   rwp_nil <|
   awp_ret <|
   fin1 (rs_c rfl) ?_
  exact congrArg vS (mn_known h0 h17)

theorem ref47_operands (op : Int) (h0 : 0 ≤ op) (h17 : op < 17) :
    Pur cfg 113 [vI op] (vS (opTab.getD op.toNat (bs []))) := by
 refine con_intro Tryz.func113 rfl Tryz.ntmps113 Tryz.results113 rfl ?_
 intro z hz
 refine sReg rfl <|
  rMv rfl <|
  rwp_nil <|
  sReg rfl <|
  rwp_det rfl rfl (det_bslice rfl el123 zr9 rfl rfl rfl rfl) <|
  rMv rfl <|
  rwp_nil <|
  sReg rfl <|
  rMv rfl <|
  rMv rfl <|
  rwp_det rfl rfl (det_index_sl rfl el123 rfl rfl (by omega) (by exact op_get h0 h17)) <|
  rwp_det rfl rfl (det_load_one rfl one9 rfl ptr_imm rfl) <|
  rMv rfl <|
  rwp_nil <|
  awp_ret <|
  fin1 (rs_c rfl) ?_
 exact rfl

theorem ref47_field (k n : Int) :
    Pur cfg 114 [vU k, vI n] (vB (fldB k n)) := by
 refine con_intro Tryz.func114 rfl Tryz.ntmps114 Tryz.results114 rfl ?_
 intro z hz
 refine sReg rfl <|
  rMv rfl <|
  rwp_nil <|
  awp_seq <|
  sReg rfl <|
  rMv rfl <|
  rwp_nil <|
  awp_block <|
  sReg rfl <|
  rwp_det rfl rfl (det_eql rfl rfl rfl) <|
  rMv rfl <|
  rwp_nil <|
  awp_cond rfl (fun c1 => ?_) (fun c1 => ?_)
 ·try simp only [sx] at c1
  refine sReg rfl <|
   rMv rfl <|
   rwp_det rfl rfl (det_eql rfl rfl rfl) <|
   rMv rfl <|
   rwp_nil <|
   awp_ret <|
   fin1 (rs_c rfl) ?_
  exact congrArg vB (by unfold fldB num31; simp [*])
 ·try simp only [sx] at c1
  refine awp_seq <|
   sReg rfl <|
   rwp_det rfl rfl (det_eql rfl rfl rfl) <|
   rMv rfl <|
   rwp_nil <|
   awp_cond rfl (fun c2 => ?_) (fun c2 => ?_)
  ·try simp only [sx] at c2
   refine awp_skip <|
    awp_cond rfl (fun c3 => ?_) (fun c3 => ?_)
   ·try simp only [sx] at c3
    refine sReg rfl <|
     rMv rfl <|
     rwp_det rfl rfl (det_geq rfl rfl rfl) <|
     rMv rfl <|
     rLz [] rfl gv1 trivial (fun g6_2 => det_move rfl rfl) rfl <|
     rLz [(16, _)] rfl gv1 ⟨rfl, rfl, trivial⟩ (fun g6_2 => det_leq rfl rfl rfl) rfl <|
     rwp_det rfl rfl (det_and rfl rfl rfl (fun h => h) rfl) <|
     rMv rfl <|
     rwp_nil <|
     awp_ret <|
     fin1 (rs_c rfl) ?_
    exact congrArg vB (by unfold fldB num31; simp [*])
   ·try simp only [sx] at c3
    exact absurd c2 c3
  ·try simp only [sx] at c2
   refine awp_region rfl <|
    rwp_det rfl rfl (det_eql rfl rfl rfl) <|
    rMv rfl <|
    rwp_nil <|
    awp_cond rfl (fun c3 => ?_) (fun c3 => ?_)
   ·try simp only [sx] at c3
    refine sReg rfl <|
     rMv rfl <|
     rwp_det rfl rfl (det_geq rfl rfl rfl) <|
     rMv rfl <|
     rLz [] rfl gv1 trivial (fun g6_2 => det_move rfl rfl) rfl <|
     rLz [(16, _)] rfl gv1 ⟨rfl, rfl, trivial⟩ (fun g6_2 => det_leq rfl rfl rfl) rfl <|
     rwp_det rfl rfl (det_and rfl rfl rfl (fun h => h) rfl) <|
     rMv rfl <|
     rwp_nil <|
     awp_ret <|
     fin1 (rs_c rfl) ?_
    exact congrArg vB (by unfold fldB num31; simp [*])
   ·try simp only [sx] at c3
    refine sReg rfl <|
     rwp_det rfl rfl (det_eql rfl rfl rfl) <|
     rMv rfl <|
     rwp_nil <|
     awp_cond rfl (fun c4 => ?_) (fun c4 => ?_)
    ·try simp only [sx] at c4
     refine sReg rfl <|
      rMv rfl <|
      rwp_det rfl rfl (det_geq rfl rfl rfl) <|
      rMv rfl <|
      rLz [] rfl gv1 trivial (fun g8_2 => det_move rfl rfl) rfl <|
      rLz [(24, _)] rfl gv1 ⟨rfl, rfl, trivial⟩ (fun g8_2 => det_lss rfl rfl rfl) rfl <|
      rwp_det rfl rfl (det_and rfl rfl rfl (fun h => h) rfl) <|
      rMv rfl <|
      rwp_nil <|
      awp_ret <|
      fin1 (rs_c rfl) ?_
     exact congrArg vB (by unfold fldB num31; simp [*])
    ·try simp only [sx] at c4
     refine sReg rfl <|
      rwp_det rfl rfl (det_eql rfl rfl rfl) <|
      rMv rfl <|
      rwp_nil <|
      awp_cond rfl (fun c5 => ?_) (fun c5 => ?_)
     ·try simp only [sx] at c5
      refine sReg rfl <|
       rMv rfl <|
       rwp_det rfl rfl (det_geq rfl rfl rfl) <|
       rMv rfl <|
       rLz [] rfl gv1 trivial (fun g10_2 => det_move rfl rfl) rfl <|
       rLz [(32, _)] rfl gv1 ⟨rfl, rfl, trivial⟩ (fun g10_2 => det_leq rfl rfl rfl) rfl <|
       rwp_det rfl rfl (det_and rfl rfl rfl (fun h => h) rfl) <|
       rMv rfl <|
       rwp_nil <|
       awp_ret <|
       fin1 (rs_c rfl) ?_
      exact congrArg vB (by unfold fldB num31; simp [*])
     ·try simp only [sx] at c5
      refine sReg rfl <|
       rwp_det rfl rfl (det_eql rfl rfl rfl) <|
       rMv rfl <|
       rwp_nil <|
       awp_cond rfl (fun c6 => ?_) (fun c6 => ?_)
      ·try simp only [sx] at c6
       refine sReg rfl <|
        rMv rfl <|
        rwp_det rfl rfl (det_geq rfl rfl rfl) <|
        rMv rfl <|
        rLz [] rfl gv1 trivial (fun g12_2 => det_move rfl rfl) rfl <|
        rLz [(40, _)] rfl gv1 ⟨rfl, rfl, trivial⟩ (fun g12_2 => det_leq rfl rfl rfl) rfl <|
        rwp_det rfl rfl (det_and rfl rfl rfl (fun h => h) rfl) <|
        rMv rfl <|
        rwp_nil <|
        awp_ret <|
        fin1 (rs_c rfl) ?_
       exact congrArg vB (by unfold fldB num31; simp [*])
      ·try simp only [sx] at c6
       refine awp_skip <|
        sReg rfl <|
        rMv rfl <|
        rwp_det rfl rfl (det_geq rfl rfl rfl) <|
        rMv rfl <|
        rLz [] rfl gv1 trivial (fun g13_2 => det_move rfl rfl) rfl <|
        rLz [(46, _)] rfl gv1 ⟨rfl, rfl, trivial⟩ (fun g13_2 => det_leq rfl rfl rfl) rfl <|
        rwp_det rfl rfl (det_and rfl rfl rfl (fun h => h) rfl) <|
        rMv rfl <|
        rwp_nil <|
        awp_ret <|
        fin1 (rs_c rfl) ?_
       exact congrArg vB (by unfold fldB num31; simp [*])

theorem ref47_number (v : Vl) (a b : Int) :
    Pur cfg 162 [vVal v, vI a, vI b] (vB (numB v a b)) := by
 refine con_intro Tryz.func162 rfl Tryz.ntmps162 Tryz.results162 rfl ?_
 intro z hz
 refine sReg rfl <|
  rwp_op rfl rfl (ope_box rfl rfl) ?_
 rintro _ _ ⟨b1, rfl, rfl⟩
 refine rMv rfl <|
  rwp_nil <|
  sReg rfl <|
  rwp_det rfl rfl (det_field_lit rfl fd63_1 rfl) <|
  rwp_det rfl rfl (det_load_one rfl one2 rfl (ptr_row 0 rfl) rfl) <|
  rwp_det rfl rfl (det_eql rfl rfl rfl) <|
  rMv rfl <|
  rLz [] rfl gv1 trivial (fun g1_3 => det_field_lit rfl fd63_0 rfl) rfl <|
  rLz [(11, _)] rfl gv1 ⟨rfl, rfl, trivial⟩ (fun g1_3 => det_load_one rfl one2 rfl (ptr_row 0 rfl) rfl) rfl <|
  rLz [] rfl gv1 trivial (fun g1_3 => det_move rfl rfl) rfl <|
  rLz [(12, _), (13, _)] rfl gv1 ⟨rfl, rfl, rfl, rfl, trivial⟩ (fun g1_3 => det_geq rfl rfl rfl) rfl <|
  rwp_det rfl rfl (det_and rfl rfl rfl (fun h => h) rfl) <|
  rMv rfl <|
  rLz [] rfl gv1 trivial (fun g1_9 => det_field_lit rfl fd63_0 rfl) rfl <|
  rLz [(17, _)] rfl gv1 ⟨rfl, rfl, trivial⟩ (fun g1_9 => det_load_one rfl one2 rfl (ptr_row 0 rfl) rfl) rfl <|
  rLz [] rfl gv1 trivial (fun g1_9 => det_move rfl rfl) rfl <|
  rLz [(18, _), (19, _)] rfl gv1 ⟨rfl, rfl, rfl, rfl, trivial⟩ (fun g1_9 => det_leq rfl rfl rfl) rfl <|
  rwp_det rfl rfl (det_and rfl rfl rfl (fun h => h) rfl) <|
  rMv rfl <|
  rwp_nil <|
  awp_ret <|
  fin1 (rs_c rfl) ?_
 exact rfl

theorem ref47_typed (op : Int) :
    Pur cfg 116 [vI op] (vB (typedB op)) := by
 refine con_intro Tryz.func116 rfl Tryz.ntmps116 Tryz.results116 rfl ?_
 intro z hz
 refine sReg rfl <|
  rMv rfl <|
  rwp_nil <|
  sReg rfl <|
  rMv rfl <|
  rwp_det rfl rfl (det_eql rfl rfl rfl) <|
  rMv rfl <|
  rLz [] rfl gv1 trivial (fun g1_2 => det_move rfl rfl) rfl <|
  rLz [(6, _)] rfl gv1 ⟨rfl, rfl, trivial⟩ (fun g1_2 => det_eql rfl rfl rfl) rfl <|
  rwp_det rfl rfl (det_or rfl rfl rfl rfl (fun h => (lzf h))) <|
  rMv rfl <|
  rLz [] rfl gv1 trivial (fun g1_6 => det_move rfl rfl) rfl <|
  rLz [(10, _)] rfl gv1 ⟨rfl, rfl, trivial⟩ (fun g1_6 => det_eql rfl rfl rfl) rfl <|
  rwp_det rfl rfl (det_or rfl rfl rfl rfl (fun h => (lzf h))) <|
  rMv rfl <|
  rwp_nil <|
  awp_ret <|
  fin1 (rs_c rfl) ?_
 exact rfl

theorem ref47_Jumps (op : Int) :
    Pur cfg 65 [vI op] (vB (jmpB op)) := by
 refine con_intro Tryz.func65 rfl Tryz.ntmps65 Tryz.results65 rfl ?_
 intro z hz
 refine sReg rfl <|
  rMv rfl <|
  rwp_nil <|
  sReg rfl <|
  rMv rfl <|
  rwp_det rfl rfl (det_eql rfl rfl rfl) <|
  rMv rfl <|
  rLz [] rfl gv1 trivial (fun g1_2 => det_move rfl rfl) rfl <|
  rLz [(6, _)] rfl gv1 ⟨rfl, rfl, trivial⟩ (fun g1_2 => det_eql rfl rfl rfl) rfl <|
  rwp_det rfl rfl (det_or rfl rfl rfl rfl (fun h => (lzf h))) <|
  rMv rfl <|
  rLz [] rfl gv1 trivial (fun g1_6 => det_move rfl rfl) rfl <|
  rLz [(10, _)] rfl gv1 ⟨rfl, rfl, trivial⟩ (fun g1_6 => det_eql rfl rfl rfl) rfl <|
  rwp_det rfl rfl (det_or rfl rfl rfl rfl (fun h => (lzf h))) <|
  rMv rfl <|
  rwp_nil <|
  awp_ret <|
  fin1 (rs_c rfl) ?_
 exact rfl

theorem ref47_val (x : In) :
    Pur cfg 115 [vIn x] (vB (vaB x)) := by
 refine con_intro Tryz.func115 rfl Tryz.ntmps115 Tryz.results115 rfl ?_
 intro z hz
 refine sReg rfl <|
  rwp_op rfl rfl (ope_box rfl rfl) ?_
 rintro _ _ ⟨b1, rfl, rfl⟩
 refine rMv rfl <|
  rwp_nil <|
  awp_seq <|
  sReg rfl <|
  rwp_det rfl rfl (det_field_lit rfl fd67_0 rfl) <|
  rwp_det rfl rfl (det_load_one rfl one3 rfl (ptr_row 0 rfl) rfl) <|
  rwp_nil <|
  awp_block <|
  sReg rfl <|
  rwp_det rfl rfl (det_eql rfl rfl rfl) <|
  rMv rfl <|
  rwp_nil <|
  awp_cond rfl (fun c1 => ?_) (fun c1 => ?_)
 ·try simp only [sx] at c1
  refine sReg rfl <|
   rwp_det rfl rfl (det_build rfl zr65 pl65 rfl) <|
   rwp_det rfl rfl (det_field_lit rfl fd67_4 rfl) <|
   rwp_det rfl rfl (det_load_agg rfl agg63 rfl (ptr_row 0 rfl) rfl) <|
   rwp_det rfl rfl (det_call rfl ok161 (base_Val tFr x.Val (by decide)) ⟨VLe.refl _, rfl, VLe.refl _, rfl, trivial⟩) <|
   rMv rfl <|
   rwp_nil <|
   awp_ret <|
   fin1 (rs_c rfl) ?_
  exact congrArg vB (by unfold vaB; simp [*]; rfl)
 ·try simp only [sx] at c1
  refine awp_seq <|
   sReg rfl <|
   rwp_det rfl rfl (det_eql rfl rfl rfl) <|
   rMv rfl <|
   rwp_nil <|
   awp_cond rfl (fun c2 => ?_) (fun c2 => ?_)
  ·try simp only [sx] at c2
   refine awp_skip <|
    awp_cond rfl (fun c3 => ?_) (fun c3 => ?_)
   ·try simp only [sx] at c3
    refine sReg rfl <|
     rwp_det rfl rfl (det_field_lit rfl fd67_4 rfl) <|
     rwp_det rfl rfl (det_load_agg rfl agg63 rfl (ptr_row 0 rfl) rfl) <|
     rwp_det rfl rfl (det_field_lit rfl fd67_3 rfl) <|
     rwp_det rfl rfl (det_load_one rfl one3 rfl (ptr_row 0 rfl) rfl) <|
     rwp_det rfl rfl (det_call rfl ok162 (ref47_number _ _ _) ⟨VLe.refl _, rfl, VLe.refl _, rfl, VLe.refl _, rfl, trivial⟩) <|
     rMv rfl <|
     rwp_nil <|
     awp_ret <|
     fin1 (rs_c rfl) ?_
    exact congrArg vB (by unfold vaB; simp [*])
   ·try simp only [sx] at c3
    exact absurd c2 c3
  ·try simp only [sx] at c2
   refine awp_region rfl <|
    rwp_det rfl rfl (det_eql rfl rfl rfl) <|
    rMv rfl <|
    rwp_nil <|
    awp_cond rfl (fun c3 => ?_) (fun c3 => ?_)
   ·try simp only [sx] at c3
    refine sReg rfl <|
     rwp_det rfl rfl (det_field_lit rfl fd67_4 rfl) <|
     rwp_det rfl rfl (det_load_agg rfl agg63 rfl (ptr_row 0 rfl) rfl) <|
     rwp_det rfl rfl (det_field_lit rfl fd67_3 rfl) <|
     rwp_det rfl rfl (det_load_one rfl one3 rfl (ptr_row 0 rfl) rfl) <|
     rwp_det rfl rfl (det_call rfl ok162 (ref47_number _ _ _) ⟨VLe.refl _, rfl, VLe.refl _, rfl, VLe.refl _, rfl, trivial⟩) <|
     rMv rfl <|
     rwp_nil <|
     awp_ret <|
     fin1 (rs_c rfl) ?_
    exact congrArg vB (by unfold vaB; simp [*])
   ·try simp only [sx] at c3
    refine sReg rfl <|
     rwp_det rfl rfl (det_eql rfl rfl rfl) <|
     rMv rfl <|
     rwp_nil <|
     awp_cond rfl (fun c4 => ?_) (fun c4 => ?_)
    ·try simp only [sx] at c4
     refine sReg rfl <|
      rwp_det rfl rfl (det_field_lit rfl fd67_4 rfl) <|
      rwp_det rfl rfl (det_load_agg rfl agg63 rfl (ptr_row 0 rfl) rfl) <|
      rwp_det rfl rfl (det_call rfl ok162 (ref47_number _ _ _) ⟨VLe.refl _, rfl, VLe.refl _, rfl, VLe.refl _, rfl, trivial⟩) <|
      rMv rfl <|
      rLz [] rfl gv1 trivial (fun g8_3 => det_field_lit rfl fd67_4 rfl) rfl <|
      rLz [(25, _)] rfl gv1 ⟨rfl, rfl, trivial⟩ (fun g8_3 => det_field_lit rfl fd63_0 rfl) rfl <|
      rLz [(26, _)] rfl gv1 ⟨rfl, rfl, trivial⟩ (fun g8_3 => det_load_one rfl one2 rfl (ptr_row 0 rfl) rfl) rfl <|
      rLz [(27, _)] rfl gv1 ⟨rfl, rfl, trivial⟩ (fun g8_3 => det_neq rfl rfl rfl) rfl <|
      rLz [(28, _)] rfl gv1 ⟨rfl, rfl, trivial⟩ (fun g8_3 => det_move rfl rfl) rfl <|
      rLz [] rfl gv2 trivial (fun g8_8 => det_field_lit rfl fd67_3 rfl) rfl <|
      rLz [(30, _)] rfl gv2 ⟨rfl, rfl, trivial⟩ (fun g8_8 => det_load_one rfl one3 rfl (ptr_row 0 rfl) rfl) rfl <|
      rLz [(31, _)] rfl gv2 ⟨rfl, rfl, trivial⟩ (fun g8_8 => det_eql rfl rfl rfl) rfl <|
      rLz [(29, _)] rfl gv1 ⟨rfl, rfl, trivial⟩ (fun g8_3 => det_or rfl rfl rfl rfl (fun h => and_mk (by assumption) (lzf h))) rfl <|
      rwp_det rfl rfl (det_and rfl rfl rfl (fun h => h) rfl) <|
      rMv rfl <|
      rwp_nil <|
      awp_ret <|
      fin1 (rs_c rfl) ?_
     exact congrArg vB (by unfold vaB; simp [*])
    ·try simp only [sx] at c4
     refine sReg rfl <|
      rwp_det rfl rfl (det_eql rfl rfl rfl) <|
      rMv rfl <|
      rwp_nil <|
      awp_cond rfl (fun c5 => ?_) (fun c5 => ?_)
     ·try simp only [sx] at c5
      refine sReg rfl <|
       rwp_det rfl rfl (det_field_lit rfl fd67_4 rfl) <|
       rwp_det rfl rfl (det_load_agg rfl agg63 rfl (ptr_row 0 rfl) rfl) <|
       rwp_det rfl rfl (det_call rfl ok162 (ref47_number _ _ _) ⟨VLe.refl _, rfl, VLe.refl _, rfl, VLe.refl _, rfl, trivial⟩) <|
       rMv rfl <|
       rwp_nil <|
       awp_ret <|
       fin1 (rs_c rfl) ?_
      exact congrArg vB (by unfold vaB; simp [*])
     ·try simp only [sx] at c5
      refine sReg rfl <|
       rwp_det rfl rfl (det_eql rfl rfl rfl) <|
       rMv rfl <|
       rwp_nil <|
       awp_cond rfl (fun c6 => ?_) (fun c6 => ?_)
      ·try simp only [sx] at c6
       refine sReg rfl <|
        rwp_det rfl rfl (det_field_lit rfl fd67_4 rfl) <|
        rwp_det rfl rfl (det_load_agg rfl agg63 rfl (ptr_row 0 rfl) rfl) <|
        rwp_det rfl rfl (det_call rfl ok162 (ref47_number _ _ _) ⟨VLe.refl _, rfl, VLe.refl _, rfl, VLe.refl _, rfl, trivial⟩) <|
        rMv rfl <|
        rwp_nil <|
        awp_ret <|
        fin1 (rs_c rfl) ?_
       exact congrArg vB (by unfold vaB; simp [*])
      ·try simp only [sx] at c6
       refine awp_skip <|
        sReg rfl <|
        rwp_det rfl rfl (det_field_lit rfl fd67_4 rfl) <|
        rwp_det rfl rfl (det_load_agg rfl agg63 rfl (ptr_row 0 rfl) rfl) <|
        rwp_det rfl rfl (det_build rfl zr63 pl63 rfl) <|
        rwp_det rfl rfl (det_aeql rfl fl63 rfl rfl rfl) <|
        rMv rfl <|
        rwp_nil <|
        awp_ret <|
        fin1 (rs_c rfl) ?_
       exact congrArg vB (by unfold vaB val0; simp [*]; rfl)

theorem ref47_Formed (x : In) :
    Pur cfg 64 [vIn x] (vB (fmd x)) := by
 refine con_intro Tryz.func64 rfl Tryz.ntmps64 Tryz.results64 rfl ?_
 intro z hz
 refine sReg rfl <|
  rwp_op rfl rfl (ope_box rfl rfl) ?_
 rintro _ _ ⟨b1, rfl, rfl⟩
 refine rMv rfl <|
  rwp_nil <|
  awp_seq <|
  sReg rfl <|
  rwp_det rfl rfl (det_field_lit rfl fd67_0 rfl) <|
  rwp_det rfl rfl (det_load_one rfl one3 rfl (ptr_row 0 rfl) rfl) <|
  rwp_det rfl rfl (det_call rfl ok112 (ref47_Mnemonic x.Op) ⟨VLe.refl _, rfl, trivial⟩) <|
  rwp_det rfl rfl (det_seql rfl rfl rfl) <|
  rwp_nil <|
  awp_cond rfl (fun c1 => ?_) (fun c1 => ?_)
 ·try simp only [sx] at c1
  have hk := mn_empty.1 c1
  refine sReg rfl <|
   rMv rfl <|
   rwp_nil <|
   awp_ret <|
   fin1 (rs_c rfl) ?_
  rw [fmd0 hk]
 ·try simp only [sx] at c1
  have hk : knownB x.Op = true := by cases h : knownB x.Op; exact absurd (mn_empty.2 h) c1; rfl
  obtain ⟨h0, h17⟩ := known_in hk
  have hsz := op_size h0 h17
  refine awp_skip <|
   sReg rfl <|
   rwp_det rfl rfl (det_field_lit rfl fd67_0 rfl) <|
   rwp_det rfl rfl (det_load_one rfl one3 rfl (ptr_row 0 rfl) rfl) <|
   rwp_det rfl rfl (det_call rfl ok113 (ref47_operands x.Op h0 h17) ⟨VLe.refl _, rfl, trivial⟩) <|
   rMv rfl <|
   rwp_nil <|
   awp_seq <|
   awp_seq <|
   awp_draw 27 mixed (by kernel_rfl) rfl rfl <|
   td_det rfl rfl (det_move rfl rfl) <|
   td_det rfl rfl (det_sindexD rfl un9 rfl rfl (by omega) (by omega)) <|
   td_det rfl rfl (det_field_lit rfl fd67_1 rfl) <|
   td_det rfl rfl (det_load_one rfl one3 rfl (ptr_row 0 rfl) rfl) <|
   td_det rfl rfl (det_call rfl ok114 (ref47_field _ x.A) ⟨VLe.refl _, rfl, VLe.refl _, rfl, trivial⟩) <|
   td_det rfl rfl (det_not rfl rfl) <|
   td_det rfl rfl (det_move rfl rfl) <|
   td_lazy [] rfl rfl rfl rfl gv1 trivial (fun g4_6 => det_move rfl rfl) rfl <|
   td_lazy [(18, _)] rfl rfl rfl rfl gv1 ⟨rfl, rfl, trivial⟩ (fun g4_6 => det_sindexD rfl un9 rfl rfl (by omega) (by omega)) rfl <|
   td_lazy [] rfl rfl rfl rfl gv1 trivial (fun g4_6 => det_field_lit rfl fd67_2 rfl) rfl <|
   td_lazy [(20, _)] rfl rfl rfl rfl gv1 ⟨rfl, rfl, trivial⟩ (fun g4_6 => det_load_one rfl one3 rfl (ptr_row 0 rfl) rfl) rfl <|
   td_lazy [(19, _), (21, _)] rfl rfl rfl rfl gv1 ⟨rfl, rfl, rfl, rfl, trivial⟩ (fun g4_6 => det_call rfl ok114 (ref47_field _ x.B) ⟨VLe.refl _, rfl, VLe.refl _, rfl, trivial⟩) rfl <|
   td_lazy [(22, _)] rfl rfl rfl rfl gv1 ⟨rfl, rfl, trivial⟩ (fun g4_6 => det_not rfl rfl) rfl <|
   td_det rfl rfl (det_or rfl rfl rfl rfl (fun h => (lzf h))) <|
   td_det rfl rfl (det_move rfl rfl) <|
   td_lazy [] rfl rfl rfl rfl gv1 trivial (fun g4_14 => det_move rfl rfl) rfl <|
   td_lazy [(26, _)] rfl rfl rfl rfl gv1 ⟨rfl, rfl, trivial⟩ (fun g4_14 => det_sindexD rfl un9 rfl rfl (by omega) (by omega)) rfl <|
   td_lazy [] rfl rfl rfl rfl gv1 trivial (fun g4_14 => det_field_lit rfl fd67_3 rfl) rfl <|
   td_lazy [(28, _)] rfl rfl rfl rfl gv1 ⟨rfl, rfl, trivial⟩ (fun g4_14 => det_load_one rfl one3 rfl (ptr_row 0 rfl) rfl) rfl <|
   td_lazy [(27, _), (29, _)] rfl rfl rfl rfl gv1 ⟨rfl, rfl, rfl, rfl, trivial⟩ (fun g4_14 => det_call rfl ok114 (ref47_field _ x.C) ⟨VLe.refl _, rfl, VLe.refl _, rfl, trivial⟩) rfl <|
   td_lazy [(30, _)] rfl rfl rfl rfl gv1 ⟨rfl, rfl, trivial⟩ (fun g4_14 => det_not rfl rfl) rfl <|
   td_det rfl rfl (det_or rfl rfl rfl rfl (fun h => (lzf h))) <|
   td_det rfl rfl (det_move rfl rfl) <|
   td_lazy [] rfl rfl rfl rfl gv1 trivial (fun g4_22 => det_load_agg rfl agg67 rfl (ptr_row 0 rfl) rfl) rfl <|
   td_lazy [(34, _)] rfl rfl rfl rfl gv1 ⟨rfl, rfl, trivial⟩ (fun g4_22 => det_call rfl ok115 (ref47_val x) ⟨VLe.refl _, rfl, trivial⟩) rfl <|
   td_lazy [(35, _)] rfl rfl rfl rfl gv1 ⟨rfl, rfl, trivial⟩ (fun g4_22 => det_not rfl rfl) rfl <|
   td_det rfl rfl (det_or rfl rfl rfl rfl (fun h => (lzf h))) <|
   td_nil <|
   rwp_nil <|
   awp_cond rfl (fun c2 => ?_) (fun c2 => ?_)
  ·have c2 : (((!fldB (opAt x.Op 0) x.A || !fldB (opAt x.Op 1) x.B) || !fldB (opAt x.Op 2) x.C) || !vaB x) = true := c2
   refine sReg rfl <|
    rMv rfl <|
    rwp_nil <|
    awp_ret <|
    fin1 (rs_c rfl) ?_
   rw [fmd1 hk c2]
  ·have c2 : (((!fldB (opAt x.Op 0) x.A || !fldB (opAt x.Op 1) x.B) || !fldB (opAt x.Op 2) x.C) || !vaB x) = false := c2
   refine awp_skip <|
    awp_seq <|
    sReg rfl <|
    rwp_det rfl rfl (det_field_lit rfl fd67_0 rfl) <|
    rwp_det rfl rfl (det_load_one rfl one3 rfl (ptr_row 0 rfl) rfl) <|
    rwp_det rfl rfl (det_call rfl ok116 (ref47_typed x.Op) ⟨VLe.refl _, rfl, trivial⟩) <|
    rwp_nil <|
    awp_cond rfl (fun c3 => ?_) (fun c3 => ?_)
   ·try simp only [sx] at c3
    refine sReg rfl <|
     rwp_det rfl rfl (det_field_lit rfl fd67_5 rfl) <|
     rwp_det rfl rfl (det_load_agg rfl agg65 rfl (ptr_row 0 rfl) rfl) <|
     rwp_det rfl rfl (det_call rfl ok63 (base_Type x.Ty) ⟨VLe.refl _, rfl, trivial⟩) <|
     rMv rfl <|
     rwp_nil <|
     awp_ret <|
     fin1 (rs_c rfl) ?_
    rw [fmd2 hk c2, c3]; rfl
   ·try simp only [sx] at c3
    refine awp_skip <|
     sReg rfl <|
     rwp_det rfl rfl (det_field_lit rfl fd67_5 rfl) <|
     rwp_det rfl rfl (det_load_agg rfl agg65 rfl (ptr_row 0 rfl) rfl) <|
     rwp_det rfl rfl (det_build rfl zr65 pl65 rfl) <|
     rwp_det rfl rfl (det_aeql rfl fl65 rfl rfl rfl) <|
     rMv rfl <|
     rwp_nil <|
     awp_ret <|
     fin1 (rs_c rfl) ?_
    rw [fmd2 hk c2, show typedB x.Op = false by simpa using c3]; rfl

theorem ref47_Validate (code : List In) (tys : List Ty) (w : Int) (htl : tys.length ≤ 1000000) :
    Pur cfg 27 [vIns code, vTys tys, vI w] (.tup [vI (vld code tys w).1, vI (vld code tys w).2]) := by
 refine con_intro Tryz.func27 rfl Tryz.ntmps27 Tryz.results27 rfl ?_
 intro z hz
 refine sReg rfl <|
  rMv rfl <|
  rMv rfl <|
  rwp_nil <|
  awp_seq <|
  sReg rfl <|
  rMv rfl <|
  rwp_det rfl rfl (det_len_slm rfl el22 rfl) <|
  rwp_det rfl rfl (det_gtr rfl rfl rfl) <|
  rwp_nil <|
  awp_cond rfl (fun c1 => ?_) (fun c1 => ?_)
 ·try simp only [sx] at c1
  refine sReg rfl <|
   rMv rfl <|
   rMv rfl <|
   rwp_nil <|
   awp_ret <|
   fin2 (rs_c rfl) (rs_c rfl) ?_
  rw [vld1 c1]
 ·try simp only [sx] at c1
  refine awp_skip <|
   awp_seq <|
   sReg rfl <|
   rMv rfl <|
   rwp_det rfl rfl (det_lss rfl rfl rfl) <|
   rMv rfl <|
   rLz [] rfl gv1 trivial (fun g3_2 => det_move rfl rfl) rfl <|
   rLz [(17, _)] rfl gv1 ⟨rfl, rfl, trivial⟩ (fun g3_2 => det_gtr rfl rfl rfl) rfl <|
   rwp_det rfl rfl (det_or rfl rfl rfl rfl (fun h => (lzf h))) <|
   rwp_nil <|
   awp_cond rfl (fun c2 => ?_) (fun c2 => ?_)
  ·try simp only [sx] at c2
   have c2 : withinB w 0 1048576 = false := by unfold withinB; simp; omega
   refine sReg rfl <|
    rMv rfl <|
    rMv rfl <|
    rwp_nil <|
    awp_ret <|
    fin2 (rs_c rfl) (rs_c rfl) ?_
   rw [vld2 (by omega) c2]
  ·try simp only [sx] at c2
   have c2 : withinB w 0 1048576 = true := by unfold withinB; simp; omega
   refine awp_skip <|
    awp_seq <|
    sReg rfl <|
    rMv rfl <|
    rwp_nil <|
    awp_block <|
    awp_weak ⟨[(8, .c _), (0, .c _), (1, .c _), (2, .c _)], []⟩ (Weak.mk [] ⟨VLe.of_eq rfl, VLe.of_eq rfl, VLe.of_eq rfl, VLe.of_eq rfl, trivial⟩ rfl) <|
    awp_loop_k 1 0 rfl rfl (Nat) (fun k => [(8, vI k)]) (fun k => []) (fun k => k ≤ tys.length ∧ ((tys.take k).any (fun t => !tyOk t) = false)) (fun k => tys.length - k) ⟨0, ⟨by omega, rfl⟩, Weak.mk [] ⟨VLe.refl _, VLe.refl _, VLe.refl _, VLe.refl _, trivial⟩ rfl⟩ ?_
   rintro k ⟨hk, hp⟩
   refine awp_seq <|
    sReg rfl <|
    rMv rfl <|
    rMv rfl <|
    rwp_det rfl rfl (det_len_slm rfl el23 rfl) <|
    rwp_det rfl rfl (det_lss rfl rfl rfl) <|
    rwp_nil <|
    awp_cond rfl (fun c3 => ?_) (fun c3 => ?_)
   ·try simp only [sx] at c3
    obtain ⟨x, hx⟩ := ex_get tys k (by omega)
    refine awp_skip <|
     awp_seq <|
     awp_block <|
     sReg rfl <|
     rMv rfl <|
     rMv rfl <|
     rwp_det rfl rfl (det_index_sl rfl el23 rfl rfl (by omega) (getm (by assumption))) <|
     rwp_det rfl rfl (det_load_agg rfl agg65 rfl ptr_imm rfl) <|
     rwp_det rfl rfl (det_call rfl ok63 (base_Type x) ⟨VLe.refl _, rfl, trivial⟩) <|
     rwp_det rfl rfl (det_not rfl rfl) <|
     rwp_nil <|
     awp_cond rfl (fun c4 => ?_) (fun c4 => ?_)
    ·try simp only [sx] at c4
     have h4 : tyOk x = false := by simpa using c4
     refine sReg rfl <|
      rMv rfl <|
      rMv rfl <|
      rwp_nil <|
      awp_ret <|
      fin2 (rs_c rfl) (rs_c rfl) ?_
     rw [vld3 (by omega) c2 hx h4]
    ·try simp only [sx] at c4
     have h4 : tyOk x = true := by simpa using c4
     refine awp_skip <|
      awp_region rfl <|
      rMv rfl <|
      rwp_det rfl rfl (det_add_nw rfl rfl rfl ⟨by omega, by omega⟩) <|
      rMv rfl <|
      rwp_nil ?_
     refine ⟨k + 1, ⟨by omega, any_next hx hp (by rw [h4]; rfl)⟩, (by omega), Weak.mk [] ⟨VLe.refl _, VLe.refl _, VLe.refl _, VLe.refl _, trivial⟩ rfl⟩
   ·try simp only [sx] at c3
    rw [take_all (l := tys) (k := k) (by omega)] at hp
    refine awp_exit <|
     awp_seq <|
     sReg rfl <|
     rMv rfl <|
     rwp_nil <|
     awp_block <|
     awp_weak ⟨[(9, .c _), (0, .c _), (1, .c _), (2, .c _)], []⟩ (Weak.mk [] ⟨VLe.of_eq rfl, VLe.of_eq rfl, VLe.of_eq rfl, VLe.of_eq rfl, trivial⟩ rfl) <|
     awp_loop_k 1 0 rfl rfl (Nat) (fun j => [(9, vI j)]) (fun j => []) (fun j => j ≤ code.length ∧ ((code.take j).any (fun x => !inOk code.length tys.length w x) = false)) (fun j => code.length - j) ⟨0, ⟨by omega, rfl⟩, Weak.mk [] ⟨VLe.refl _, VLe.refl _, VLe.refl _, VLe.refl _, trivial⟩ rfl⟩ ?_
    rintro j ⟨hj, hr⟩
    refine awp_seq <|
     sReg rfl <|
     rMv rfl <|
     rMv rfl <|
     rwp_det rfl rfl (det_len_slm rfl el22 rfl) <|
     rwp_det rfl rfl (det_lss rfl rfl rfl) <|
     rwp_nil <|
     awp_cond rfl (fun c5 => ?_) (fun c5 => ?_)
    ·try simp only [sx] at c5
     obtain ⟨y, hy⟩ := ex_get code j (by omega)
     refine awp_skip <|
      awp_seq <|
      awp_block <|
      sReg rfl <|
      rMv rfl <|
      rMv rfl <|
      rwp_det rfl rfl (det_index_sl rfl el22 rfl rfl (by omega) (getm (by assumption))) <|
      rwp_det rfl rfl (det_load_agg rfl agg67 rfl ptr_imm rfl) <|
      rwp_op rfl rfl (ope_alloc rfl zr67) ?_
     rintro _ _ ⟨b1, rfl, rfl⟩
     refine rwp_det0 rfl rfl (det_store rfl sz67 rfl rfl rfl (st_row 0 rfl rfl)) <|
      rwp_nil <|
      sReg rfl <|
      rwp_det rfl rfl (det_load_agg rfl agg67 rfl (ptr_row 0 rfl) rfl) <|
      rwp_det rfl rfl (det_call rfl ok64 (ref47_Formed y) ⟨VLe.refl _, rfl, trivial⟩) <|
      rwp_det rfl rfl (det_not rfl rfl) <|
      rMv rfl <|
      rLz [] rfl gv1 trivial (fun g14_3 => det_field_lit rfl fd67_0 rfl) rfl <|
      rLz [(46, _)] rfl gv1 ⟨rfl, rfl, trivial⟩ (fun g14_3 => det_load_one rfl one3 rfl (ptr_row 0 rfl) rfl) rfl <|
      rLz [(47, _)] rfl gv1 ⟨rfl, rfl, trivial⟩ (fun g14_3 => det_call rfl ok65 (ref47_Jumps y.Op) ⟨VLe.refl _, rfl, trivial⟩) rfl <|
      rLz [(48, _)] rfl gv1 ⟨rfl, rfl, trivial⟩ (fun g14_3 => det_move rfl rfl) rfl <|
      rLz [] rfl gv2 trivial (fun g14_7 => det_field_lit rfl fd67_1 rfl) rfl <|
      rLz [(50, _)] rfl gv2 ⟨rfl, rfl, trivial⟩ (fun g14_7 => det_load_one rfl one3 rfl (ptr_row 0 rfl) rfl) rfl <|
      rLz [] rfl gv2 trivial (fun g14_7 => det_move rfl rfl) rfl <|
      rLz [(52, _)] rfl gv2 ⟨rfl, rfl, trivial⟩ (fun g14_7 => det_len_slm rfl el22 rfl) rfl <|
      rLz [(51, _), (53, _)] rfl gv2 ⟨rfl, rfl, rfl, rfl, trivial⟩ (fun g14_7 => det_geq rfl rfl rfl) rfl <|
      rLz [(49, _)] rfl gv1 ⟨rfl, rfl, trivial⟩ (fun g14_3 => det_and rfl rfl rfl (fun h => and_mk (by assumption) h) rfl) rfl <|
      rwp_det rfl rfl (det_or rfl rfl rfl rfl (fun h => (lzf h))) <|
      rMv rfl <|
      rLz [] rfl gv1 trivial (fun g14_15 => det_field_lit rfl fd67_0 rfl) rfl <|
      rLz [(58, _)] rfl gv1 ⟨rfl, rfl, trivial⟩ (fun g14_15 => det_load_one rfl one3 rfl (ptr_row 0 rfl) rfl) rfl <|
      rLz [(59, _)] rfl gv1 ⟨rfl, rfl, trivial⟩ (fun g14_15 => det_eql rfl rfl rfl) rfl <|
      rLz [(60, _)] rfl gv1 ⟨rfl, rfl, trivial⟩ (fun g14_15 => det_move rfl rfl) rfl <|
      rLz [] rfl gv2 trivial (fun g14_19 => det_field_lit rfl fd67_0 rfl) rfl <|
      rLz [(62, _)] rfl gv2 ⟨rfl, rfl, trivial⟩ (fun g14_19 => det_load_one rfl one3 rfl (ptr_row 0 rfl) rfl) rfl <|
      rLz [(63, _)] rfl gv2 ⟨rfl, rfl, trivial⟩ (fun g14_19 => det_eql rfl rfl rfl) rfl <|
      rLz [(61, _)] rfl gv1 ⟨rfl, rfl, trivial⟩ (fun g14_15 => det_or rfl rfl rfl rfl (fun h => and_mk (by assumption) (lzf h))) rfl <|
      rLz [(65, _)] rfl gv1 ⟨rfl, rfl, trivial⟩ (fun g14_15 => det_move rfl rfl) rfl <|
      rLz [] rfl gv2 trivial (fun g14_24 => det_field_lit rfl fd67_3 rfl) rfl <|
      rLz [(67, _)] rfl gv2 ⟨rfl, rfl, trivial⟩ (fun g14_24 => det_load_one rfl one3 rfl (ptr_row 0 rfl) rfl) rfl <|
      rLz [] rfl gv2 trivial (fun g14_24 => det_move rfl rfl) rfl <|
      rLz [(68, _), (69, _)] rfl gv2 ⟨rfl, rfl, rfl, rfl, trivial⟩ (fun g14_24 => det_gtr rfl rfl rfl) rfl <|
      rLz [(66, _)] rfl gv1 ⟨rfl, rfl, trivial⟩ (fun g14_15 => det_and rfl rfl rfl (fun h => and_mk (by assumption) h) rfl) rfl <|
      rwp_det rfl rfl (det_or rfl rfl rfl rfl (fun h => (lzf h))) <|
      rMv rfl <|
      rLz [] rfl gv1 trivial (fun g14_31 => det_field_lit rfl fd67_0 rfl) rfl <|
      rLz [(74, _)] rfl gv1 ⟨rfl, rfl, trivial⟩ (fun g14_31 => det_load_one rfl one3 rfl (ptr_row 0 rfl) rfl) rfl <|
      rLz [(75, _)] rfl gv1 ⟨rfl, rfl, trivial⟩ (fun g14_31 => det_eql rfl rfl rfl) rfl <|
      rLz [(76, _)] rfl gv1 ⟨rfl, rfl, trivial⟩ (fun g14_31 => det_move rfl rfl) rfl <|
      rLz [] rfl gv2 trivial (fun g14_35 => det_field_lit rfl fd67_4 rfl) rfl <|
      rLz [(78, _)] rfl gv2 ⟨rfl, rfl, trivial⟩ (fun g14_35 => det_field_lit rfl fd63_0 rfl) rfl <|
      rLz [(79, _)] rfl gv2 ⟨rfl, rfl, trivial⟩ (fun g14_35 => det_load_one rfl one2 rfl (ptr_row 0 rfl) rfl) rfl <|
      rLz [] rfl gv2 trivial (fun g14_35 => det_move rfl rfl) rfl <|
      rLz [(81, _)] rfl gv2 ⟨rfl, rfl, trivial⟩ (fun g14_35 => det_len_slm rfl el23 rfl) rfl <|
      rLz [(80, _), (82, _)] rfl gv2 ⟨rfl, rfl, rfl, rfl, trivial⟩ (fun g14_35 => det_geq rfl rfl rfl) rfl <|
      rLz [(77, _)] rfl gv1 ⟨rfl, rfl, trivial⟩ (fun g14_31 => det_and rfl rfl rfl (fun h => and_mk (by assumption) h) rfl) rfl <|
      rwp_det rfl rfl (det_or rfl rfl rfl rfl (fun h => (lzf h))) <|
      rwp_nil <|
      awp_cond rfl (fun c6 => ?_) (fun c6 => ?_)
     ·have c6 : (!inOk code.length tys.length w y) = true := by rw [← bad_ref]; exact c6
      refine sReg rfl <|
       rMv rfl <|
       rMv rfl <|
       rMv rfl <|
       rwp_nil <|
       awp_ret <|
       fin2 (rs_c rfl) (rs_c rfl) ?_
      rw [vldF (by omega) c2 hp, firstBad_at hy c6 hr]
     ·have c6 : (!inOk code.length tys.length w y) = false := by rw [← bad_ref]; exact c6
      refine awp_skip <|
       awp_region rfl <|
       rMv rfl <|
       rwp_det rfl rfl (det_add_nw rfl rfl rfl ⟨by omega, by omega⟩) <|
       rMv rfl <|
       rwp_nil ?_
      refine ⟨j + 1, ⟨by omega, any_next hy hr c6⟩, (by omega), Weak.mk [false] ⟨VLe.refl _, VLe.refl _, VLe.refl _, VLe.refl _, trivial⟩ rfl⟩
    ·try simp only [sx] at c5
     refine awp_exit <|
      sReg rfl <|
      rMv rfl <|
      rMv rfl <|
      rwp_nil <|
      awp_ret <|
      fin2 (rs_c rfl) (rs_c rfl) ?_
     rw [vldF (by omega) c2 hp, firstBad_no (by omega) hr]

end Go.W
