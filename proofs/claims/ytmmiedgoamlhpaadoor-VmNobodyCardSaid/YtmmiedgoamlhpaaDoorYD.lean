/-
  Walks: what functions of the program compute. Printed by wip/gen/mk2.py.
  Conditions: none.
-/
import Derived.Test.YtmmiedgoamlhpaaDoorYC
import Derived.Test.YtmmiedgoamlhpaaDoorPlainM
set_option linter.unusedSimpArgs false
set_option linter.unusedVariables false
set_option maxRecDepth 10000
namespace Go.W
open Go Go.Eng Go.Proofs Go.L41 Go.Br
attribute [local irreducible] AWP RWP TD finQ
theorem agg50 : aggT Tryd.prog 50 = some 11 := by kernel_rfl
theorem agg103 : aggT Tryd.prog 103 = some 5 := by kernel_rfl
theorem ar103 : arrT Tryd.prog 103 = some (5, 3, 1) := by kernel_rfl
theorem ar106 : arrT Tryd.prog 106 = some (17, 105, 6) := by kernel_rfl
theorem el29 : elemT Tryd.prog 29 = some (50, 11, 88) := by kernel_rfl
theorem el30 : elemT Tryd.prog 30 = some (48, 5, 40) := by kernel_rfl
theorem el98 : elemT Tryd.prog 98 = some (3, 1, 8) := by kernel_rfl
theorem fd50_0 : fieldT Tryd.prog 50 0 = some (0, 3) := by kernel_rfl
theorem fd50_1 : fieldT Tryd.prog 50 1 = some (1, 3) := by kernel_rfl
theorem fd50_2 : fieldT Tryd.prog 50 2 = some (2, 3) := by kernel_rfl
theorem fd50_3 : fieldT Tryd.prog 50 3 = some (3, 3) := by kernel_rfl
theorem fd50_4 : fieldT Tryd.prog 50 4 = some (4, 33) := by kernel_rfl
theorem fd50_5 : fieldT Tryd.prog 50 5 = some (6, 48) := by kernel_rfl
theorem fd105_1 : fieldT Tryd.prog 105 1 = some (1, 103) := by kernel_rfl
theorem fk50 : flatK2 Tryd.prog 50 = some [.int, .int, .int, .int, .int, .int, .int, .int, .int, .int, .int] := by kernel_rfl
theorem ok27 : callOk Tryd.prog 27 = true := by kernel_rfl
theorem ok29 : callOk Tryd.prog 29 = true := by kernel_rfl
theorem ok37 : callOk Tryd.prog 37 = true := by kernel_rfl
theorem ok38 : callOk Tryd.prog 38 = true := by kernel_rfl
theorem ok50 : callOk Tryd.prog 50 = true := by kernel_rfl
theorem ok51 : callOk Tryd.prog 51 = true := by kernel_rfl
theorem ok52 : callOk Tryd.prog 52 = true := by kernel_rfl
theorem ok53 : callOk Tryd.prog 53 = true := by kernel_rfl
theorem pl50 : placesT Tryd.prog 50 = some [(0, 1), (1, 1), (2, 1), (3, 1), (4, 2), (6, 5)] := by kernel_rfl
theorem sz3 : (Tryd.prog.info? 3).map (·.size) = some 1 := by kernel_rfl
theorem sz48 : (Tryd.prog.info? 48).map (·.size) = some 5 := by kernel_rfl
theorem sz50 : (Tryd.prog.info? 50).map (·.size) = some 11 := by kernel_rfl
theorem zr3 : zeroT Tryd.prog 3 = some [(Value.int IntKind.i64 0)] := by kernel_rfl
theorem zr50 : zeroT Tryd.prog 50 = some [(Value.int IntKind.i64 0), (Value.int IntKind.i64 0), (Value.int IntKind.i64 0), (Value.int IntKind.i64 0), (Value.int IntKind.i64 0), (Value.int IntKind.i64 0), (Value.int IntKind.i64 0), (Value.int IntKind.i64 0), (Value.int IntKind.i64 0), (Value.int IntKind.i64 0), (Value.int IntKind.i64 0)] := by kernel_rfl
theorem isa_known (op : Int) :
    Pur cfg 50 [vI op] (vB (knownB op)) := by
 refine con_intro Tryd.func50 rfl Tryd.ntmps50 Tryd.results50 rfl ?_
 intro z hz
 refine sReg rfl <|
  rMv rfl <|
  rwp_nil <|
  sReg rfl <|
  rMv rfl <|
  rwp_det rfl rfl (det_geq rfl rfl rfl) <|
  rMv rfl <|
  rLz [] rfl gv1 trivial (fun g1_2 => det_move rfl rfl) rfl <|
  rLz [(6, _)] rfl gv1 ⟨rfl, rfl, trivial⟩ (fun g1_2 => det_lss rfl rfl rfl) rfl <|
  rwp_det rfl rfl (det_and rfl rfl rfl (fun h => h) rfl) <|
  rMv rfl <|
  rwp_nil <|
  awp_ret <|
  fin1 (rs_c rfl) ?_
 exact rfl

theorem isa_within (n a b : Int) :
    Pur cfg 27 [vI n, vI a, vI b] (vB (withinB n a b)) := by
 refine con_intro Tryd.func27 rfl Tryd.ntmps27 Tryd.results27 rfl ?_
 intro z hz
 refine sReg rfl <|
  rMv rfl <|
  rwp_nil <|
  sReg rfl <|
  rMv rfl <|
  rMv rfl <|
  rwp_det rfl rfl (det_geq rfl rfl rfl) <|
  rMv rfl <|
  rLz [] rfl gv1 trivial (fun g1_3 => det_move rfl rfl) rfl <|
  rLz [] rfl gv1 trivial (fun g1_3 => det_move rfl rfl) rfl <|
  rLz [(11, _), (12, _)] rfl gv1 ⟨rfl, rfl, rfl, rfl, trivial⟩ (fun g1_3 => det_leq rfl rfl rfl) rfl <|
  rwp_det rfl rfl (det_and rfl rfl rfl (fun h => h) rfl) <|
  rMv rfl <|
  rwp_nil <|
  awp_ret <|
  fin1 (rs_c rfl) ?_
 exact rfl

theorem isa_keep0 (b : Nat) (u x : In) (k : Int) :
    Con cfg 53 [.c (.lit (.pointer (some ⟨b, 0, none⟩))), vIn x, vI k] [E.row b 50 u.cells] fun r μ' => r = .tup [] ∧ ∃ ν, μ' = ν ++ [E.row b 50 (keepK u x k).cells] := by
 refine con_intro Tryd.func53 rfl Tryd.ntmps53 Tryd.results53 rfl ?_
 intro z hz
 refine sReg rfl <|
  rwp_op rfl rfl (ope_box rfl rfl) ?_
 rintro _ _ ⟨b1, rfl, rfl⟩
 refine rwp_nil <|
  sReg rfl <|
  rMv rfl <|
  rwp_nil <|
  awp_block <|
  awp_seq <|
  sReg rfl <|
  rwp_det rfl rfl (det_eql rfl rfl rfl) <|
  rMv rfl <|
  rwp_nil <|
  awp_cond rfl (fun c1 => ?_) (fun c1 => ?_)
 ·try simp only [sx] at c1
  refine awp_skip <|
   awp_cond rfl (fun c3 => ?_) (fun c3 => ?_)
  ·try simp only [sx] at c3
   refine awp_region rfl <|
    rMv rfl <|
    rwp_det rfl rfl (det_field_lit rfl fd50_1 rfl) <|
    rwp_det rfl rfl (det_load_one rfl one3 rfl (ptr_row 0 rfl) rfl) <|
    rwp_det rfl rfl (det_nilcheck_ptr rfl rfl) <|
    rwp_det rfl rfl (det_field_lit rfl fd50_1 rfl) <|
    rwp_det0 rfl rfl (det_store rfl sz3 rfl rfl rfl (st_row 1 rfl rfl)) <|
    rwp_nil ?_
   repeat (first | refine then_exit ?_ | refine block_exit ?_)
   refine fin_end <| fin0 ?_
   exact ⟨rfl, [_], by rw [show keepK u x k = { u with A := x.A } by unfold keepK; simp [*]]; rfl⟩
  ·try simp only [sx] at c3
   exact absurd c1 c3
 ·try simp only [sx] at c1
  refine sReg rfl <|
   rwp_det rfl rfl (det_eql rfl rfl rfl) <|
   rMv rfl <|
   rwp_nil <|
   awp_cond rfl (fun c2 => ?_) (fun c2 => ?_)
  ·try simp only [sx] at c2
   refine awp_skip <|
    awp_cond rfl (fun c3 => ?_) (fun c3 => ?_)
   ·try simp only [sx] at c3
    refine awp_region rfl <|
     rMv rfl <|
     rwp_det rfl rfl (det_field_lit rfl fd50_1 rfl) <|
     rwp_det rfl rfl (det_load_one rfl one3 rfl (ptr_row 0 rfl) rfl) <|
     rwp_det rfl rfl (det_nilcheck_ptr rfl rfl) <|
     rwp_det rfl rfl (det_field_lit rfl fd50_1 rfl) <|
     rwp_det0 rfl rfl (det_store rfl sz3 rfl rfl rfl (st_row 1 rfl rfl)) <|
     rwp_nil ?_
    repeat (first | refine then_exit ?_ | refine block_exit ?_)
    refine fin_end <| fin0 ?_
    exact ⟨rfl, [_], by rw [show keepK u x k = { u with A := x.A } by unfold keepK; simp [*]]; rfl⟩
   ·try simp only [sx] at c3
    exact absurd c2 c3
  ·try simp only [sx] at c2
   refine awp_region rfl <|
    rwp_det rfl rfl (det_eql rfl rfl rfl) <|
    rMv rfl <|
    rwp_nil <|
    awp_cond rfl (fun c3 => ?_) (fun c3 => ?_)
   ·try simp only [sx] at c3
    refine awp_region rfl <|
     rMv rfl <|
     rwp_det rfl rfl (det_field_lit rfl fd50_1 rfl) <|
     rwp_det rfl rfl (det_load_one rfl one3 rfl (ptr_row 0 rfl) rfl) <|
     rwp_det rfl rfl (det_nilcheck_ptr rfl rfl) <|
     rwp_det rfl rfl (det_field_lit rfl fd50_1 rfl) <|
     rwp_det0 rfl rfl (det_store rfl sz3 rfl rfl rfl (st_row 1 rfl rfl)) <|
     rwp_nil ?_
    repeat (first | refine then_exit ?_ | refine block_exit ?_)
    refine fin_end <| fin0 ?_
    exact ⟨rfl, [_], by rw [show keepK u x k = { u with A := x.A } by unfold keepK; simp [*]]; rfl⟩
   ·try simp only [sx] at c3
    refine awp_seq <|
     sReg rfl <|
     rwp_det rfl rfl (det_eql rfl rfl rfl) <|
     rMv rfl <|
     rwp_nil <|
     awp_cond rfl (fun c4 => ?_) (fun c4 => ?_)
    ·try simp only [sx] at c4
     refine awp_skip <|
      awp_cond rfl (fun c6 => ?_) (fun c6 => ?_)
     ·try simp only [sx] at c6
      refine awp_region rfl <|
       rMv rfl <|
       rwp_det rfl rfl (det_field_lit rfl fd50_2 rfl) <|
       rwp_det rfl rfl (det_load_one rfl one3 rfl (ptr_row 0 rfl) rfl) <|
       rwp_det rfl rfl (det_nilcheck_ptr rfl rfl) <|
       rwp_det rfl rfl (det_field_lit rfl fd50_2 rfl) <|
       rwp_det0 rfl rfl (det_store rfl sz3 rfl rfl rfl (st_row 1 rfl rfl)) <|
       rwp_nil ?_
      repeat (first | refine then_exit ?_ | refine block_exit ?_)
      refine fin_end <| fin0 ?_
      exact ⟨rfl, [_], by rw [show keepK u x k = { u with B := x.B } by unfold keepK; simp [*]]; rfl⟩
     ·try simp only [sx] at c6
      exact absurd c4 c6
    ·try simp only [sx] at c4
     refine sReg rfl <|
      rwp_det rfl rfl (det_eql rfl rfl rfl) <|
      rMv rfl <|
      rwp_nil <|
      awp_cond rfl (fun c5 => ?_) (fun c5 => ?_)
     ·try simp only [sx] at c5
      refine awp_skip <|
       awp_cond rfl (fun c6 => ?_) (fun c6 => ?_)
      ·try simp only [sx] at c6
       refine awp_region rfl <|
        rMv rfl <|
        rwp_det rfl rfl (det_field_lit rfl fd50_2 rfl) <|
        rwp_det rfl rfl (det_load_one rfl one3 rfl (ptr_row 0 rfl) rfl) <|
        rwp_det rfl rfl (det_nilcheck_ptr rfl rfl) <|
        rwp_det rfl rfl (det_field_lit rfl fd50_2 rfl) <|
        rwp_det0 rfl rfl (det_store rfl sz3 rfl rfl rfl (st_row 1 rfl rfl)) <|
        rwp_nil ?_
       repeat (first | refine then_exit ?_ | refine block_exit ?_)
       refine fin_end <| fin0 ?_
       exact ⟨rfl, [_], by rw [show keepK u x k = { u with B := x.B } by unfold keepK; simp [*]]; rfl⟩
      ·try simp only [sx] at c6
       exact absurd c5 c6
     ·try simp only [sx] at c5
      refine awp_region rfl <|
       rwp_det rfl rfl (det_eql rfl rfl rfl) <|
       rMv rfl <|
       rwp_nil <|
       awp_cond rfl (fun c6 => ?_) (fun c6 => ?_)
      ·try simp only [sx] at c6
       refine awp_region rfl <|
        rMv rfl <|
        rwp_det rfl rfl (det_field_lit rfl fd50_2 rfl) <|
        rwp_det rfl rfl (det_load_one rfl one3 rfl (ptr_row 0 rfl) rfl) <|
        rwp_det rfl rfl (det_nilcheck_ptr rfl rfl) <|
        rwp_det rfl rfl (det_field_lit rfl fd50_2 rfl) <|
        rwp_det0 rfl rfl (det_store rfl sz3 rfl rfl rfl (st_row 1 rfl rfl)) <|
        rwp_nil ?_
       repeat (first | refine then_exit ?_ | refine block_exit ?_)
       refine fin_end <| fin0 ?_
       exact ⟨rfl, [_], by rw [show keepK u x k = { u with B := x.B } by unfold keepK; simp [*]]; rfl⟩
      ·try simp only [sx] at c6
       refine awp_seq <|
        sReg rfl <|
        rwp_det rfl rfl (det_eql rfl rfl rfl) <|
        rMv rfl <|
        rwp_nil <|
        awp_cond rfl (fun c7 => ?_) (fun c7 => ?_)
       ·try simp only [sx] at c7
        refine awp_skip <|
         awp_cond rfl (fun c11 => ?_) (fun c11 => ?_)
        ·try simp only [sx] at c11
         refine awp_region rfl <|
          rMv rfl <|
          rwp_det rfl rfl (det_field_lit rfl fd50_3 rfl) <|
          rwp_det rfl rfl (det_load_one rfl one3 rfl (ptr_row 0 rfl) rfl) <|
          rwp_det rfl rfl (det_nilcheck_ptr rfl rfl) <|
          rwp_det rfl rfl (det_field_lit rfl fd50_3 rfl) <|
          rwp_det0 rfl rfl (det_store rfl sz3 rfl rfl rfl (st_row 1 rfl rfl)) <|
          rwp_nil ?_
         repeat (first | refine then_exit ?_ | refine block_exit ?_)
         refine fin_end <| fin0 ?_
         exact ⟨rfl, [_], by rw [show keepK u x k = { u with C := x.C } by unfold keepK; simp [*]]; rfl⟩
        ·try simp only [sx] at c11
         exact absurd c7 c11
       ·try simp only [sx] at c7
        refine sReg rfl <|
         rwp_det rfl rfl (det_eql rfl rfl rfl) <|
         rMv rfl <|
         rwp_nil <|
         awp_cond rfl (fun c8 => ?_) (fun c8 => ?_)
        ·try simp only [sx] at c8
         refine awp_skip <|
          awp_cond rfl (fun c11 => ?_) (fun c11 => ?_)
         ·try simp only [sx] at c11
          refine awp_region rfl <|
           rMv rfl <|
           rwp_det rfl rfl (det_field_lit rfl fd50_3 rfl) <|
           rwp_det rfl rfl (det_load_one rfl one3 rfl (ptr_row 0 rfl) rfl) <|
           rwp_det rfl rfl (det_nilcheck_ptr rfl rfl) <|
           rwp_det rfl rfl (det_field_lit rfl fd50_3 rfl) <|
           rwp_det0 rfl rfl (det_store rfl sz3 rfl rfl rfl (st_row 1 rfl rfl)) <|
           rwp_nil ?_
          repeat (first | refine then_exit ?_ | refine block_exit ?_)
          refine fin_end <| fin0 ?_
          exact ⟨rfl, [_], by rw [show keepK u x k = { u with C := x.C } by unfold keepK; simp [*]]; rfl⟩
         ·try simp only [sx] at c11
          exact absurd c8 c11
        ·try simp only [sx] at c8
         refine sReg rfl <|
          rwp_det rfl rfl (det_eql rfl rfl rfl) <|
          rMv rfl <|
          rwp_nil <|
          awp_cond rfl (fun c9 => ?_) (fun c9 => ?_)
         ·try simp only [sx] at c9
          refine awp_skip <|
           awp_cond rfl (fun c11 => ?_) (fun c11 => ?_)
          ·try simp only [sx] at c11
           refine awp_region rfl <|
            rMv rfl <|
            rwp_det rfl rfl (det_field_lit rfl fd50_3 rfl) <|
            rwp_det rfl rfl (det_load_one rfl one3 rfl (ptr_row 0 rfl) rfl) <|
            rwp_det rfl rfl (det_nilcheck_ptr rfl rfl) <|
            rwp_det rfl rfl (det_field_lit rfl fd50_3 rfl) <|
            rwp_det0 rfl rfl (det_store rfl sz3 rfl rfl rfl (st_row 1 rfl rfl)) <|
            rwp_nil ?_
           repeat (first | refine then_exit ?_ | refine block_exit ?_)
           refine fin_end <| fin0 ?_
           exact ⟨rfl, [_], by rw [show keepK u x k = { u with C := x.C } by unfold keepK; simp [*]]; rfl⟩
          ·try simp only [sx] at c11
           exact absurd c9 c11
         ·try simp only [sx] at c9
          refine sReg rfl <|
           rwp_det rfl rfl (det_eql rfl rfl rfl) <|
           rMv rfl <|
           rwp_nil <|
           awp_cond rfl (fun c10 => ?_) (fun c10 => ?_)
          ·try simp only [sx] at c10
           refine awp_skip <|
            awp_cond rfl (fun c11 => ?_) (fun c11 => ?_)
           ·try simp only [sx] at c11
            refine awp_region rfl <|
             rMv rfl <|
             rwp_det rfl rfl (det_field_lit rfl fd50_3 rfl) <|
             rwp_det rfl rfl (det_load_one rfl one3 rfl (ptr_row 0 rfl) rfl) <|
             rwp_det rfl rfl (det_nilcheck_ptr rfl rfl) <|
             rwp_det rfl rfl (det_field_lit rfl fd50_3 rfl) <|
             rwp_det0 rfl rfl (det_store rfl sz3 rfl rfl rfl (st_row 1 rfl rfl)) <|
             rwp_nil ?_
            repeat (first | refine then_exit ?_ | refine block_exit ?_)
            refine fin_end <| fin0 ?_
            exact ⟨rfl, [_], by rw [show keepK u x k = { u with C := x.C } by unfold keepK; simp [*]]; rfl⟩
           ·try simp only [sx] at c11
            exact absurd c10 c11
          ·try simp only [sx] at c10
           refine awp_region rfl <|
            rwp_det rfl rfl (det_eql rfl rfl rfl) <|
            rMv rfl <|
            rwp_nil <|
            awp_cond rfl (fun c11 => ?_) (fun c11 => ?_)
           ·try simp only [sx] at c11
            refine awp_region rfl <|
             rMv rfl <|
             rwp_det rfl rfl (det_field_lit rfl fd50_3 rfl) <|
             rwp_det rfl rfl (det_load_one rfl one3 rfl (ptr_row 0 rfl) rfl) <|
             rwp_det rfl rfl (det_nilcheck_ptr rfl rfl) <|
             rwp_det rfl rfl (det_field_lit rfl fd50_3 rfl) <|
             rwp_det0 rfl rfl (det_store rfl sz3 rfl rfl rfl (st_row 1 rfl rfl)) <|
             rwp_nil ?_
            repeat (first | refine then_exit ?_ | refine block_exit ?_)
            refine fin_end <| fin0 ?_
            exact ⟨rfl, [_], by rw [show keepK u x k = { u with C := x.C } by unfold keepK; simp [*]]; rfl⟩
           ·try simp only [sx] at c11
            refine awp_seq <|
             sReg rfl <|
             rwp_det rfl rfl (det_eql rfl rfl rfl) <|
             rMv rfl <|
             rwp_nil <|
             awp_cond rfl (fun c12 => ?_) (fun c12 => ?_)
            ·try simp only [sx] at c12
             refine awp_skip <|
              awp_cond rfl (fun c15 => ?_) (fun c15 => ?_)
             ·try simp only [sx] at c15
              refine awp_region rfl <|
               rMv rfl <|
               rwp_det rfl rfl (det_field_lit rfl fd50_4 rfl) <|
               rwp_det rfl rfl (det_field_lit rfl fd33_0 rfl) <|
               rwp_det rfl rfl (det_load_one rfl one2 rfl (ptr_row 0 rfl) rfl) <|
               rwp_det rfl rfl (det_build rfl zr33 pl33 rfl) <|
               rwp_det rfl rfl (det_nilcheck_ptr rfl rfl) <|
               rwp_det rfl rfl (det_field_lit rfl fd50_4 rfl) <|
               rwp_det0 rfl rfl (det_store rfl sz33 rfl rfl rfl (st_row 1 rfl rfl)) <|
               rwp_nil ?_
              repeat (first | refine then_exit ?_ | refine block_exit ?_)
              refine fin_end <| fin0 ?_
              exact ⟨rfl, [_], by rw [show keepK u x k = { u with Val := ⟨x.Val.N, 1⟩ } by unfold keepK; simp [*]]; rfl⟩
             ·try simp only [sx] at c15
              exact absurd c12 c15
            ·try simp only [sx] at c12
             refine sReg rfl <|
              rwp_det rfl rfl (det_eql rfl rfl rfl) <|
              rMv rfl <|
              rwp_nil <|
              awp_cond rfl (fun c13 => ?_) (fun c13 => ?_)
             ·try simp only [sx] at c13
              refine awp_skip <|
               awp_cond rfl (fun c15 => ?_) (fun c15 => ?_)
              ·try simp only [sx] at c15
               refine awp_region rfl <|
                rMv rfl <|
                rwp_det rfl rfl (det_field_lit rfl fd50_4 rfl) <|
                rwp_det rfl rfl (det_field_lit rfl fd33_0 rfl) <|
                rwp_det rfl rfl (det_load_one rfl one2 rfl (ptr_row 0 rfl) rfl) <|
                rwp_det rfl rfl (det_build rfl zr33 pl33 rfl) <|
                rwp_det rfl rfl (det_nilcheck_ptr rfl rfl) <|
                rwp_det rfl rfl (det_field_lit rfl fd50_4 rfl) <|
                rwp_det0 rfl rfl (det_store rfl sz33 rfl rfl rfl (st_row 1 rfl rfl)) <|
                rwp_nil ?_
               repeat (first | refine then_exit ?_ | refine block_exit ?_)
               refine fin_end <| fin0 ?_
               exact ⟨rfl, [_], by rw [show keepK u x k = { u with Val := ⟨x.Val.N, 1⟩ } by unfold keepK; simp [*]]; rfl⟩
              ·try simp only [sx] at c15
               exact absurd c13 c15
             ·try simp only [sx] at c13
              refine sReg rfl <|
               rwp_det rfl rfl (det_eql rfl rfl rfl) <|
               rMv rfl <|
               rwp_nil <|
               awp_cond rfl (fun c14 => ?_) (fun c14 => ?_)
              ·try simp only [sx] at c14
               refine awp_skip <|
                awp_cond rfl (fun c15 => ?_) (fun c15 => ?_)
               ·try simp only [sx] at c15
                refine awp_region rfl <|
                 rMv rfl <|
                 rwp_det rfl rfl (det_field_lit rfl fd50_4 rfl) <|
                 rwp_det rfl rfl (det_field_lit rfl fd33_0 rfl) <|
                 rwp_det rfl rfl (det_load_one rfl one2 rfl (ptr_row 0 rfl) rfl) <|
                 rwp_det rfl rfl (det_build rfl zr33 pl33 rfl) <|
                 rwp_det rfl rfl (det_nilcheck_ptr rfl rfl) <|
                 rwp_det rfl rfl (det_field_lit rfl fd50_4 rfl) <|
                 rwp_det0 rfl rfl (det_store rfl sz33 rfl rfl rfl (st_row 1 rfl rfl)) <|
                 rwp_nil ?_
                repeat (first | refine then_exit ?_ | refine block_exit ?_)
                refine fin_end <| fin0 ?_
                exact ⟨rfl, [_], by rw [show keepK u x k = { u with Val := ⟨x.Val.N, 1⟩ } by unfold keepK; simp [*]]; rfl⟩
               ·try simp only [sx] at c15
                exact absurd c14 c15
              ·try simp only [sx] at c14
               refine awp_region rfl <|
                rwp_det rfl rfl (det_eql rfl rfl rfl) <|
                rMv rfl <|
                rwp_nil <|
                awp_cond rfl (fun c15 => ?_) (fun c15 => ?_)
               ·try simp only [sx] at c15
                refine awp_region rfl <|
                 rMv rfl <|
                 rwp_det rfl rfl (det_field_lit rfl fd50_4 rfl) <|
                 rwp_det rfl rfl (det_field_lit rfl fd33_0 rfl) <|
                 rwp_det rfl rfl (det_load_one rfl one2 rfl (ptr_row 0 rfl) rfl) <|
                 rwp_det rfl rfl (det_build rfl zr33 pl33 rfl) <|
                 rwp_det rfl rfl (det_nilcheck_ptr rfl rfl) <|
                 rwp_det rfl rfl (det_field_lit rfl fd50_4 rfl) <|
                 rwp_det0 rfl rfl (det_store rfl sz33 rfl rfl rfl (st_row 1 rfl rfl)) <|
                 rwp_nil ?_
                repeat (first | refine then_exit ?_ | refine block_exit ?_)
                refine fin_end <| fin0 ?_
                exact ⟨rfl, [_], by rw [show keepK u x k = { u with Val := ⟨x.Val.N, 1⟩ } by unfold keepK; simp [*]]; rfl⟩
               ·try simp only [sx] at c15
                refine sReg rfl <|
                 rwp_det rfl rfl (det_eql rfl rfl rfl) <|
                 rMv rfl <|
                 rwp_nil <|
                 awp_cond rfl (fun c16 => ?_) (fun c16 => ?_)
                ·try simp only [sx] at c16
                 refine awp_region rfl <|
                  rMv rfl <|
                  rwp_det rfl rfl (det_field_lit rfl fd50_4 rfl) <|
                  rwp_det rfl rfl (det_load_agg rfl agg33 rfl (ptr_row 0 rfl) rfl) <|
                  rwp_det rfl rfl (det_nilcheck_ptr rfl rfl) <|
                  rwp_det rfl rfl (det_field_lit rfl fd50_4 rfl) <|
                  rwp_det0 rfl rfl (det_store rfl sz33 rfl rfl rfl (st_row 1 rfl rfl)) <|
                  rwp_nil ?_
                 repeat (first | refine then_exit ?_ | refine block_exit ?_)
                 refine fin_end <| fin0 ?_
                 exact ⟨rfl, [_], by rw [show keepK u x k = { u with Val := x.Val } by unfold keepK; simp [*]]; rfl⟩
                ·try simp only [sx] at c16
                 refine sReg rfl <|
                  rwp_det rfl rfl (det_eql rfl rfl rfl) <|
                  rMv rfl <|
                  rwp_nil <|
                  awp_cond rfl (fun c17 => ?_) (fun c17 => ?_)
                 ·try simp only [sx] at c17
                  refine awp_region rfl <|
                   rMv rfl <|
                   rwp_det rfl rfl (det_field_lit rfl fd50_5 rfl) <|
                   rwp_det rfl rfl (det_load_agg rfl agg48 rfl (ptr_row 0 rfl) rfl) <|
                   rwp_det rfl rfl (det_nilcheck_ptr rfl rfl) <|
                   rwp_det rfl rfl (det_field_lit rfl fd50_5 rfl) <|
                   rwp_det0 rfl rfl (det_store rfl sz48 rfl rfl rfl (st_row 1 rfl rfl)) <|
                   rwp_nil ?_
                  repeat (first | refine then_exit ?_ | refine block_exit ?_)
                  refine fin_end <| fin0 ?_
                  exact ⟨rfl, [_], by rw [show keepK u x k = { u with Ty := x.Ty } by unfold keepK; simp [*]]; rfl⟩
                 ·try simp only [sx] at c17
                  refine awp_skip ?_
                  repeat (first | refine then_exit ?_ | refine block_exit ?_)
                  refine fin_end <| fin0 ?_
                  exact ⟨rfl, [_], by rw [show keepK u x k = u by unfold keepK; simp [*]]; rfl⟩

theorem isa_keep (b : Nat) (u x : In) (k : Int) : Con cfg 53 [.c (.lit (.pointer (some ⟨b, 0, none⟩))), vIn x, vI k] [E.row b 50 u.cells] fun r μ' => r = .tup [] ∧ μ' = [E.row b 50 (keepK u x k).cells] := Con.drop (isa_keep0 b u x k)
theorem isa_fits (x : In) (k : Int) :
    Pur cfg 52 [vIn x, vI k] (vB (fitsB x k)) := by
 refine con_intro Tryd.func52 rfl Tryd.ntmps52 Tryd.results52 rfl ?_
 intro z hz
 refine sReg rfl <|
  rwp_op rfl rfl (ope_box rfl rfl) ?_
 rintro _ _ ⟨b1, rfl, rfl⟩
 refine rMv rfl <|
  rwp_nil <|
  awp_seq <|
  sReg rfl <|
  rMv rfl <|
  rwp_nil <|
  awp_block <|
  awp_seq <|
  sReg rfl <|
  rwp_det rfl rfl (det_eql rfl rfl rfl) <|
  rMv rfl <|
  rwp_nil <|
  awp_cond rfl (fun c1 => ?_) (fun c1 => ?_)
 ·try simp only [sx] at c1
  refine awp_skip <|
   awp_cond rfl (fun c2 => ?_) (fun c2 => ?_)
  ·try simp only [sx] at c2
   refine sReg rfl <|
    rwp_det rfl rfl (det_field_lit rfl fd50_1 rfl) <|
    rwp_det rfl rfl (det_load_one rfl one3 rfl (ptr_row 0 rfl) rfl) <|
    rwp_det rfl rfl (det_call rfl ok27 (isa_within _ _ _) ⟨VLe.refl _, rfl, VLe.refl _, rfl, VLe.refl _, rfl, trivial⟩) <|
    rMv rfl <|
    rwp_nil <|
    awp_ret <|
    fin1 (rs_c rfl) ?_
   exact congrArg vB (by unfold fitsB; first | (simp [*, withinB]; done) | (simp [*, frOk]; done) | (simp [*, ty_dec]))
  ·try simp only [sx] at c2
   exact absurd c1 c2
 ·try simp only [sx] at c1
  refine awp_region rfl <|
   rwp_det rfl rfl (det_eql rfl rfl rfl) <|
   rMv rfl <|
   rwp_nil <|
   awp_cond rfl (fun c2 => ?_) (fun c2 => ?_)
  ·try simp only [sx] at c2
   refine sReg rfl <|
    rwp_det rfl rfl (det_field_lit rfl fd50_1 rfl) <|
    rwp_det rfl rfl (det_load_one rfl one3 rfl (ptr_row 0 rfl) rfl) <|
    rwp_det rfl rfl (det_call rfl ok27 (isa_within _ _ _) ⟨VLe.refl _, rfl, VLe.refl _, rfl, VLe.refl _, rfl, trivial⟩) <|
    rMv rfl <|
    rwp_nil <|
    awp_ret <|
    fin1 (rs_c rfl) ?_
   exact congrArg vB (by unfold fitsB; first | (simp [*, withinB]; done) | (simp [*, frOk]; done) | (simp [*, ty_dec]))
  ·try simp only [sx] at c2
   refine awp_seq <|
    sReg rfl <|
    rwp_det rfl rfl (det_eql rfl rfl rfl) <|
    rMv rfl <|
    rwp_nil <|
    awp_cond rfl (fun c3 => ?_) (fun c3 => ?_)
   ·try simp only [sx] at c3
    refine awp_skip <|
     awp_cond rfl (fun c4 => ?_) (fun c4 => ?_)
    ·try simp only [sx] at c4
     refine sReg rfl <|
      rwp_det rfl rfl (det_field_lit rfl fd50_2 rfl) <|
      rwp_det rfl rfl (det_load_one rfl one3 rfl (ptr_row 0 rfl) rfl) <|
      rwp_det rfl rfl (det_call rfl ok27 (isa_within _ _ _) ⟨VLe.refl _, rfl, VLe.refl _, rfl, VLe.refl _, rfl, trivial⟩) <|
      rMv rfl <|
      rwp_nil <|
      awp_ret <|
      fin1 (rs_c rfl) ?_
     exact congrArg vB (by unfold fitsB; first | (simp [*, withinB]; done) | (simp [*, frOk]; done) | (simp [*, ty_dec]))
    ·try simp only [sx] at c4
     exact absurd c3 c4
   ·try simp only [sx] at c3
    refine awp_region rfl <|
     rwp_det rfl rfl (det_eql rfl rfl rfl) <|
     rMv rfl <|
     rwp_nil <|
     awp_cond rfl (fun c4 => ?_) (fun c4 => ?_)
    ·try simp only [sx] at c4
     refine sReg rfl <|
      rwp_det rfl rfl (det_field_lit rfl fd50_2 rfl) <|
      rwp_det rfl rfl (det_load_one rfl one3 rfl (ptr_row 0 rfl) rfl) <|
      rwp_det rfl rfl (det_call rfl ok27 (isa_within _ _ _) ⟨VLe.refl _, rfl, VLe.refl _, rfl, VLe.refl _, rfl, trivial⟩) <|
      rMv rfl <|
      rwp_nil <|
      awp_ret <|
      fin1 (rs_c rfl) ?_
     exact congrArg vB (by unfold fitsB; first | (simp [*, withinB]; done) | (simp [*, frOk]; done) | (simp [*, ty_dec]))
    ·try simp only [sx] at c4
     refine awp_seq <|
      sReg rfl <|
      rwp_det rfl rfl (det_eql rfl rfl rfl) <|
      rMv rfl <|
      rwp_nil <|
      awp_cond rfl (fun c5 => ?_) (fun c5 => ?_)
     ·try simp only [sx] at c5
      refine awp_skip <|
       awp_cond rfl (fun c6 => ?_) (fun c6 => ?_)
      ·try simp only [sx] at c6
       refine sReg rfl <|
        rwp_det rfl rfl (det_field_lit rfl fd50_3 rfl) <|
        rwp_det rfl rfl (det_load_one rfl one3 rfl (ptr_row 0 rfl) rfl) <|
        rwp_det rfl rfl (det_call rfl ok27 (isa_within _ _ _) ⟨VLe.refl _, rfl, VLe.refl _, rfl, VLe.refl _, rfl, trivial⟩) <|
        rMv rfl <|
        rwp_nil <|
        awp_ret <|
        fin1 (rs_c rfl) ?_
       exact congrArg vB (by unfold fitsB; first | (simp [*, withinB]; done) | (simp [*, frOk]; done) | (simp [*, ty_dec]))
      ·try simp only [sx] at c6
       exact absurd c5 c6
     ·try simp only [sx] at c5
      refine awp_region rfl <|
       rwp_det rfl rfl (det_eql rfl rfl rfl) <|
       rMv rfl <|
       rwp_nil <|
       awp_cond rfl (fun c6 => ?_) (fun c6 => ?_)
      ·try simp only [sx] at c6
       refine sReg rfl <|
        rwp_det rfl rfl (det_field_lit rfl fd50_3 rfl) <|
        rwp_det rfl rfl (det_load_one rfl one3 rfl (ptr_row 0 rfl) rfl) <|
        rwp_det rfl rfl (det_call rfl ok27 (isa_within _ _ _) ⟨VLe.refl _, rfl, VLe.refl _, rfl, VLe.refl _, rfl, trivial⟩) <|
        rMv rfl <|
        rwp_nil <|
        awp_ret <|
        fin1 (rs_c rfl) ?_
       exact congrArg vB (by unfold fitsB; first | (simp [*, withinB]; done) | (simp [*, frOk]; done) | (simp [*, ty_dec]))
      ·try simp only [sx] at c6
       refine sReg rfl <|
        rwp_det rfl rfl (det_eql rfl rfl rfl) <|
        rMv rfl <|
        rwp_nil <|
        awp_cond rfl (fun c7 => ?_) (fun c7 => ?_)
       ·try simp only [sx] at c7
        refine sReg rfl <|
         rwp_det rfl rfl (det_field_lit rfl fd50_1 rfl) <|
         rwp_det rfl rfl (det_load_one rfl one3 rfl (ptr_row 0 rfl) rfl) <|
         rwp_det rfl rfl (det_call rfl ok27 (isa_within _ _ _) ⟨VLe.refl _, rfl, VLe.refl _, rfl, VLe.refl _, rfl, trivial⟩) <|
         rMv rfl <|
         rwp_nil <|
         awp_ret <|
         fin1 (rs_c rfl) ?_
        exact congrArg vB (by unfold fitsB; first | (simp [*, withinB]; done) | (simp [*, frOk]; done) | (simp [*, ty_dec]))
       ·try simp only [sx] at c7
        refine sReg rfl <|
         rwp_det rfl rfl (det_eql rfl rfl rfl) <|
         rMv rfl <|
         rwp_nil <|
         awp_cond rfl (fun c8 => ?_) (fun c8 => ?_)
        ·try simp only [sx] at c8
         refine sReg rfl <|
          rwp_det rfl rfl (det_field_lit rfl fd50_2 rfl) <|
          rwp_det rfl rfl (det_load_one rfl one3 rfl (ptr_row 0 rfl) rfl) <|
          rwp_det rfl rfl (det_call rfl ok27 (isa_within _ _ _) ⟨VLe.refl _, rfl, VLe.refl _, rfl, VLe.refl _, rfl, trivial⟩) <|
          rMv rfl <|
          rwp_nil <|
          awp_ret <|
          fin1 (rs_c rfl) ?_
         exact congrArg vB (by unfold fitsB; first | (simp [*, withinB]; done) | (simp [*, frOk]; done) | (simp [*, ty_dec]))
        ·try simp only [sx] at c8
         refine sReg rfl <|
          rwp_det rfl rfl (det_eql rfl rfl rfl) <|
          rMv rfl <|
          rwp_nil <|
          awp_cond rfl (fun c9 => ?_) (fun c9 => ?_)
         ·try simp only [sx] at c9
          refine sReg rfl <|
           rwp_det rfl rfl (det_field_lit rfl fd50_3 rfl) <|
           rwp_det rfl rfl (det_load_one rfl one3 rfl (ptr_row 0 rfl) rfl) <|
           rwp_det rfl rfl (det_call rfl ok27 (isa_within _ _ _) ⟨VLe.refl _, rfl, VLe.refl _, rfl, VLe.refl _, rfl, trivial⟩) <|
           rMv rfl <|
           rwp_nil <|
           awp_ret <|
           fin1 (rs_c rfl) ?_
          exact congrArg vB (by unfold fitsB; first | (simp [*, withinB]; done) | (simp [*, frOk]; done) | (simp [*, ty_dec]))
         ·try simp only [sx] at c9
          refine sReg rfl <|
           rwp_det rfl rfl (det_eql rfl rfl rfl) <|
           rMv rfl <|
           rwp_nil <|
           awp_cond rfl (fun c10 => ?_) (fun c10 => ?_)
          ·try simp only [sx] at c10
           refine sReg rfl <|
            rwp_det rfl rfl (det_field_lit rfl fd50_4 rfl) <|
            rwp_det rfl rfl (det_field_lit rfl fd33_0 rfl) <|
            rwp_det rfl rfl (det_load_one rfl one2 rfl (ptr_row 0 rfl) rfl) <|
            rwp_det rfl rfl (det_geq rfl rfl rfl) <|
            rMv rfl <|
            rLz [] rfl gv1 trivial (fun g18_4 => det_field_lit rfl fd50_4 rfl) rfl <|
            rLz [(46, _)] rfl gv1 ⟨rfl, rfl, trivial⟩ (fun g18_4 => det_field_lit rfl fd33_0 rfl) rfl <|
            rLz [(47, _)] rfl gv1 ⟨rfl, rfl, trivial⟩ (fun g18_4 => det_load_one rfl one2 rfl (ptr_row 0 rfl) rfl) rfl <|
            rLz [] rfl gv1 trivial (fun g18_4 => det_field_lit rfl fd50_3 rfl) rfl <|
            rLz [(49, _)] rfl gv1 ⟨rfl, rfl, trivial⟩ (fun g18_4 => det_load_one rfl one3 rfl (ptr_row 0 rfl) rfl) rfl <|
            rLz [(48, _), (50, _)] rfl gv1 ⟨rfl, rfl, rfl, rfl, trivial⟩ (fun g18_4 => det_leq rfl rfl rfl) rfl <|
            rwp_det rfl rfl (det_and rfl rfl rfl (fun h => h) rfl) <|
            rMv rfl <|
            rwp_nil <|
            awp_ret <|
            fin1 (rs_c rfl) ?_
           exact congrArg vB (by unfold fitsB; first | (simp [*, withinB]; done) | (simp [*, frOk]; done) | (simp [*, ty_dec]))
          ·try simp only [sx] at c10
           refine sReg rfl <|
            rwp_det rfl rfl (det_eql rfl rfl rfl) <|
            rMv rfl <|
            rwp_nil <|
            awp_cond rfl (fun c11 => ?_) (fun c11 => ?_)
           ·try simp only [sx] at c11
            refine sReg rfl <|
             rwp_det rfl rfl (det_field_lit rfl fd50_3 rfl) <|
             rwp_det rfl rfl (det_load_one rfl one3 rfl (ptr_row 0 rfl) rfl) <|
             rwp_det rfl rfl (det_call rfl ok27 (isa_within _ _ _) ⟨VLe.refl _, rfl, VLe.refl _, rfl, VLe.refl _, rfl, trivial⟩) <|
             rMv rfl <|
             rwp_nil <|
             awp_ret <|
             fin1 (rs_c rfl) ?_
            exact congrArg vB (by unfold fitsB; first | (simp [*, withinB]; done) | (simp [*, frOk]; done) | (simp [*, ty_dec]))
           ·try simp only [sx] at c11
            refine sReg rfl <|
             rwp_det rfl rfl (det_eql rfl rfl rfl) <|
             rMv rfl <|
             rwp_nil <|
             awp_cond rfl (fun c12 => ?_) (fun c12 => ?_)
            ·try simp only [sx] at c12
             refine sReg rfl <|
              rwp_det rfl rfl (det_field_lit rfl fd50_4 rfl) <|
              rwp_det rfl rfl (det_field_lit rfl fd33_0 rfl) <|
              rwp_det rfl rfl (det_load_one rfl one2 rfl (ptr_row 0 rfl) rfl) <|
              rwp_det rfl rfl (det_geq rfl rfl rfl) <|
              rMv rfl <|
              rLz [] rfl gv1 trivial (fun g22_4 => det_field_lit rfl fd50_4 rfl) rfl <|
              rLz [(65, _)] rfl gv1 ⟨rfl, rfl, trivial⟩ (fun g22_4 => det_field_lit rfl fd33_0 rfl) rfl <|
              rLz [(66, _)] rfl gv1 ⟨rfl, rfl, trivial⟩ (fun g22_4 => det_load_one rfl one2 rfl (ptr_row 0 rfl) rfl) rfl <|
              rLz [(67, _)] rfl gv1 ⟨rfl, rfl, trivial⟩ (fun g22_4 => det_leq rfl rfl rfl) rfl <|
              rwp_det rfl rfl (det_and rfl rfl rfl (fun h => h) rfl) <|
              rMv rfl <|
              rwp_nil <|
              awp_ret <|
              fin1 (rs_c rfl) ?_
             exact congrArg vB (by unfold fitsB; first | (simp [*, withinB]; done) | (simp [*, frOk]; done) | (simp [*, ty_dec]))
            ·try simp only [sx] at c12
             refine sReg rfl <|
              rwp_det rfl rfl (det_eql rfl rfl rfl) <|
              rMv rfl <|
              rwp_nil <|
              awp_cond rfl (fun c13 => ?_) (fun c13 => ?_)
             ·try simp only [sx] at c13
              refine sReg rfl <|
               rwp_det rfl rfl (det_field_lit rfl fd50_3 rfl) <|
               rwp_det rfl rfl (det_load_one rfl one3 rfl (ptr_row 0 rfl) rfl) <|
               rwp_det rfl rfl (det_call rfl ok27 (isa_within _ _ _) ⟨VLe.refl _, rfl, VLe.refl _, rfl, VLe.refl _, rfl, trivial⟩) <|
               rMv rfl <|
               rwp_nil <|
               awp_ret <|
               fin1 (rs_c rfl) ?_
              exact congrArg vB (by unfold fitsB; first | (simp [*, withinB]; done) | (simp [*, frOk]; done) | (simp [*, ty_dec]))
             ·try simp only [sx] at c13
              refine sReg rfl <|
               rwp_det rfl rfl (det_eql rfl rfl rfl) <|
               rMv rfl <|
               rwp_nil <|
               awp_cond rfl (fun c14 => ?_) (fun c14 => ?_)
              ·try simp only [sx] at c14
               refine sReg rfl <|
                rwp_det rfl rfl (det_field_lit rfl fd50_4 rfl) <|
                rwp_det rfl rfl (det_load_agg rfl agg33 rfl (ptr_row 0 rfl) rfl) <|
                rwp_det rfl rfl (det_call rfl ok43 (frac_Valid x.Val) ⟨VLe.refl _, rfl, trivial⟩) <|
                rMv rfl <|
                rwp_nil <|
                awp_ret <|
                fin1 (rs_c rfl) ?_
               exact congrArg vB (by unfold fitsB; first | (simp [*, withinB]; done) | (simp [*, frOk]; done) | (simp [*, ty_dec]))
              ·try simp only [sx] at c14
               refine sReg rfl <|
                rwp_det rfl rfl (det_eql rfl rfl rfl) <|
                rMv rfl <|
                rwp_nil <|
                awp_cond rfl (fun c15 => ?_) (fun c15 => ?_)
               ·try simp only [sx] at c15
                refine sReg rfl <|
                 rwp_det rfl rfl (det_field_lit rfl fd50_4 rfl) <|
                 rwp_det rfl rfl (det_field_lit rfl fd33_0 rfl) <|
                 rwp_det rfl rfl (det_load_one rfl one2 rfl (ptr_row 0 rfl) rfl) <|
                 rwp_det rfl rfl (det_geq rfl rfl rfl) <|
                 rMv rfl <|
                 rLz [] rfl gv1 trivial (fun g28_4 => det_field_lit rfl fd50_4 rfl) rfl <|
                 rLz [(87, _)] rfl gv1 ⟨rfl, rfl, trivial⟩ (fun g28_4 => det_field_lit rfl fd33_0 rfl) rfl <|
                 rLz [(88, _)] rfl gv1 ⟨rfl, rfl, trivial⟩ (fun g28_4 => det_load_one rfl one2 rfl (ptr_row 0 rfl) rfl) rfl <|
                 rLz [(89, _)] rfl gv1 ⟨rfl, rfl, trivial⟩ (fun g28_4 => det_leq rfl rfl rfl) rfl <|
                 rwp_det rfl rfl (det_and rfl rfl rfl (fun h => h) rfl) <|
                 rMv rfl <|
                 rwp_nil <|
                 awp_ret <|
                 fin1 (rs_c rfl) ?_
                exact congrArg vB (by unfold fitsB; first | (simp [*, withinB]; done) | (simp [*, frOk]; done) | (simp [*, ty_dec]))
               ·try simp only [sx] at c15
                refine sReg rfl <|
                 rwp_det rfl rfl (det_eql rfl rfl rfl) <|
                 rMv rfl <|
                 rwp_nil <|
                 awp_cond rfl (fun c16 => ?_) (fun c16 => ?_)
                ·try simp only [sx] at c16
                 refine sReg rfl <|
                  rwp_det rfl rfl (det_field_lit rfl fd50_4 rfl) <|
                  rwp_det rfl rfl (det_field_lit rfl fd33_0 rfl) <|
                  rwp_det rfl rfl (det_load_one rfl one2 rfl (ptr_row 0 rfl) rfl) <|
                  rwp_det rfl rfl (det_geq rfl rfl rfl) <|
                  rMv rfl <|
                  rLz [] rfl gv1 trivial (fun g30_4 => det_field_lit rfl fd50_4 rfl) rfl <|
                  rLz [(99, _)] rfl gv1 ⟨rfl, rfl, trivial⟩ (fun g30_4 => det_field_lit rfl fd33_0 rfl) rfl <|
                  rLz [(100, _)] rfl gv1 ⟨rfl, rfl, trivial⟩ (fun g30_4 => det_load_one rfl one2 rfl (ptr_row 0 rfl) rfl) rfl <|
                  rLz [(101, _)] rfl gv1 ⟨rfl, rfl, trivial⟩ (fun g30_4 => det_leq rfl rfl rfl) rfl <|
                  rwp_det rfl rfl (det_and rfl rfl rfl (fun h => h) rfl) <|
                  rMv rfl <|
                  rwp_nil <|
                  awp_ret <|
                  fin1 (rs_c rfl) ?_
                 exact congrArg vB (by unfold fitsB; first | (simp [*, withinB]; done) | (simp [*, frOk]; done) | (simp [*, ty_dec]))
                ·try simp only [sx] at c16
                 refine awp_skip <|
                  sReg rfl <|
                  rwp_det rfl rfl (det_field_lit rfl fd50_5 rfl) <|
                  rwp_det rfl rfl (det_load_agg rfl agg48 rfl (ptr_row 0 rfl) rfl) <|
                  rwp_det rfl rfl (det_call rfl ok28 (value_ValidateType x.Ty) ⟨VLe.refl _, rfl, trivial⟩) <|
                  rwp_det rfl rfl (det_eql rfl rfl rfl) <|
                  rMv rfl <|
                  rwp_nil <|
                  awp_ret <|
                  fin1 (rs_c rfl) ?_
                 exact congrArg vB (by unfold fitsB; first | (simp [*, withinB]; done) | (simp [*, frOk]; done) | (simp [*, ty_dec]))

theorem isa_operands (x : In) (h0 : 0 ≤ x.Op) (h17 : x.Op < 17) :
    OwnR cfg 51 [vIn x] 3 1 ((kinds x).map fun n => [cI n]) := by
 refine con_intro Tryd.func51 rfl Tryd.ntmps51 Tryd.results51 rfl ?_
 intro z hz
 have hlen := kRow_len h0 h17
 refine sReg rfl <|
  rwp_op rfl rfl (ope_box rfl rfl) ?_
 rintro _ _ ⟨b1, rfl, rfl⟩
 refine rMv rfl <|
  rwp_weak _ (weak_own 3 1) <|
  rwp_nil <|
  sReg rfl <|
  rMv rfl <|
  rwp_weak _ (weak_own 3 1) <|
  rwp_nil <|
  awp_seq <|
  sReg rfl <|
  rwp_det rfl rfl (det_field_lit rfl fd50_0 rfl) <|
  rwp_det rfl rfl (det_load_one rfl one3 rfl (ptr_row 2 rfl) rfl) <|
  rwp_det rfl rfl (det_arr_lit rfl ar106 rfl rfl h0 h17) <|
  rwp_det rfl rfl (det_field_lit rfl fd105_1 rfl) <|
  rwp_det rfl rfl (det_load_glob rfl agg103 rfl (ops_len h0 h17) ops_one (ops_row h0 h17)) <|
  rMv rfl <|
  rwp_nil <|
  awp_block <|
  awp_weak ⟨[(11, .c _), (3, .c _), (1, .c _), (10, .agg _)], [_, _]⟩ (Weak.mk [true, false, true] ⟨VLe.of_eq rfl, VLe.of_eq rfl, VLe.of_eq rfl, VLe.of_eq rfl, trivial⟩ rfl) <|
  awp_loop_k 2 1 rfl rfl (Nat × Value) (fun ⟨k, sv⟩ => [(11, vI k), (3, .c (.lit sv))]) (fun ⟨k, sv⟩ => [E.vec sv 3 1 ((((kRow x.Op).take k).filter fun k => !skipK x k).map fun n => [cI n])]) (fun ⟨k, sv⟩ => k ≤ (kRow x.Op).length) (fun ⟨k, sv⟩ => (kRow x.Op).length - k) ⟨⟨0, (.slice none 0 0)⟩, (by omega), Weak.mk [true, true] ⟨VLe.refl _, VLe.refl _, VLe.refl _, VLe.refl _, trivial⟩ rfl⟩ ?_
 rintro ⟨k, sv⟩ hk
 show AWP _ _ _ _ _ ⟨[(11, vI k), (3, .c (.lit sv))] ++ _, [E.vec sv 3 1 ((((kRow x.Op).take k).filter fun k => !skipK x k).map fun n => [cI n])] ++ _⟩
 refine sReg rfl <|
  rwp_det rfl rfl (det_lss rfl rfl rfl) <|
  rwp_nil <|
  awp_seq <|
  awp_cond rfl (fun c1 => ?_) (fun c1 => ?_)
 ·try simp only [sx] at c1
  obtain ⟨q, hq⟩ := ex_get (kRow x.Op) k (by omega)
  refine awp_skip <|
   awp_seq <|
   awp_block <|
   sReg rfl <|
   rwp_det rfl rfl (det_index_arr rfl ar103 one3 rfl rfl (by omega) (by omega) (kRow_at hq)) <|
   rMv rfl <|
   rwp_nil <|
   awp_seq <|
   sReg rfl <|
   rMv rfl <|
   rwp_det rfl rfl (det_eql rfl rfl rfl) <|
   rMv rfl <|
   rLz [] rfl gv1 trivial (fun g5_2 => det_move rfl rfl) rfl <|
   rLz [(17, _)] rfl gv1 ⟨rfl, rfl, trivial⟩ (fun g5_2 => det_eql rfl rfl rfl) rfl <|
   rLz [(18, _)] rfl gv1 ⟨rfl, rfl, trivial⟩ (fun g5_2 => det_move rfl rfl) rfl <|
   rLz [] rfl gv2 trivial (fun g5_5 => det_field_lit rfl fd50_0 rfl) rfl <|
   rLz [(20, _)] rfl gv2 ⟨rfl, rfl, trivial⟩ (fun g5_5 => det_load_one rfl one3 rfl (ptr_row 1 rfl) rfl) rfl <|
   rLz [(21, _)] rfl gv2 ⟨rfl, rfl, trivial⟩ (fun g5_5 => det_eql rfl rfl rfl) rfl <|
   rLz [(19, _)] rfl gv1 ⟨rfl, rfl, trivial⟩ (fun g5_2 => det_and rfl rfl rfl (fun h => and_mk (by assumption) h) rfl) rfl <|
   rLz [(23, _)] rfl gv1 ⟨rfl, rfl, trivial⟩ (fun g5_2 => det_move rfl rfl) rfl <|
   rLz [] rfl gv2 trivial (fun g5_10 => det_field_lit rfl fd50_4 rfl) rfl <|
   rLz [(25, _)] rfl gv2 ⟨rfl, rfl, trivial⟩ (fun g5_10 => det_field_lit rfl fd33_0 rfl) rfl <|
   rLz [(26, _)] rfl gv2 ⟨rfl, rfl, trivial⟩ (fun g5_10 => det_load_one rfl one2 rfl (ptr_row 1 rfl) rfl) rfl <|
   rLz [(27, _)] rfl gv2 ⟨rfl, rfl, trivial⟩ (fun g5_10 => det_eql rfl rfl rfl) rfl <|
   rLz [(24, _)] rfl gv1 ⟨rfl, rfl, trivial⟩ (fun g5_2 => det_and rfl rfl rfl (fun h => and_mk (by assumption) h) rfl) rfl <|
   rwp_det rfl rfl (det_or rfl rfl rfl rfl (fun h => (lzf h))) <|
   rwp_nil <|
   awp_cond rfl (fun c2 => ?_) (fun c2 => ?_)
  ·have c2 : skipK x q = true := by rw [← skip_eq]; exact c2
   refine awp_exit <|
    awp_region rfl <|
    rwp_det rfl rfl (det_add_nw rfl rfl rfl ⟨by omega, by omega⟩) <|
    rMv rfl <|
    rwp_nil ?_
   refine ⟨⟨k + 1, sv⟩, (by omega), (by show (kRow x.Op).length - (k + 1) < (kRow x.Op).length - k; omega), Weak.mk [true, true] ⟨VLe.refl _, VLe.refl _, VLe.refl _, VLe.refl _, trivial⟩ (by exact mem1_eq (by rw [filt_no hq (by rw [c2]; rfl)]))⟩
  ·have c2 : skipK x q = false := by rw [← skip_eq]; exact c2
   have hfl : (((kRow x.Op).take k).filter fun k => !skipK x k).length ≤ 5 := Nat.le_trans (List.length_filter_le _ _) (by rw [List.length_take]; omega)
   refine awp_skip <|
    awp_region rfl <|
    rMv rfl <|
    rMv rfl <|
    rwp_det rfl rfl (det_bslice rfl el98 zr3 rfl rfl rfl rfl) <|
    rwp_op rfl rfl (ope_append 0 rfl el98 rfl rfl rfl (by simp only [List.length_map, List.length_cons, List.length_nil]; omega) (by simp only [List.length_map, List.length_cons, List.length_nil]; omega)) ?_
   rintro _ _ ⟨sv4, rfl, rfl⟩
   refine rMv rfl <|
    rwp_nil <|
    awp_region rfl <|
    rwp_det rfl rfl (det_add_nw rfl rfl rfl ⟨by omega, by omega⟩) <|
    rMv rfl <|
    rwp_nil ?_
   refine ⟨⟨k + 1, sv4⟩, (by omega), (by show (kRow x.Op).length - (k + 1) < (kRow x.Op).length - k; omega), Weak.mk [true, true] ⟨VLe.refl _, VLe.refl _, VLe.refl _, VLe.refl _, trivial⟩ (by exact mem1_eq (by rw [filt_yes hq (by rw [c2]; rfl), List.map_append]; rfl))⟩
 ·try simp only [sx] at c1
  refine awp_exit <|
   sReg rfl <|
   rMv rfl <|
   rMv rfl <|
   rwp_nil <|
   awp_weak _ (Weak.mem [true, false] rfl) <|
   awp_ret <|
   fin1 (rs_c rfl) ?_
  exact ⟨_, rfl, by rw [kinds_all (by omega)]; rfl⟩

theorem isa_jumps (op : Int) :
    Pur cfg 38 [vI op] (vB (jmpB op)) := by
 refine con_intro Tryd.func38 rfl Tryd.ntmps38 Tryd.results38 rfl ?_
 intro z hz
 refine sReg rfl <|
  rMv rfl <|
  rwp_nil <|
  awp_seq <|
  sReg rfl <|
  rMv rfl <|
  rwp_det rfl rfl (det_call rfl ok50 (isa_known op) ⟨VLe.refl _, rfl, trivial⟩) <|
  rwp_det rfl rfl (det_not rfl rfl) <|
  rwp_nil <|
  awp_cond rfl (fun c1 => ?_) (fun c1 => ?_)
 ·have hk : knownB op = false := by simpa using c1
  refine sReg rfl <|
   rMv rfl <|
   rwp_nil <|
   awp_ret <|
   fin1 (rs_c rfl) ?_
  rw [jmp_out hk]
 ·have hk : knownB op = true := by simpa using c1
  obtain ⟨h0, h17⟩ := known_in hk
  have hlen := kRow_len h0 h17
  refine awp_skip <|
   awp_seq <|
   sReg rfl <|
   rMv rfl <|
   rwp_det rfl rfl (det_arr_lit rfl ar106 rfl rfl h0 h17) <|
   rwp_det rfl rfl (det_field_lit rfl fd105_1 rfl) <|
   rwp_det rfl rfl (det_load_glob rfl agg103 rfl (ops_len h0 h17) ops_one (ops_row h0 h17)) <|
   rMv rfl <|
   rwp_nil <|
   awp_block <|
   awp_weak ⟨[(12, .c _), (11, .agg _)], []⟩ (Weak.mk [] ⟨VLe.of_eq rfl, VLe.of_eq rfl, trivial⟩ rfl) <|
   awp_loop_k 1 0 rfl rfl (Nat) (fun k => [(12, vI k)]) (fun k => []) (fun k => k ≤ (kRow op).length ∧ (((kRow op).take k).any (fun k => decide (k = 7)) = false)) (fun k => (kRow op).length - k) ⟨0, ⟨by omega, rfl⟩, Weak.mk [] ⟨VLe.refl _, VLe.refl _, trivial⟩ rfl⟩ ?_
  rintro k ⟨hk, hp⟩
  refine sReg rfl <|
   rwp_det rfl rfl (det_lss rfl rfl rfl) <|
   rwp_nil <|
   awp_seq <|
   awp_cond rfl (fun c2 => ?_) (fun c2 => ?_)
  ·try simp only [sx] at c2
   obtain ⟨q, hq⟩ := ex_get (kRow op) k (by omega)
   refine awp_skip <|
    awp_seq <|
    awp_block <|
    sReg rfl <|
    rwp_det rfl rfl (det_index_arr rfl ar103 one3 rfl rfl (by omega) (by omega) (kRow_at hq)) <|
    rMv rfl <|
    rwp_nil <|
    sReg rfl <|
    rMv rfl <|
    rwp_det rfl rfl (det_eql rfl rfl rfl) <|
    rwp_nil <|
    awp_cond rfl (fun c3 => ?_) (fun c3 => ?_)
   ·try simp only [sx] at c3
    refine sReg rfl <|
     rMv rfl <|
     rwp_nil <|
     awp_ret <|
     fin1 (rs_c rfl) ?_
    rw [← jmp_tab h0 h17, List.any_eq_true.2 ⟨q, mem_of_get hq, decide_eq_true c3⟩]
   ·try simp only [sx] at c3
    refine awp_skip <|
     awp_region rfl <|
     rwp_det rfl rfl (det_add_nw rfl rfl rfl ⟨by omega, by omega⟩) <|
     rMv rfl <|
     rwp_nil ?_
    refine ⟨k + 1, ⟨by omega, any_next hq hp (decide_eq_false c3)⟩, (by omega), Weak.mk [] ⟨VLe.refl _, VLe.refl _, trivial⟩ rfl⟩
  ·try simp only [sx] at c2
   refine awp_exit <|
    sReg rfl <|
    rMv rfl <|
    rwp_nil <|
    awp_ret <|
    fin1 (rs_c rfl) ?_
   rw [take_all (by omega)] at hp
   rw [← jmp_tab h0 h17, hp]

theorem isa_wellFormed (x : In) :
    Pur cfg 37 [vIn x] (vB (wfP x)) := by
 refine con_intro Tryd.func37 rfl Tryd.ntmps37 Tryd.results37 rfl ?_
 intro z hz
 refine sReg rfl <|
  rwp_op rfl rfl (ope_box rfl rfl) ?_
 rintro _ _ ⟨b1, rfl, rfl⟩
 refine rMv rfl <|
  rwp_nil <|
  awp_seq <|
  sReg rfl <|
  rwp_det rfl rfl (det_field_lit rfl fd50_0 rfl) <|
  rwp_det rfl rfl (det_load_one rfl one3 rfl (ptr_row 0 rfl) rfl) <|
  rwp_det rfl rfl (det_call rfl ok50 (isa_known x.Op) ⟨VLe.refl _, rfl, trivial⟩) <|
  rwp_det rfl rfl (det_not rfl rfl) <|
  rwp_nil <|
  awp_cond rfl (fun c1 => ?_) (fun c1 => ?_)
 ·have hk : knownB x.Op = false := by simpa using c1
  refine sReg rfl <|
   rMv rfl <|
   rwp_nil <|
   awp_ret <|
   fin1 (rs_c rfl) ?_
  rw [wfP, hk]; rfl
 ·have hkn : knownB x.Op = true := by simpa using c1
  obtain ⟨h0, h17⟩ := known_in hkn
  have hkl : (kinds x).length ≤ 5 := Nat.le_trans (List.length_filter_le _ _) (Nat.le_of_eq (kRow_len h0 h17))
  refine awp_skip <|
   sReg rfl <|
   rwp_det rfl rfl (det_field_lit rfl fd50_0 rfl) <|
   rwp_det rfl rfl (det_load_one rfl one3 rfl (ptr_row 0 rfl) rfl) <|
   rwp_det rfl rfl (det_build rfl zr50 pl50 rfl) <|
   rwp_op rfl rfl (ope_alloc rfl zr50) ?_
  rintro _ _ ⟨b2, rfl, rfl⟩
  refine rwp_det0 rfl rfl (det_store rfl sz50 rfl rfl rfl (st_row 0 rfl rfl)) <|
   rwp_nil <|
   awp_seq <|
   sReg rfl <|
   rwp_det rfl rfl (det_load_agg rfl agg50 rfl (ptr_row 1 rfl) rfl) <|
   rwp_det rfl rfl (det_call rfl ok51 (OwnR.pur (isa_operands x h0 h17)) ⟨VLe.refl _, rfl, trivial⟩) <|
   rwp_det rfl rfl (det_len_slm rfl el98 rfl) <|
   rMv rfl <|
   rwp_nil <|
   awp_block <|
   awp_weak ⟨[(16, .c _), (1, .c _), (3, .c _), (14, .c _), (15, .c _)], [_, _]⟩ (Weak.mk [true, true] ⟨VLe.of_eq rfl, VLe.of_eq rfl, VLe.of_eq rfl, VLe.of_eq rfl, VLe.of_eq rfl, trivial⟩ rfl) <|
   awp_loop_k 1 1 rfl rfl (Nat) (fun k => [(16, vI k)]) (fun k => [E.row b2 50 (((kinds x).take k).foldl (fun u k => keepK u x k) (in0 x.Op)).cells]) (fun k => k ≤ (kinds x).length ∧ (((kinds x).take k).all (fitsB x) = true)) (fun k => (kinds x).length - k) ⟨0, ⟨by omega, rfl⟩, Weak.mk [true, true] ⟨VLe.refl _, VLe.refl _, VLe.refl _, VLe.refl _, VLe.refl _, trivial⟩ rfl⟩ ?_
  rintro k ⟨hk, hp⟩
  refine sReg rfl <|
   rwp_det rfl rfl (det_lss rfl rfl rfl) <|
   rwp_nil <|
   awp_seq <|
   awp_cond rfl (fun c2 => ?_) (fun c2 => ?_)
  ·try simp only [sx] at c2
   obtain ⟨q, hq⟩ := ex_get (kinds x) k (by omega)
   refine awp_skip <|
    awp_seq <|
    awp_block <|
    sReg rfl <|
    rwp_det rfl rfl (det_index_sl rfl el98 rfl rfl (by omega) (getm (by assumption))) <|
    rwp_det rfl rfl (det_load_one rfl one3 rfl ptr_imm rfl) <|
    rMv rfl <|
    rwp_nil <|
    awp_seq <|
    sReg rfl <|
    rwp_det rfl rfl (det_load_agg rfl agg50 rfl (ptr_row 1 rfl) rfl) <|
    rMv rfl <|
    rwp_det rfl rfl (det_call rfl ok52 (isa_fits x q) ⟨VLe.refl _, rfl, VLe.refl _, rfl, trivial⟩) <|
    rwp_det rfl rfl (det_not rfl rfl) <|
    rwp_nil <|
    awp_cond rfl (fun c3 => ?_) (fun c3 => ?_)
   ·have c3 : fitsB x q = false := by simpa using c3
    refine sReg rfl <|
     rMv rfl <|
     rwp_nil <|
     awp_ret <|
     fin1 (rs_c rfl) ?_
    rw [wf_no hq c3]
   ·have c3 : fitsB x q = true := by simpa using c3
    refine awp_skip <|
     awp_region rfl <|
     rwp_det rfl rfl (det_load_agg rfl agg50 rfl (ptr_row 1 rfl) rfl) <|
     rMv rfl <|
     rwp_det rfl rfl (det_call_mem [0] rfl ok53 (isa_keep _ (((kinds x).take k).foldl (fun u k => keepK u x k) (in0 x.Op)) x q) ⟨VLe.refl _, rfl, VLe.refl _, rfl, VLe.refl _, rfl, trivial⟩ rfl) <|
     rwp_nil <|
     awp_region rfl <|
     rwp_det rfl rfl (det_add_nw rfl rfl rfl ⟨by omega, by omega⟩) <|
     rMv rfl <|
     rwp_nil ?_
    refine ⟨k + 1, ⟨by omega, all_next hq hp c3⟩, (by omega), Weak.mk [true, true] ⟨VLe.refl _, VLe.refl _, VLe.refl _, VLe.refl _, VLe.refl _, trivial⟩ (by show _ = [E.row b2 50 (((kinds x).take (k + 1)).foldl (fun u k => keepK u x k) (in0 x.Op)).cells] ++ _; rw [take_next hq, List.foldl_append]; rfl)⟩
  ·try simp only [sx] at c2
   rw [take_all (l := kinds x) (k := k) (by omega)] at hp
   rw [take_all (l := kinds x) (k := k) (by omega)]
   refine awp_exit <|
    sReg rfl <|
    rwp_det rfl rfl (det_load_agg rfl agg50 rfl (ptr_row 0 rfl) rfl) <|
    rwp_det rfl rfl (det_load_agg rfl agg50 rfl (ptr_row 1 rfl) rfl) <|
    rwp_det rfl rfl (det_aeql2 rfl fk50 rfl rfl rfl) <|
    rMv rfl <|
    rwp_nil <|
    awp_ret <|
    fin1 (rs_c rfl) ?_
   exact congrArg vB (by rw [← wf_yes hkn hp, ← in_lits]; rfl)

theorem isa_valid (x : In) (m t w : Int) :
    Pur cfg 29 [vIn x, vI m, vI t, vI w] (vB (inOk m t w x)) := by
 refine con_intro Tryd.func29 rfl Tryd.ntmps29 Tryd.results29 rfl ?_
 intro z hz
 refine sReg rfl <|
  rwp_op rfl rfl (ope_box rfl rfl) ?_
 rintro _ _ ⟨b1, rfl, rfl⟩
 refine rMv rfl <|
  rwp_nil <|
  awp_seq <|
  awp_block <|
  sReg rfl <|
  rwp_det rfl rfl (det_load_agg rfl agg50 rfl (ptr_row 0 rfl) rfl) <|
  rwp_det rfl rfl (det_call rfl ok37 (isa_wellFormed x) ⟨VLe.refl _, rfl, trivial⟩) <|
  rwp_det rfl rfl (det_not rfl rfl) <|
  rMv rfl <|
  rwp_nil <|
  awp_cond rfl (fun c1 => ?_) (fun c1 => ?_)
 ·have hw : wfP x = false := by simpa using c1
  refine sReg rfl <|
   rMv rfl <|
   rwp_nil <|
   awp_ret <|
   fin1 (rs_c rfl) ?_
  rw [val1 hw]
 ·have hw : wfP x = true := by simpa using c1
  refine sReg rfl <|
   rwp_det rfl rfl (det_field_lit rfl fd50_0 rfl) <|
   rwp_det rfl rfl (det_load_one rfl one3 rfl (ptr_row 0 rfl) rfl) <|
   rwp_det rfl rfl (det_call rfl ok38 (isa_jumps x.Op) ⟨VLe.refl _, rfl, trivial⟩) <|
   rMv rfl <|
   rwp_nil <|
   awp_cond rfl (fun c2 => ?_) (fun c2 => ?_)
  ·try simp only [sx] at c2
   refine sReg rfl <|
    rwp_det rfl rfl (det_field_lit rfl fd50_1 rfl) <|
    rwp_det rfl rfl (det_load_one rfl one3 rfl (ptr_row 0 rfl) rfl) <|
    rMv rfl <|
    rwp_det rfl rfl (det_lss rfl rfl rfl) <|
    rMv rfl <|
    rwp_nil <|
    awp_ret <|
    fin1 (rs_c rfl) ?_
   exact congrArg vB (val2 hw c2)
  ·try simp only [sx] at c2
   have hj : jmpB x.Op = false := by simpa using c2
   refine sReg rfl <|
    rwp_det rfl rfl (det_field_lit rfl fd50_0 rfl) <|
    rwp_det rfl rfl (det_load_one rfl one3 rfl (ptr_row 0 rfl) rfl) <|
    rwp_det rfl rfl (det_eql rfl rfl rfl) <|
    rMv rfl <|
    rLz [] rfl gv1 trivial (fun g5_3 => det_field_lit rfl fd50_0 rfl) rfl <|
    rLz [(26, _)] rfl gv1 ⟨rfl, rfl, trivial⟩ (fun g5_3 => det_load_one rfl one3 rfl (ptr_row 0 rfl) rfl) rfl <|
    rLz [(27, _)] rfl gv1 ⟨rfl, rfl, trivial⟩ (fun g5_3 => det_eql rfl rfl rfl) rfl <|
    rwp_det rfl rfl (det_or rfl rfl rfl rfl (fun h => (lzf h))) <|
    rMv rfl <|
    rwp_nil <|
    awp_cond rfl (fun c3 => ?_) (fun c3 => ?_)
   ·have h3 : x.Op = 10 ∨ x.Op = 11 := by simpa using c3
    refine sReg rfl <|
     rwp_det rfl rfl (det_field_lit rfl fd50_3 rfl) <|
     rwp_det rfl rfl (det_load_one rfl one3 rfl (ptr_row 0 rfl) rfl) <|
     rMv rfl <|
     rwp_det rfl rfl (det_leq rfl rfl rfl) <|
     rMv rfl <|
     rwp_nil <|
     awp_ret <|
     fin1 (rs_c rfl) ?_
    exact congrArg vB (val3 hw hj h3)
   ·have h3 : ¬ (x.Op = 10 ∨ x.Op = 11) := by simpa using c3
    refine sReg rfl <|
     rwp_det rfl rfl (det_field_lit rfl fd50_0 rfl) <|
     rwp_det rfl rfl (det_load_one rfl one3 rfl (ptr_row 0 rfl) rfl) <|
     rwp_det rfl rfl (det_eql rfl rfl rfl) <|
     rMv rfl <|
     rwp_nil <|
     awp_cond rfl (fun c4 => ?_) (fun c4 => ?_)
    ·try simp only [sx] at c4
     refine sReg rfl <|
      rwp_det rfl rfl (det_field_lit rfl fd50_4 rfl) <|
      rwp_det rfl rfl (det_field_lit rfl fd33_0 rfl) <|
      rwp_det rfl rfl (det_load_one rfl one2 rfl (ptr_row 0 rfl) rfl) <|
      rMv rfl <|
      rwp_det rfl rfl (det_lss rfl rfl rfl) <|
      rMv rfl <|
      rwp_nil <|
      awp_ret <|
      fin1 (rs_c rfl) ?_
     exact congrArg vB (val4 hw hj c4)
    ·try simp only [sx] at c4
     refine awp_skip <|
      sReg rfl <|
      rMv rfl <|
      rwp_nil <|
      awp_ret <|
      fin1 (rs_c rfl) ?_
     rw [val5 hw hj h3 c4]

theorem isa_Validate (code : List In) (tys : List Ty) (w : Int) (htl : tys.length ≤ 1000000) :
    Pur cfg 16 [vIns code, vTys tys, vI w] (.tup [vI (vld code tys w).1, vI (vld code tys w).2]) := by
 refine con_intro Tryd.func16 rfl Tryd.ntmps16 Tryd.results16 rfl ?_
 intro z hz
 refine sReg rfl <|
  rMv rfl <|
  rMv rfl <|
  rwp_nil <|
  awp_seq <|
  awp_block <|
  sReg rfl <|
  rMv rfl <|
  rwp_det rfl rfl (det_len_slm rfl el29 rfl) <|
  rwp_det rfl rfl (det_gtr rfl rfl rfl) <|
  rMv rfl <|
  rwp_nil <|
  awp_cond rfl (fun c1 => ?_) (fun c1 => ?_)
 ·try simp only [sx] at c1
  refine sReg rfl <|
   rMv rfl <|
   rMv rfl <|
   rwp_nil <|
   awp_ret <|
   fin2 (rs_c rfl) (rs_c rfl) ?_
  rw [vld1 c1]
 ·try simp only [sx] at c1
  refine sReg rfl <|
   rMv rfl <|
   rwp_det rfl rfl (det_call rfl ok27 (isa_within w 0 1048576) ⟨VLe.refl _, rfl, VLe.refl _, rfl, VLe.refl _, rfl, trivial⟩) <|
   rwp_det rfl rfl (det_not rfl rfl) <|
   rMv rfl <|
   rwp_nil <|
   awp_cond rfl (fun c2 => ?_) (fun c2 => ?_)
  ·have c2 : withinB w 0 1048576 = false := by simpa using c2
   refine sReg rfl <|
    rMv rfl <|
    rMv rfl <|
    rwp_nil <|
    awp_ret <|
    fin2 (rs_c rfl) (rs_c rfl) ?_
   rw [vld2 (by omega) c2]
  ·have c2 : withinB w 0 1048576 = true := by simpa using c2
   refine awp_skip <|
    awp_seq <|
    sReg rfl <|
    rMv rfl <|
    rwp_det rfl rfl (det_len_slm rfl el30 rfl) <|
    rMv rfl <|
    rwp_nil <|
    awp_block <|
    awp_weak ⟨[(22, .c _), (0, .c _), (1, .c _), (2, .c _), (20, .c _), (21, .c _)], []⟩ (Weak.mk [] ⟨VLe.of_eq rfl, VLe.of_eq rfl, VLe.of_eq rfl, VLe.of_eq rfl, VLe.of_eq rfl, VLe.of_eq rfl, trivial⟩ rfl) <|
    awp_loop_k 1 0 rfl rfl (Nat) (fun k => [(22, vI k)]) (fun k => []) (fun k => k ≤ tys.length ∧ ((tys.take k).any (fun t => !tyOk t) = false)) (fun k => tys.length - k) ⟨0, ⟨by omega, rfl⟩, Weak.mk [] ⟨VLe.refl _, VLe.refl _, VLe.refl _, VLe.refl _, VLe.refl _, VLe.refl _, trivial⟩ rfl⟩ ?_
   rintro k ⟨hk, hp⟩
   refine sReg rfl <|
    rwp_det rfl rfl (det_lss rfl rfl rfl) <|
    rwp_nil <|
    awp_seq <|
    awp_cond rfl (fun c3 => ?_) (fun c3 => ?_)
   ·try simp only [sx] at c3
    obtain ⟨x, hx⟩ := ex_get tys k (by omega)
    refine awp_skip <|
     awp_seq <|
     awp_block <|
     sReg rfl <|
     rwp_det rfl rfl (det_index_sl rfl el30 rfl rfl (by omega) (getm (by assumption))) <|
     rwp_det rfl rfl (det_load_agg rfl agg48 rfl ptr_imm rfl) <|
     rwp_op rfl rfl (ope_alloc rfl zr48) ?_
    rintro _ _ ⟨b1, rfl, rfl⟩
    refine rwp_det0 rfl rfl (det_store rfl sz48 rfl rfl rfl (st_row 0 rfl rfl)) <|
     rwp_nil <|
     sReg rfl <|
     rwp_det rfl rfl (det_load_agg rfl agg48 rfl (ptr_row 0 rfl) rfl) <|
     rwp_det rfl rfl (det_call rfl ok28 (value_ValidateType x) ⟨VLe.refl _, rfl, trivial⟩) <|
     rwp_det rfl rfl (det_neq rfl rfl rfl) <|
     rwp_nil <|
     awp_cond rfl (fun c4 => ?_) (fun c4 => ?_)
    ·try simp only [sx] at c4
     have h4 := tyErr_ne c4
     refine sReg rfl <|
      rMv rfl <|
      rMv rfl <|
      rwp_nil <|
      awp_ret <|
      fin2 (rs_c rfl) (rs_c rfl) ?_
     rw [vld3 (by omega) c2 hx h4]
    ·try simp only [sx] at c4
     have h4 : tyOk x = true := tyErr_eq (by omega)
     refine awp_skip <|
      awp_region rfl <|
      rwp_det rfl rfl (det_add_nw rfl rfl rfl ⟨by omega, by omega⟩) <|
      rMv rfl <|
      rwp_nil ?_
     refine ⟨k + 1, ⟨by omega, any_next hx hp (by rw [h4]; rfl)⟩, (by omega), Weak.mk [false] ⟨VLe.refl _, VLe.refl _, VLe.refl _, VLe.refl _, VLe.refl _, VLe.refl _, trivial⟩ rfl⟩
   ·try simp only [sx] at c3
    rw [take_all (l := tys) (k := k) (by omega)] at hp
    refine awp_exit <|
     awp_seq <|
     sReg rfl <|
     rMv rfl <|
     rwp_det rfl rfl (det_len_slm rfl el29 rfl) <|
     rMv rfl <|
     rwp_nil <|
     awp_block <|
     awp_weak ⟨[(32, .c _), (0, .c _), (1, .c _), (2, .c _), (30, .c _), (31, .c _)], []⟩ (Weak.mk [] ⟨VLe.of_eq rfl, VLe.of_eq rfl, VLe.of_eq rfl, VLe.of_eq rfl, VLe.of_eq rfl, VLe.of_eq rfl, trivial⟩ rfl) <|
     awp_loop_k 1 0 rfl rfl (Nat) (fun j => [(32, vI j)]) (fun j => []) (fun j => j ≤ code.length ∧ ((code.take j).any (fun x => !inOk code.length tys.length w x) = false)) (fun j => code.length - j) ⟨0, ⟨by omega, rfl⟩, Weak.mk [] ⟨VLe.refl _, VLe.refl _, VLe.refl _, VLe.refl _, VLe.refl _, VLe.refl _, trivial⟩ rfl⟩ ?_
    rintro j ⟨hj, hr⟩
    refine sReg rfl <|
     rwp_det rfl rfl (det_lss rfl rfl rfl) <|
     rwp_nil <|
     awp_seq <|
     awp_cond rfl (fun c5 => ?_) (fun c5 => ?_)
    ·try simp only [sx] at c5
     obtain ⟨y, hy⟩ := ex_get code j (by omega)
     refine awp_skip <|
      awp_seq <|
      awp_block <|
      sReg rfl <|
      rMv rfl <|
      rwp_det rfl rfl (det_index_sl rfl el29 rfl rfl (by omega) (getm (by assumption))) <|
      rwp_det rfl rfl (det_load_agg rfl agg50 rfl ptr_imm rfl) <|
      rwp_op rfl rfl (ope_alloc rfl zr50) ?_
     rintro _ _ ⟨b2, rfl, rfl⟩
     refine rMv rfl <|
      rwp_det0 rfl rfl (det_store rfl sz50 rfl rfl rfl (st_row 0 rfl rfl)) <|
      rwp_nil <|
      sReg rfl <|
      rwp_det rfl rfl (det_load_agg rfl agg50 rfl (ptr_row 0 rfl) rfl) <|
      rMv rfl <|
      rwp_det rfl rfl (det_len_slm rfl el29 rfl) <|
      rMv rfl <|
      rwp_det rfl rfl (det_len_slm rfl el30 rfl) <|
      rMv rfl <|
      rwp_det rfl rfl (det_call rfl ok29 (isa_valid y code.length tys.length w) ⟨VLe.refl _, rfl, VLe.refl _, rfl, VLe.refl _, rfl, VLe.refl _, rfl, trivial⟩) <|
      rwp_det rfl rfl (det_not rfl rfl) <|
      rwp_nil <|
      awp_cond rfl (fun c6 => ?_) (fun c6 => ?_)
     ·have c6 : (!inOk code.length tys.length w y) = true := c6
      refine sReg rfl <|
       rMv rfl <|
       rMv rfl <|
       rMv rfl <|
       rwp_nil <|
       awp_ret <|
       fin2 (rs_c rfl) (rs_c rfl) ?_
      rw [vldF (by omega) c2 hp, firstBad_at hy c6 hr]
     ·have c6 : (!inOk code.length tys.length w y) = false := c6
      refine awp_skip <|
       awp_region rfl <|
       rwp_det rfl rfl (det_add_nw rfl rfl rfl ⟨by omega, by omega⟩) <|
       rMv rfl <|
       rwp_nil ?_
      refine ⟨j + 1, ⟨by omega, any_next hy hr c6⟩, (by omega), Weak.mk [false] ⟨VLe.refl _, VLe.refl _, VLe.refl _, VLe.refl _, VLe.refl _, VLe.refl _, trivial⟩ rfl⟩
    ·try simp only [sx] at c5
     refine awp_exit <|
      sReg rfl <|
      rMv rfl <|
      rMv rfl <|
      rwp_nil <|
      awp_ret <|
      fin2 (rs_c rfl) (rs_c rfl) ?_
     rw [vldF (by omega) c2 hp, firstBad_no (by omega) hr]

end Go.W
