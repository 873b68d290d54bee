/-
  Walks: what functions of the program compute. Printed by wip/gen/mk2.py.
  Conditions: none.
-/
import Derived.Test.YtmmiedgoamlhpaaDoorWB
import Derived.Test.YtmmiedgoamlhpaaDoorPlainM
import Derived.Test.YtmmiedgoamlhpaaDoorEngZ
set_option linter.unusedSimpArgs false
set_option linter.unusedVariables false
set_option maxRecDepth 10000
namespace Go.W
open Go Go.Eng Go.Proofs Go.L41 Go.Br
attribute [local irreducible] AWP RWP TD finQ
theorem arr2_at {q k : Nat} (h : k < 2) : ([.lit (.int .u64 (q : Int)), .lit (.int .u64 ((q + 1 : Nat) : Int))] : List C)[((k : Int)).toNat]? = some (.lit (.int .u64 ((q + k : Nat) : Int))) := by
  rcases (show k = 0 ∨ k = 1 by omega) with rfl | rfl <;> rfl
theorem ar127 : arrT Tryd.prog 127 = some (2, 89, 1) := by kernel_rfl
theorem ik2 : intT Tryd.prog 2 = some .i64 := by kernel_rfl
theorem ok59 : callOk Tryd.prog 59 = true := by kernel_rfl
theorem ok81 : callOk Tryd.prog 81 = true := by kernel_rfl
theorem ok83 : callOk Tryd.prog 83 = true := by kernel_rfl
theorem ok85 : callOk Tryd.prog 85 = true := by kernel_rfl
theorem ok86 : callOk Tryd.prog 86 = true := by kernel_rfl
theorem one89 : oneT Tryd.prog 89 = true := by kernel_rfl
theorem pl33 : placesT Tryd.prog 33 = some [(0, 1), (1, 1)] := by kernel_rfl
theorem pla127 : placesA Tryd.prog 127 = some (2, 1) := by kernel_rfl
theorem sz33 : (Tryd.prog.info? 33).map (·.size) = some 2 := by kernel_rfl
theorem un4 : Tryd.prog.underlying 4 = some .bool := by kernel_rfl
theorem us89 : (Tryd.prog.underlying 89).isSome = true := by kernel_rfl
theorem zr33 : zeroT Tryd.prog 33 = some [(Value.int IntKind.i64 0), (Value.int IntKind.i64 0)] := by kernel_rfl
theorem zr127 : zeroT Tryd.prog 127 = some [(Value.int IntKind.u64 0), (Value.int IntKind.u64 0)] := by kernel_rfl
theorem frac_New (n d : Int) (hn : In64 n) (hd : In64 d) :
    Pur cfg 81 [vI n, vI d] (.tup [vVal (newF n d).1, vI (newF n d).2]) := by
 refine con_intro Tryd.func81 rfl Tryd.ntmps81 Tryd.results81 rfl ?_
 intro z hz
 have hn1 := hn.1
 have hn2 := hn.2
 have hd1 := hd.1
 have hd2 := hd.2
 refine sReg rfl <|
  rwp_op rfl rfl (ope_alloc rfl zr33) ?_
 rintro _ _ ⟨b1, rfl, rfl⟩
 refine rMv rfl <|
  rwp_nil <|
  awp_seq <|
  sReg rfl <|
  rMv rfl <|
  rwp_det rfl rfl (det_eql rfl rfl rfl) <|
  rwp_nil <|
  awp_cond rfl (fun c1 => ?_) (fun c1 => ?_)
 ·try simp only [sx] at c1
  refine sReg rfl <|
   rwp_det rfl rfl (det_build rfl zr33 pl33 rfl) <|
   rwp_det0 rfl rfl (det_store rfl sz33 rfl rfl rfl (st_row 0 rfl rfl)) <|
   rMv rfl <|
   rwp_nil <|
   awp_ret <|
   fin2 (rs_cell_agg agg33 rfl (ptr_row 0 rfl) rfl) (rs_c rfl) ?_
  rw [newF_zero c1]; rfl
 ·try simp only [sx] at c1
  have hg : 0 < Nat.gcd n.natAbs d.natAbs := Nat.gcd_pos_of_pos_right _ (by omega)
  refine awp_skip <|
   sReg rfl <|
   rMv rfl <|
   rwp_det rfl rfl (det_lss rfl rfl rfl) <|
   rMv rfl <|
   rwp_det rfl rfl (det_lss rfl rfl rfl) <|
   rwp_det rfl rfl (det_bneq rfl un4 rfl rfl) <|
   rMv rfl <|
   rwp_nil <|
   sReg rfl <|
   rMv rfl <|
   rwp_det rfl rfl (det_call rfl ok58 (frac_magnitude n hn.1 hn.2) ⟨VLe.refl _, rfl, trivial⟩) <|
   rMv rfl <|
   rwp_det rfl rfl (det_call rfl ok58 (frac_magnitude d hd.1 hd.2) ⟨VLe.refl _, rfl, trivial⟩) <|
   rMv rfl <|
   rMv rfl <|
   rwp_nil <|
   sReg rfl <|
   rMv rfl <|
   rMv rfl <|
   rwp_det rfl rfl (det_call rfl ok57 (frac_gcd n.natAbs d.natAbs) ⟨VLe.refl _, rfl, VLe.refl _, rfl, trivial⟩) <|
   rMv rfl <|
   rwp_nil <|
   awp_seq <|
   awp_draw 8 mixed (by kernel_rfl) rfl rfl <|
   td_det rfl rfl (det_move rfl rfl) <|
   td_det rfl rfl (det_move rfl rfl) <|
   td_det rfl rfl (det_uquo rfl rfl rfl ⟨by omega, by omega⟩) <|
   td_det rfl rfl (det_move rfl rfl) <|
   td_det rfl rfl (det_move rfl rfl) <|
   td_det rfl rfl (det_uquo rfl rfl rfl ⟨by omega, by omega⟩) <|
   td_det rfl rfl (det_assign rfl rfl) <|
   td_det rfl rfl (det_assign rfl rfl) <|
   td_nil <|
   rwp_nil <|
   awp_seq <|
   sReg rfl <|
   rMv rfl <|
   rwp_det rfl rfl (det_gtr rfl rfl rfl) <|
   rMv rfl <|
   rLz [] rfl gv1 trivial (fun g7_2 => det_move rfl rfl) rfl <|
   rLz [(34, _)] rfl gv1 ⟨rfl, rfl, trivial⟩ (fun g7_2 => det_gtr rfl rfl rfl) rfl <|
   rwp_det rfl rfl (det_or rfl rfl rfl rfl (fun h => (lzf h))) <|
   rwp_nil <|
   awp_cond rfl (fun c2 => ?_) (fun c2 => ?_)
  ·refine sReg rfl <|
    rwp_det rfl rfl (det_build rfl zr33 pl33 rfl) <|
    rwp_det0 rfl rfl (det_store rfl sz33 rfl rfl rfl (st_row 0 rfl rfl)) <|
    rMv rfl <|
    rwp_nil <|
    awp_ret <|
    fin2 (rs_cell_agg agg33 rfl (ptr_row 0 rfl) rfl) (rs_c rfl) ?_
   rw [newF_nz c1, madF_big c2]; rfl
  ·refine awp_skip <|
    awp_seq <|
    sReg rfl <|
    rMv rfl <|
    rwp_nil <|
    awp_cond rfl (fun c3 => ?_) (fun c3 => ?_)
   ·refine sReg rfl <|
     rMv rfl <|
     rwp_det rfl rfl (det_conv rfl us89 ik2 rfl) <|
     rwp_det rfl rfl (det_neg rfl rfl) <|
     rMv rfl <|
     rwp_det rfl rfl (det_conv rfl us89 ik2 rfl) <|
     rwp_det rfl rfl (det_build rfl zr33 pl33 rfl) <|
     rwp_det0 rfl rfl (det_store rfl sz33 rfl rfl rfl (st_row 0 rfl rfl)) <|
     rMv rfl <|
     rwp_nil <|
     awp_ret <|
     fin2 (rs_cell_agg agg33 rfl (ptr_row 0 rfl) rfl) (rs_c rfl) ?_
    have c3 : sgnD n d = true := c3
    rw [newF_nz c1, madF_fin c2, c3]; rfl
   ·refine awp_skip <|
     sReg rfl <|
     rMv rfl <|
     rwp_det rfl rfl (det_conv rfl us89 ik2 rfl) <|
     rMv rfl <|
     rwp_det rfl rfl (det_conv rfl us89 ik2 rfl) <|
     rwp_det rfl rfl (det_build rfl zr33 pl33 rfl) <|
     rwp_det0 rfl rfl (det_store rfl sz33 rfl rfl rfl (st_row 0 rfl rfl)) <|
     rMv rfl <|
     rwp_nil <|
     awp_ret <|
     fin2 (rs_cell_agg agg33 rfl (ptr_row 0 rfl) rfl) (rs_c rfl) ?_
    have c3 : sgnD n d = false := c3
    rw [newF_nz c1, madF_fin c2, c3]; rfl

theorem frac_Add (a b : Vl) :
    Pur cfg 66 [vVal a, vVal b] (.tup [vVal (frX 4 a b).1, vI (frX 4 a b).2]) := by
 refine con_intro Tryd.func66 rfl Tryd.ntmps66 Tryd.results66 rfl ?_
 intro z hz
 refine sReg rfl <|
  rwp_op rfl rfl (ope_box rfl rfl) ?_
 rintro _ _ ⟨b1, rfl, rfl⟩
 refine rwp_op rfl rfl (ope_box rfl rfl) ?_
 rintro _ _ ⟨b2, rfl, rfl⟩
 refine rwp_op rfl rfl (ope_alloc rfl zr33) ?_
 rintro _ _ ⟨b3, rfl, rfl⟩
 refine rMv rfl <|
  rwp_nil <|
  awp_seq <|
  sReg rfl <|
  rwp_det rfl rfl (det_load_agg rfl agg33 rfl (ptr_row 2 rfl) rfl) <|
  rwp_det rfl rfl (det_call rfl ok43 (frac_Valid a) ⟨VLe.refl _, rfl, trivial⟩) <|
  rwp_det rfl rfl (det_not rfl rfl) <|
  rMv rfl <|
  rLz [] rfl gv1 trivial (fun g1_3 => det_load_agg rfl agg33 rfl (ptr_row 1 rfl) rfl) rfl <|
  rLz [(10, _)] rfl gv1 ⟨rfl, rfl, trivial⟩ (fun g1_3 => det_call rfl ok43 (frac_Valid b) ⟨VLe.refl _, rfl, trivial⟩) rfl <|
  rLz [(11, _)] rfl gv1 ⟨rfl, rfl, trivial⟩ (fun g1_3 => det_not rfl rfl) rfl <|
  rwp_det rfl rfl (det_or rfl rfl rfl rfl (fun h => (lzf h))) <|
  rwp_nil <|
  awp_cond rfl (fun c1 => ?_) (fun c1 => ?_)
 ·have c1 : (!frOk a || !frOk b) = true := c1
  refine sReg rfl <|
   rwp_det rfl rfl (det_build rfl zr33 pl33 rfl) <|
   rwp_det0 rfl rfl (det_store rfl sz33 rfl rfl rfl (st_row 0 rfl rfl)) <|
   rMv rfl <|
   rwp_nil <|
   awp_ret <|
   fin2 (rs_cell_agg agg33 rfl (ptr_row 0 rfl) rfl) (rs_c rfl) ?_
  rw [frX_no c1]; rfl
 ·have c1 : (!frOk a || !frOk b) = false := c1
  obtain ⟨ha, hb⟩ := fr_both c1
  obtain ⟨b1, b2, b3, b4, b5, b6, b7⟩ := fr_bounds ha hb
  refine awp_skip <|
   sReg rfl <|
   rwp_det rfl rfl (det_field_lit rfl fd33_0 rfl) <|
   rwp_det rfl rfl (det_load_one rfl one2 rfl (ptr_row 2 rfl) rfl) <|
   rwp_det rfl rfl (det_field_lit rfl fd33_1 rfl) <|
   rwp_det rfl rfl (det_load_one rfl one2 rfl (ptr_row 1 rfl) rfl) <|
   rwp_det rfl rfl (det_mul_nw rfl rfl rfl ⟨by omega, by omega⟩) <|
   rwp_det rfl rfl (det_field_lit rfl fd33_0 rfl) <|
   rwp_det rfl rfl (det_load_one rfl one2 rfl (ptr_row 1 rfl) rfl) <|
   rwp_det rfl rfl (det_field_lit rfl fd33_1 rfl) <|
   rwp_det rfl rfl (det_load_one rfl one2 rfl (ptr_row 2 rfl) rfl) <|
   rwp_det rfl rfl (det_mul_nw rfl rfl rfl ⟨by omega, by omega⟩) <|
   rwp_det rfl rfl (det_add_nw rfl rfl rfl ⟨by omega, by omega⟩) <|
   rwp_det rfl rfl (det_field_lit rfl fd33_1 rfl) <|
   rwp_det rfl rfl (det_load_one rfl one2 rfl (ptr_row 2 rfl) rfl) <|
   rwp_det rfl rfl (det_field_lit rfl fd33_1 rfl) <|
   rwp_det rfl rfl (det_load_one rfl one2 rfl (ptr_row 1 rfl) rfl) <|
   rwp_det rfl rfl (det_mul_nw rfl rfl rfl ⟨by omega, by omega⟩) <|
   rwp_det rfl rfl (det_call rfl ok81 (frac_New (a.N * b.D + b.N * a.D) (a.D * b.D) ⟨by omega, by omega⟩ ⟨by omega, by omega⟩) ⟨VLe.refl _, rfl, VLe.refl _, rfl, trivial⟩) <|
   rwp_det rfl rfl (det_ex_agg rfl rfl rfl) <|
   rwp_det rfl rfl (det_ex_c rfl rfl rfl) <|
   rwp_det0 rfl rfl (det_store rfl sz33 rfl rfl rfl (st_row 0 rfl rfl)) <|
   rMv rfl <|
   rwp_nil <|
   awp_ret <|
   fin2 (rs_cell_agg agg33 rfl (ptr_row 0 rfl) rfl) (rs_c rfl) ?_
  rw [frX_yes ha hb]; rfl

theorem frac_Sub (a b : Vl) :
    Pur cfg 67 [vVal a, vVal b] (.tup [vVal (frX 5 a b).1, vI (frX 5 a b).2]) := by
 refine con_intro Tryd.func67 rfl Tryd.ntmps67 Tryd.results67 rfl ?_
 intro z hz
 refine sReg rfl <|
  rwp_op rfl rfl (ope_box rfl rfl) ?_
 rintro _ _ ⟨b1, rfl, rfl⟩
 refine rwp_op rfl rfl (ope_box rfl rfl) ?_
 rintro _ _ ⟨b2, rfl, rfl⟩
 refine rwp_op rfl rfl (ope_alloc rfl zr33) ?_
 rintro _ _ ⟨b3, rfl, rfl⟩
 refine rMv rfl <|
  rwp_nil <|
  awp_seq <|
  sReg rfl <|
  rwp_det rfl rfl (det_load_agg rfl agg33 rfl (ptr_row 2 rfl) rfl) <|
  rwp_det rfl rfl (det_call rfl ok43 (frac_Valid a) ⟨VLe.refl _, rfl, trivial⟩) <|
  rwp_det rfl rfl (det_not rfl rfl) <|
  rMv rfl <|
  rLz [] rfl gv1 trivial (fun g1_3 => det_load_agg rfl agg33 rfl (ptr_row 1 rfl) rfl) rfl <|
  rLz [(10, _)] rfl gv1 ⟨rfl, rfl, trivial⟩ (fun g1_3 => det_call rfl ok43 (frac_Valid b) ⟨VLe.refl _, rfl, trivial⟩) rfl <|
  rLz [(11, _)] rfl gv1 ⟨rfl, rfl, trivial⟩ (fun g1_3 => det_not rfl rfl) rfl <|
  rwp_det rfl rfl (det_or rfl rfl rfl rfl (fun h => (lzf h))) <|
  rwp_nil <|
  awp_cond rfl (fun c1 => ?_) (fun c1 => ?_)
 ·have c1 : (!frOk a || !frOk b) = true := c1
  refine sReg rfl <|
   rwp_det rfl rfl (det_build rfl zr33 pl33 rfl) <|
   rwp_det0 rfl rfl (det_store rfl sz33 rfl rfl rfl (st_row 0 rfl rfl)) <|
   rMv rfl <|
   rwp_nil <|
   awp_ret <|
   fin2 (rs_cell_agg agg33 rfl (ptr_row 0 rfl) rfl) (rs_c rfl) ?_
  rw [frX_no c1]; rfl
 ·have c1 : (!frOk a || !frOk b) = false := c1
  obtain ⟨ha, hb⟩ := fr_both c1
  obtain ⟨b1, b2, b3, b4, b5, b6, b7⟩ := fr_bounds ha hb
  refine awp_skip <|
   sReg rfl <|
   rwp_det rfl rfl (det_field_lit rfl fd33_0 rfl) <|
   rwp_det rfl rfl (det_load_one rfl one2 rfl (ptr_row 2 rfl) rfl) <|
   rwp_det rfl rfl (det_field_lit rfl fd33_1 rfl) <|
   rwp_det rfl rfl (det_load_one rfl one2 rfl (ptr_row 1 rfl) rfl) <|
   rwp_det rfl rfl (det_mul_nw rfl rfl rfl ⟨by omega, by omega⟩) <|
   rwp_det rfl rfl (det_field_lit rfl fd33_0 rfl) <|
   rwp_det rfl rfl (det_load_one rfl one2 rfl (ptr_row 1 rfl) rfl) <|
   rwp_det rfl rfl (det_field_lit rfl fd33_1 rfl) <|
   rwp_det rfl rfl (det_load_one rfl one2 rfl (ptr_row 2 rfl) rfl) <|
   rwp_det rfl rfl (det_mul_nw rfl rfl rfl ⟨by omega, by omega⟩) <|
   rwp_det rfl rfl (det_sub_nw rfl rfl rfl ⟨by omega, by omega⟩) <|
   rwp_det rfl rfl (det_field_lit rfl fd33_1 rfl) <|
   rwp_det rfl rfl (det_load_one rfl one2 rfl (ptr_row 2 rfl) rfl) <|
   rwp_det rfl rfl (det_field_lit rfl fd33_1 rfl) <|
   rwp_det rfl rfl (det_load_one rfl one2 rfl (ptr_row 1 rfl) rfl) <|
   rwp_det rfl rfl (det_mul_nw rfl rfl rfl ⟨by omega, by omega⟩) <|
   rwp_det rfl rfl (det_call rfl ok81 (frac_New (a.N * b.D - b.N * a.D) (a.D * b.D) ⟨by omega, by omega⟩ ⟨by omega, by omega⟩) ⟨VLe.refl _, rfl, VLe.refl _, rfl, trivial⟩) <|
   rwp_det rfl rfl (det_ex_agg rfl rfl rfl) <|
   rwp_det rfl rfl (det_ex_c rfl rfl rfl) <|
   rwp_det0 rfl rfl (det_store rfl sz33 rfl rfl rfl (st_row 0 rfl rfl)) <|
   rMv rfl <|
   rwp_nil <|
   awp_ret <|
   fin2 (rs_cell_agg agg33 rfl (ptr_row 0 rfl) rfl) (rs_c rfl) ?_
  rw [frX_yes ha hb]; rfl

theorem frac_Mul (a b : Vl) :
    Pur cfg 68 [vVal a, vVal b] (.tup [vVal (frX 6 a b).1, vI (frX 6 a b).2]) := by
 refine con_intro Tryd.func68 rfl Tryd.ntmps68 Tryd.results68 rfl ?_
 intro z hz
 refine sReg rfl <|
  rwp_op rfl rfl (ope_box rfl rfl) ?_
 rintro _ _ ⟨b1, rfl, rfl⟩
 refine rwp_op rfl rfl (ope_box rfl rfl) ?_
 rintro _ _ ⟨b2, rfl, rfl⟩
 refine rwp_op rfl rfl (ope_alloc rfl zr33) ?_
 rintro _ _ ⟨b3, rfl, rfl⟩
 refine rMv rfl <|
  rwp_nil <|
  awp_seq <|
  sReg rfl <|
  rwp_det rfl rfl (det_load_agg rfl agg33 rfl (ptr_row 2 rfl) rfl) <|
  rwp_det rfl rfl (det_call rfl ok43 (frac_Valid a) ⟨VLe.refl _, rfl, trivial⟩) <|
  rwp_det rfl rfl (det_not rfl rfl) <|
  rMv rfl <|
  rLz [] rfl gv1 trivial (fun g1_3 => det_load_agg rfl agg33 rfl (ptr_row 1 rfl) rfl) rfl <|
  rLz [(10, _)] rfl gv1 ⟨rfl, rfl, trivial⟩ (fun g1_3 => det_call rfl ok43 (frac_Valid b) ⟨VLe.refl _, rfl, trivial⟩) rfl <|
  rLz [(11, _)] rfl gv1 ⟨rfl, rfl, trivial⟩ (fun g1_3 => det_not rfl rfl) rfl <|
  rwp_det rfl rfl (det_or rfl rfl rfl rfl (fun h => (lzf h))) <|
  rwp_nil <|
  awp_cond rfl (fun c1 => ?_) (fun c1 => ?_)
 ·have c1 : (!frOk a || !frOk b) = true := c1
  refine sReg rfl <|
   rwp_det rfl rfl (det_build rfl zr33 pl33 rfl) <|
   rwp_det0 rfl rfl (det_store rfl sz33 rfl rfl rfl (st_row 0 rfl rfl)) <|
   rMv rfl <|
   rwp_nil <|
   awp_ret <|
   fin2 (rs_cell_agg agg33 rfl (ptr_row 0 rfl) rfl) (rs_c rfl) ?_
  rw [frX_no c1]; rfl
 ·have c1 : (!frOk a || !frOk b) = false := c1
  obtain ⟨ha, hb⟩ := fr_both c1
  obtain ⟨b1, b2, b3, b4, b5, b6, b7⟩ := fr_bounds ha hb
  refine awp_skip <|
   sReg rfl <|
   rwp_det rfl rfl (det_field_lit rfl fd33_0 rfl) <|
   rwp_det rfl rfl (det_load_one rfl one2 rfl (ptr_row 2 rfl) rfl) <|
   rwp_det rfl rfl (det_field_lit rfl fd33_0 rfl) <|
   rwp_det rfl rfl (det_load_one rfl one2 rfl (ptr_row 1 rfl) rfl) <|
   rwp_det rfl rfl (det_mul_nw rfl rfl rfl ⟨by omega, by omega⟩) <|
   rwp_det rfl rfl (det_field_lit rfl fd33_1 rfl) <|
   rwp_det rfl rfl (det_load_one rfl one2 rfl (ptr_row 2 rfl) rfl) <|
   rwp_det rfl rfl (det_field_lit rfl fd33_1 rfl) <|
   rwp_det rfl rfl (det_load_one rfl one2 rfl (ptr_row 1 rfl) rfl) <|
   rwp_det rfl rfl (det_mul_nw rfl rfl rfl ⟨by omega, by omega⟩) <|
   rwp_det rfl rfl (det_call rfl ok81 (frac_New (a.N * b.N) (a.D * b.D) ⟨by omega, by omega⟩ ⟨by omega, by omega⟩) ⟨VLe.refl _, rfl, VLe.refl _, rfl, trivial⟩) <|
   rwp_det rfl rfl (det_ex_agg rfl rfl rfl) <|
   rwp_det rfl rfl (det_ex_c rfl rfl rfl) <|
   rwp_det0 rfl rfl (det_store rfl sz33 rfl rfl rfl (st_row 0 rfl rfl)) <|
   rMv rfl <|
   rwp_nil <|
   awp_ret <|
   fin2 (rs_cell_agg agg33 rfl (ptr_row 0 rfl) rfl) (rs_c rfl) ?_
  rw [frX_yes ha hb]; rfl

theorem frac_Div (a b : Vl) :
    Pur cfg 69 [vVal a, vVal b] (.tup [vVal (frX 7 a b).1, vI (frX 7 a b).2]) := by
 refine con_intro Tryd.func69 rfl Tryd.ntmps69 Tryd.results69 rfl ?_
 intro z hz
 refine sReg rfl <|
  rwp_op rfl rfl (ope_box rfl rfl) ?_
 rintro _ _ ⟨b1, rfl, rfl⟩
 refine rwp_op rfl rfl (ope_box rfl rfl) ?_
 rintro _ _ ⟨b2, rfl, rfl⟩
 refine rwp_op rfl rfl (ope_alloc rfl zr33) ?_
 rintro _ _ ⟨b3, rfl, rfl⟩
 refine rMv rfl <|
  rwp_nil <|
  awp_seq <|
  sReg rfl <|
  rwp_det rfl rfl (det_load_agg rfl agg33 rfl (ptr_row 2 rfl) rfl) <|
  rwp_det rfl rfl (det_call rfl ok43 (frac_Valid a) ⟨VLe.refl _, rfl, trivial⟩) <|
  rwp_det rfl rfl (det_not rfl rfl) <|
  rMv rfl <|
  rLz [] rfl gv1 trivial (fun g1_3 => det_load_agg rfl agg33 rfl (ptr_row 1 rfl) rfl) rfl <|
  rLz [(10, _)] rfl gv1 ⟨rfl, rfl, trivial⟩ (fun g1_3 => det_call rfl ok43 (frac_Valid b) ⟨VLe.refl _, rfl, trivial⟩) rfl <|
  rLz [(11, _)] rfl gv1 ⟨rfl, rfl, trivial⟩ (fun g1_3 => det_not rfl rfl) rfl <|
  rwp_det rfl rfl (det_or rfl rfl rfl rfl (fun h => (lzf h))) <|
  rwp_nil <|
  awp_cond rfl (fun c1 => ?_) (fun c1 => ?_)
 ·have c1 : (!frOk a || !frOk b) = true := c1
  refine sReg rfl <|
   rwp_det rfl rfl (det_build rfl zr33 pl33 rfl) <|
   rwp_det0 rfl rfl (det_store rfl sz33 rfl rfl rfl (st_row 0 rfl rfl)) <|
   rMv rfl <|
   rwp_nil <|
   awp_ret <|
   fin2 (rs_cell_agg agg33 rfl (ptr_row 0 rfl) rfl) (rs_c rfl) ?_
  rw [frX_no c1]; rfl
 ·have c1 : (!frOk a || !frOk b) = false := c1
  obtain ⟨ha, hb⟩ := fr_both c1
  obtain ⟨b1, b2, b3, b4, b5, b6, b7⟩ := fr_bounds ha hb
  refine awp_skip <|
   sReg rfl <|
   rwp_det rfl rfl (det_field_lit rfl fd33_0 rfl) <|
   rwp_det rfl rfl (det_load_one rfl one2 rfl (ptr_row 2 rfl) rfl) <|
   rwp_det rfl rfl (det_field_lit rfl fd33_1 rfl) <|
   rwp_det rfl rfl (det_load_one rfl one2 rfl (ptr_row 1 rfl) rfl) <|
   rwp_det rfl rfl (det_mul_nw rfl rfl rfl ⟨by omega, by omega⟩) <|
   rwp_det rfl rfl (det_field_lit rfl fd33_1 rfl) <|
   rwp_det rfl rfl (det_load_one rfl one2 rfl (ptr_row 2 rfl) rfl) <|
   rwp_det rfl rfl (det_field_lit rfl fd33_0 rfl) <|
   rwp_det rfl rfl (det_load_one rfl one2 rfl (ptr_row 1 rfl) rfl) <|
   rwp_det rfl rfl (det_mul_nw rfl rfl rfl ⟨by omega, by omega⟩) <|
   rwp_det rfl rfl (det_call rfl ok81 (frac_New (a.N * b.D) (a.D * b.N) ⟨by omega, by omega⟩ ⟨by omega, by omega⟩) ⟨VLe.refl _, rfl, VLe.refl _, rfl, trivial⟩) <|
   rwp_det rfl rfl (det_ex_agg rfl rfl rfl) <|
   rwp_det rfl rfl (det_ex_c rfl rfl rfl) <|
   rwp_det0 rfl rfl (det_store rfl sz33 rfl rfl rfl (st_row 0 rfl rfl)) <|
   rMv rfl <|
   rwp_nil <|
   awp_ret <|
   fin2 (rs_cell_agg agg33 rfl (ptr_row 0 rfl) rfl) (rs_c rfl) ?_
  rw [frX_yes ha hb]; rfl

theorem frac_order (a b : Int) :
    Pur cfg 59 [vI a, vI b] (vI (ordI a b)) := by
 refine con_intro Tryd.func59 rfl Tryd.ntmps59 Tryd.results59 rfl ?_
 intro z hz
 refine sReg rfl <|
  rMv rfl <|
  rwp_nil <|
  awp_seq <|
  awp_block <|
  sReg rfl <|
  rMv rfl <|
  rMv rfl <|
  rwp_det rfl rfl (det_lss rfl rfl rfl) <|
  rMv rfl <|
  rwp_nil <|
  awp_cond rfl (fun c1 => ?_) (fun c1 => ?_)
 ·try simp only [sx] at c1
  refine sReg rfl <|
   rMv rfl <|
   rwp_nil <|
   awp_ret <|
   fin1 (rs_c rfl) ?_
  rw [ordI_lt c1]
 ·try simp only [sx] at c1
  refine sReg rfl <|
   rMv rfl <|
   rMv rfl <|
   rwp_det rfl rfl (det_gtr rfl rfl rfl) <|
   rMv rfl <|
   rwp_nil <|
   awp_cond rfl (fun c2 => ?_) (fun c2 => ?_)
  ·try simp only [sx] at c2
   refine sReg rfl <|
    rMv rfl <|
    rwp_nil <|
    awp_ret <|
    fin1 (rs_c rfl) ?_
   rw [ordI_gt (by omega) c2]
  ·try simp only [sx] at c2
   refine awp_skip <|
    sReg rfl <|
    rMv rfl <|
    rwp_nil <|
    awp_ret <|
    fin1 (rs_c rfl) ?_
   rw [ordI_eq (by omega) (by omega)]

theorem frac_Compare (a b : Vl) (ha : frOk a = true) (hb : frOk b = true) :
    Pur cfg 44 [vVal a, vVal b] (vI (ordI (a.N * b.D) (b.N * a.D))) := by
 refine con_intro Tryd.func44 rfl Tryd.ntmps44 Tryd.results44 rfl ?_
 intro z hz
 obtain ⟨b1, b2, b3, b4, b5, b6, b7⟩ := fr_bounds ha hb
 refine sReg rfl <|
  rwp_op rfl rfl (ope_box rfl rfl) ?_
 rintro _ _ ⟨b1, rfl, rfl⟩
 refine rwp_op rfl rfl (ope_box rfl rfl) ?_
 rintro _ _ ⟨b2, rfl, rfl⟩
 refine rMv rfl <|
  rwp_nil <|
  awp_seq <|
  sReg rfl <|
  rwp_det rfl rfl (det_load_agg rfl agg33 rfl (ptr_row 1 rfl) rfl) <|
  rwp_det rfl rfl (det_call rfl ok43 (frac_Valid a) ⟨VLe.refl _, rfl, trivial⟩) <|
  rMv rfl <|
  rLz [] rfl gv1 trivial (fun g1_2 => det_load_agg rfl agg33 rfl (ptr_row 0 rfl) rfl) rfl <|
  rLz [(9, _)] rfl gv1 ⟨rfl, rfl, trivial⟩ (fun g1_2 => det_call rfl ok43 (frac_Valid b) ⟨VLe.refl _, rfl, trivial⟩) rfl <|
  rwp_det rfl rfl (det_and rfl rfl rfl (fun h => h) rfl) <|
  rwp_nil <|
  awp_cond rfl (fun c1 => ?_) (fun c1 => ?_)
 ·refine sReg rfl <|
   rwp_det rfl rfl (det_field_lit rfl fd33_0 rfl) <|
   rwp_det rfl rfl (det_load_one rfl one2 rfl (ptr_row 1 rfl) rfl) <|
   rwp_det rfl rfl (det_field_lit rfl fd33_1 rfl) <|
   rwp_det rfl rfl (det_load_one rfl one2 rfl (ptr_row 0 rfl) rfl) <|
   rwp_det rfl rfl (det_mul_nw rfl rfl rfl ⟨by omega, by omega⟩) <|
   rwp_det rfl rfl (det_field_lit rfl fd33_0 rfl) <|
   rwp_det rfl rfl (det_load_one rfl one2 rfl (ptr_row 0 rfl) rfl) <|
   rwp_det rfl rfl (det_field_lit rfl fd33_1 rfl) <|
   rwp_det rfl rfl (det_load_one rfl one2 rfl (ptr_row 1 rfl) rfl) <|
   rwp_det rfl rfl (det_mul_nw rfl rfl rfl ⟨by omega, by omega⟩) <|
   rwp_det rfl rfl (det_call rfl ok59 (frac_order _ _) ⟨VLe.refl _, rfl, VLe.refl _, rfl, trivial⟩) <|
   rMv rfl <|
   rwp_nil <|
   awp_ret <|
   fin1 (rs_c rfl) ?_
  exact rfl
 ·have c1 : (frOk a && frOk b) = false := c1
  exact absurd c1 (by rw [ha, hb]; simp)

theorem frac_Floor (v : Vl) (hv : frOk v = true) :
    Pur cfg 48 [vVal v] (vI (v.N / v.D)) := by
 refine con_intro Tryd.func48 rfl Tryd.ntmps48 Tryd.results48 rfl ?_
 intro z hz
 obtain ⟨a1, a2, a3, a4, _⟩ := frOk_in hv
 have hq := tdivW (d := v.D) a3 a4
 have hq2 := tdiv_le (d := v.D) a3 a4
 refine sReg rfl <|
  rwp_op rfl rfl (ope_box rfl rfl) ?_
 rintro _ _ ⟨b1, rfl, rfl⟩
 refine rMv rfl <|
  rwp_nil <|
  awp_seq <|
  sReg rfl <|
  rwp_det rfl rfl (det_load_agg rfl agg33 rfl (ptr_row 0 rfl) rfl) <|
  rwp_det rfl rfl (det_call rfl ok43 (frac_Valid v) ⟨VLe.refl _, rfl, trivial⟩) <|
  rwp_det rfl rfl (det_not rfl rfl) <|
  rwp_nil <|
  awp_cond rfl (fun c1 => ?_) (fun c1 => ?_)
 ·have c1 : (!frOk v) = true := c1
  exact absurd c1 (by rw [hv]; simp)
 ·refine awp_skip <|
   sReg rfl <|
   rwp_det rfl rfl (det_field_lit rfl fd33_0 rfl) <|
   rwp_det rfl rfl (det_load_one rfl one2 rfl (ptr_row 0 rfl) rfl) <|
   rwp_det rfl rfl (det_field_lit rfl fd33_1 rfl) <|
   rwp_det rfl rfl (det_load_one rfl one2 rfl (ptr_row 0 rfl) rfl) <|
   rwp_det rfl rfl (det_quo rfl rfl rfl (by omega)) <|
   rMv rfl <|
   rwp_nil <|
   awp_seq <|
   sReg rfl <|
   rwp_det rfl rfl (det_field_lit rfl fd33_0 rfl) <|
   rwp_det rfl rfl (det_load_one rfl one2 rfl (ptr_row 0 rfl) rfl) <|
   rwp_det rfl rfl (det_field_lit rfl fd33_1 rfl) <|
   rwp_det rfl rfl (det_load_one rfl one2 rfl (ptr_row 0 rfl) rfl) <|
   rwp_det rfl rfl (det_rem rfl rfl rfl (by omega)) <|
   rwp_det rfl rfl (det_lss rfl rfl rfl) <|
   rwp_nil <|
   awp_cond rfl (fun c2 => ?_) (fun c2 => ?_)
  ·try simp only [sx] at c2
   refine awp_region rfl <|
    rMv rfl <|
    rwp_det rfl rfl (det_sub_nw rfl rfl rfl ⟨by omega, by omega⟩) <|
    rMv rfl <|
    rwp_nil <|
    sReg rfl <|
    rMv rfl <|
    rMv rfl <|
    rwp_nil <|
    awp_ret <|
    fin1 (rs_c rfl) ?_
   rw [hq, floor_neg (by omega) c2]
  ·try simp only [sx] at c2
   refine awp_skip <|
    sReg rfl <|
    rMv rfl <|
    rMv rfl <|
    rwp_nil <|
    awp_ret <|
    fin1 (rs_c rfl) ?_
   rw [hq, floor_pos (by omega) (by omega)]

theorem round_mode (m : Int) :
    Pur cfg 83 [vI m] (vB (decide (1 ≤ m) && decide (m ≤ 4))) := by
 refine con_intro Tryd.func83 rfl Tryd.ntmps83 Tryd.results83 rfl ?_
 intro z hz
 refine sReg rfl <|
  rMv rfl <|
  rwp_nil <|
  sReg rfl <|
  rMv rfl <|
  rwp_det rfl rfl (det_geq rfl rfl rfl) <|
  rMv rfl <|
  rLz [] rfl gv1 trivial (fun g1_2 => det_move rfl rfl) rfl <|
  rLz [(6, _)] rfl gv1 ⟨rfl, rfl, trivial⟩ (fun g1_2 => det_leq rfl rfl rfl) rfl <|
  rwp_det rfl rfl (det_and rfl rfl rfl (fun h => h) rfl) <|
  rMv rfl <|
  rwp_nil <|
  awp_ret <|
  fin1 (rs_c rfl) ?_
 exact rfl

theorem round_magnitude (n : Int) (hn : In64 n) :
    Pur cfg 86 [vI n] (vUn n.natAbs) := by
 refine con_intro Tryd.func86 rfl Tryd.ntmps86 Tryd.results86 rfl ?_
 intro z hz
 refine sReg rfl <|
  rMv rfl <|
  rwp_nil <|
  awp_seq <|
  sReg rfl <|
  rMv rfl <|
  rwp_det rfl rfl (det_lss rfl rfl rfl) <|
  rwp_nil <|
  awp_cond rfl (fun c1 => ?_) (fun c1 => ?_)
 ·try simp only [sx] at c1
  refine sReg rfl <|
   rMv rfl <|
   rwp_det rfl rfl (det_conv rfl us2 ik89 rfl) <|
   rwp_det rfl rfl (det_neg rfl rfl) <|
   rMv rfl <|
   rwp_nil <|
   awp_ret <|
   fin1 (rs_c rfl) ?_
  exact congrArg vU64 (mag_neg c1 hn.1)
 ·try simp only [sx] at c1
  refine awp_skip <|
   sReg rfl <|
   rMv rfl <|
   rwp_det rfl rfl (det_conv rfl us2 ik89 rfl) <|
   rMv rfl <|
   rwp_nil <|
   awp_ret <|
   fin1 (rs_c rfl) ?_
  exact congrArg vU64 (mag_pos (by omega) hn.2)

theorem round_rounded (a b : Nat) (ha : a ≤ 9223372036854775808) (hb : b ≤ 9223372036854775808) (h0 : 0 < b) (neg : Bool) (how : Int) :
    Pur cfg 85 [vUn a, vUn b, vB neg, vI how] (vUn (rdd a b neg how)) := by
 refine con_intro Tryd.func85 rfl Tryd.ntmps85 Tryd.results85 rfl ?_
 intro z hz
 have hm := Nat.mod_lt a h0
 have hq := Nat.div_le_self a b
 refine sReg rfl <|
  rMv rfl <|
  rwp_nil <|
  awp_scope <|
  awp_seq <|
  awp_draw 8 mixed (by kernel_rfl) rfl rfl <|
  td_det rfl rfl (det_move rfl rfl) <|
  td_det rfl rfl (det_move rfl rfl) <|
  td_det rfl rfl (det_uquo rfl rfl rfl ⟨by omega, by omega⟩) <|
  td_det rfl rfl (det_move rfl rfl) <|
  td_det rfl rfl (det_move rfl rfl) <|
  td_det rfl rfl (det_urem rfl rfl rfl (by omega)) <|
  td_det rfl rfl (det_assign rfl rfl) <|
  td_det rfl rfl (det_assign rfl rfl) <|
  td_nil <|
  rwp_nil <|
  sReg rfl <|
  rMv rfl <|
  rMv rfl <|
  rwp_nil <|
  awp_seq <|
  awp_label <|
  awp_seq <|
  sReg rfl <|
  rMv rfl <|
  rMv rfl <|
  rwp_det rfl rfl (det_uadd rfl rfl rfl (by have h_ : a / b + 1 < 18446744073709551616 := (by omega); exact h_)) <|
  rwp_det rfl rfl (det_build_arr rfl zr127 pla127 rfl) <|
  rMv rfl <|
  rwp_nil <|
  awp_block <|
  awp_weak ⟨[(23, .c _), (11, .c _), (1, .c _), (2, .c _), (3, .c _), (9, .c _), (10, .c _), (22, .agg _)], []⟩ (Weak.mk [] ⟨VLe.of_eq rfl, VLe.of_eq rfl, VLe.of_eq rfl, VLe.of_eq rfl, VLe.of_eq rfl, VLe.of_eq rfl, VLe.of_eq rfl, VLe.of_eq rfl, trivial⟩ rfl) <|
  awp_loop_k 2 0 rfl rfl (Nat) (fun k => [(23, vI k), (11, vUn (a / b + (k - 1)))]) (fun k => []) (fun k => k ≤ 2 ∧ (k = 0 ∨ stays (a / b) (a % b) b neg how = false)) (fun k => 2 - k) ⟨0, ⟨by omega, .inl rfl⟩, Weak.mk [] ⟨VLe.refl _, VLe.refl _, VLe.refl _, VLe.refl _, VLe.refl _, VLe.refl _, VLe.refl _, VLe.refl _, trivial⟩ rfl⟩ ?_
 rintro k ⟨hk, hs⟩
 refine sReg rfl <|
  rwp_det rfl rfl (det_lss rfl rfl rfl) <|
  rwp_nil <|
  awp_seq <|
  awp_cond rfl (fun c1 => ?_) (fun c1 => ?_)
 ·try simp only [sx] at c1
  have hk1 : k < 2 := by omega
  refine awp_skip <|
   awp_seq <|
   awp_block <|
   sReg rfl <|
   rwp_det rfl rfl (det_index_arr rfl ar127 one89 rfl rfl (by omega) (by omega) (arr2_at hk1)) <|
   rMv rfl <|
   rwp_nil <|
   awp_block <|
   sReg rfl <|
   rMv rfl <|
   rwp_det rfl rfl (det_eql rfl rfl rfl) <|
   rMv rfl <|
   rLz [] rfl gv1 trivial (fun g6_2 => det_move rfl rfl) rfl <|
   rLz [(30, _)] rfl gv1 ⟨rfl, rfl, trivial⟩ (fun g6_2 => det_eql rfl rfl rfl) rfl <|
   rwp_det rfl rfl (det_or rfl rfl rfl rfl (fun h => (lzf h))) <|
   rMv rfl <|
   rwp_nil <|
   awp_cond rfl (fun c2 => ?_) (fun c2 => ?_)
  ·have hst : stays (a / b) (a % b) b neg how = true := by unfold stays; rw [c2]; rfl
   have hk0 : k = 0 := by rcases hs with hs | hs; exact hs; rw [hst] at hs; cases hs
   subst hk0
   refine awp_exit <|
    sReg rfl <|
    rMv rfl <|
    rMv rfl <|
    rwp_nil <|
    awp_ret <|
    fin1 (rs_c rfl) ?_
   first | (rw [rdd, hst]; rfl) | (rw [rdd, hst])
  ·refine awp_seq <|
    sReg rfl <|
    rMv rfl <|
    rwp_det rfl rfl (det_eql rfl rfl rfl) <|
    rMv rfl <|
    rLz [] rfl gv1 trivial (fun g7_2 => det_move rfl rfl) rfl <|
    rLz [(37, _)] rfl gv1 ⟨rfl, rfl, trivial⟩ (fun g7_2 => det_not rfl rfl) rfl <|
    rwp_det rfl rfl (det_and rfl rfl rfl (fun h => h) rfl) <|
    rMv rfl <|
    rwp_nil <|
    awp_cond rfl (fun c3 => ?_) (fun c3 => ?_)
   ·refine awp_skip <|
     awp_cond rfl (fun c4 => ?_) (fun c4 => ?_)
    ·have hst : stays (a / b) (a % b) b neg how = true := by unfold stays; rw [c3]; simp
     have hk0 : k = 0 := by rcases hs with hs | hs; exact hs; rw [hst] at hs; cases hs
     subst hk0
     refine awp_exit <|
      sReg rfl <|
      rMv rfl <|
      rMv rfl <|
      rwp_nil <|
      awp_ret <|
      fin1 (rs_c rfl) ?_
     first | (rw [rdd, hst]; rfl) | (rw [rdd, hst])
    ·exact absurd c3 (by rw [c4]; simp)
   ·refine awp_region rfl <|
     rMv rfl <|
     rwp_det rfl rfl (det_eql rfl rfl rfl) <|
     rMv rfl <|
     rLz [] rfl gv1 trivial (fun g8_2 => det_move rfl rfl) rfl <|
     rwp_det rfl rfl (det_and rfl rfl rfl (fun h => h) rfl) <|
     rMv rfl <|
     rwp_nil <|
     awp_cond rfl (fun c4 => ?_) (fun c4 => ?_)
    ·have hst : stays (a / b) (a % b) b neg how = true := by unfold stays; rw [c4]; simp
     have hk0 : k = 0 := by rcases hs with hs | hs; exact hs; rw [hst] at hs; cases hs
     subst hk0
     refine awp_exit <|
      sReg rfl <|
      rMv rfl <|
      rMv rfl <|
      rwp_nil <|
      awp_ret <|
      fin1 (rs_c rfl) ?_
     first | (rw [rdd, hst]; rfl) | (rw [rdd, hst])
    ·refine sReg rfl <|
      rMv rfl <|
      rwp_det rfl rfl (det_eql rfl rfl rfl) <|
      rMv rfl <|
      rLz [] rfl gv1 trivial (fun g9_2 => det_move rfl rfl) rfl <|
      rLz [(49, _)] rfl gv1 ⟨rfl, rfl, trivial⟩ (fun g9_2 => det_umul rfl rfl rfl (by have h_ : 2 * (a % b) < 18446744073709551616 := (by omega); exact h_)) rfl <|
      rLz [] rfl gv1 trivial (fun g9_2 => det_move rfl rfl) rfl <|
      rLz [(50, _), (51, _)] rfl gv1 ⟨rfl, rfl, rfl, rfl, trivial⟩ (fun g9_2 => det_lss rfl rfl rfl) rfl <|
      rLz [(52, _)] rfl gv1 ⟨rfl, rfl, trivial⟩ (fun g9_2 => det_move rfl rfl) rfl <|
      rLz [] rfl gv2 trivial (fun g9_7 => det_move rfl rfl) rfl <|
      rLz [(54, _)] rfl gv2 ⟨rfl, rfl, trivial⟩ (fun g9_7 => det_umul rfl rfl rfl (by have h_ : 2 * (a % b) < 18446744073709551616 := (by omega); exact h_)) rfl <|
      rLz [] rfl gv2 trivial (fun g9_7 => det_move rfl rfl) rfl <|
      rLz [(55, _), (56, _)] rfl gv2 ⟨rfl, rfl, rfl, rfl, trivial⟩ (fun g9_7 => det_eql rfl rfl rfl) rfl <|
      rLz [(57, _)] rfl gv2 ⟨rfl, rfl, trivial⟩ (fun g9_7 => det_move rfl rfl) rfl <|
      rLz [] rfl gv2 trivial (fun g9_12 => det_move rfl rfl) rfl <|
      rLz [(59, _)] rfl gv2 ⟨rfl, rfl, trivial⟩ (fun g9_12 => det_urem rfl rfl rfl (by decide)) rfl <|
      rLz [(60, _)] rfl gv2 ⟨rfl, rfl, trivial⟩ (fun g9_12 => det_eql rfl rfl rfl) rfl <|
      rLz [(58, _)] rfl gv2 ⟨rfl, rfl, trivial⟩ (fun g9_7 => det_and rfl rfl rfl (fun h => and_mk (by assumption) h) rfl) rfl <|
      rLz [(53, _)] rfl gv1 ⟨rfl, rfl, trivial⟩ (fun g9_2 => det_or rfl rfl rfl rfl (fun h => and_mk (by assumption) (lzf h))) rfl <|
      rwp_det rfl rfl (det_and rfl rfl rfl (fun h => h) rfl) <|
      rMv rfl <|
      rwp_nil <|
      awp_cond rfl (fun c5 => ?_) (fun c5 => ?_)
     ·have hst : stays (a / b) (a % b) b neg how = true := by unfold stays; rw [c5]; simp
      have hk0 : k = 0 := by rcases hs with hs | hs; exact hs; rw [hst] at hs; cases hs
      subst hk0
      refine awp_exit <|
       sReg rfl <|
       rMv rfl <|
       rMv rfl <|
       rwp_nil <|
       awp_ret <|
       fin1 (rs_c rfl) ?_
      first | (rw [rdd, hst]; rfl) | (rw [rdd, hst])
     ·have hst : stays (a / b) (a % b) b neg how = false := by unfold stays; rw [c2, c3, c4, c5]; rfl
      refine awp_skip <|
       awp_region rfl <|
       rwp_det rfl rfl (det_add_nw rfl rfl rfl ⟨by omega, by omega⟩) <|
       rMv rfl <|
       rwp_nil ?_
      refine ⟨k + 1, ⟨by omega, .inr hst⟩, (by omega), Weak.mk [] ⟨VLe.refl _, VLe.of_eq (by show vUn (a / b + k) = vUn (a / b + (k + 1 - 1)); rw [Nat.add_sub_cancel]), VLe.refl _, VLe.refl _, VLe.refl _, VLe.refl _, VLe.refl _, VLe.refl _, trivial⟩ rfl⟩
 ·try simp only [sx] at c1
  have hk2 : k = 2 := by omega
  subst hk2
  have hst : stays (a / b) (a % b) b neg how = false := by rcases hs with hs | hs; cases hs; exact hs
  refine awp_exit <|
   sReg rfl <|
   rMv rfl <|
   rMv rfl <|
   rwp_nil <|
   awp_ret <|
   fin1 (rs_c rfl) ?_
  first | (rw [rdd, hst]; rfl) | (rw [rdd, hst])

theorem round_Divide (n d how : Int) (hn : n.natAbs ≤ 4611686018427387904) (hd : In64 d) (h1 : 1 ≤ how) (h4 : how ≤ 4) :
    Pur cfg 79 [vI n, vI d, vI how] (.tup [vI (divR n d how).1, vI (divR n d how).2]) := by
 refine con_intro Tryd.func79 rfl Tryd.ntmps79 Tryd.results79 rfl ?_
 intro z hz
 have hd1 := hd.1
 have hd2 := hd.2
 have hle := fun s => rdd_le (a := n.natAbs) (b := d.natAbs) (neg := s) (how := how)
 refine sReg rfl <|
  rMv rfl <|
  rMv rfl <|
  rwp_nil <|
  awp_seq <|
  sReg rfl <|
  rMv rfl <|
  rwp_det rfl rfl (det_call rfl ok83 (round_mode _) ⟨VLe.refl _, rfl, trivial⟩) <|
  rwp_det rfl rfl (det_not rfl rfl) <|
  rwp_nil <|
  awp_cond rfl (fun c1 => ?_) (fun c1 => ?_)
 ·try simp only [sx] at c1
  exact absurd c1 (by simp; omega)
 ·try simp only [sx] at c1
  refine awp_skip <|
   awp_seq <|
   sReg rfl <|
   rMv rfl <|
   rwp_det rfl rfl (det_eql rfl rfl rfl) <|
   rwp_nil <|
   awp_cond rfl (fun c2 => ?_) (fun c2 => ?_)
  ·try simp only [sx] at c2
   refine sReg rfl <|
    rMv rfl <|
    rMv rfl <|
    rwp_nil <|
    awp_ret <|
    fin2 (rs_c rfl) (rs_c rfl) ?_
   rw [divR_zero c2]
  ·try simp only [sx] at c2
   refine awp_skip <|
    sReg rfl <|
    rMv rfl <|
    rwp_det rfl rfl (det_lss rfl rfl rfl) <|
    rMv rfl <|
    rwp_det rfl rfl (det_lss rfl rfl rfl) <|
    rwp_det rfl rfl (det_bneq rfl un4 rfl rfl) <|
    rMv rfl <|
    rwp_nil <|
    sReg rfl <|
    rMv rfl <|
    rwp_det rfl rfl (det_call rfl ok86 (round_magnitude n ⟨by omega, by omega⟩) ⟨VLe.refl _, rfl, trivial⟩) <|
    rMv rfl <|
    rwp_det rfl rfl (det_call rfl ok86 (round_magnitude d hd) ⟨VLe.refl _, rfl, trivial⟩) <|
    rMv rfl <|
    rMv rfl <|
    rwp_det rfl rfl (det_call rfl ok85 (round_rounded n.natAbs d.natAbs (by omega) (by omega) (by omega) (sgnD n d) how) ⟨VLe.refl _, rfl, VLe.refl _, rfl, VLe.refl _, rfl, VLe.refl _, rfl, trivial⟩) <|
    rMv rfl <|
    rwp_nil <|
    awp_seq <|
    sReg rfl <|
    rMv rfl <|
    rwp_nil <|
    awp_cond rfl (fun c3 => ?_) (fun c3 => ?_)
   ·have c3 : sgnD n d = true := c3
    refine sReg rfl <|
     rMv rfl <|
     rwp_det rfl rfl (det_neg rfl rfl) <|
     rwp_det rfl rfl (det_conv rfl us89 ik2 rfl) <|
     rMv rfl <|
     rMv rfl <|
     rwp_nil <|
     awp_ret <|
     fin2 (rs_c rfl) (rs_c rfl) ?_
    rw [divR_neg c2 h1 h4 hn c3]
   ·have c3 : sgnD n d = false := c3
    refine awp_skip <|
     awp_seq <|
     sReg rfl <|
     rMv rfl <|
     rwp_det rfl rfl (det_geq rfl rfl rfl) <|
     rwp_nil <|
     awp_cond rfl (fun c4 => ?_) (fun c4 => ?_)
    ·try simp only [sx] at c4
     have := hle (sgnD n d)
     exact absurd c4 (by omega)
    ·try simp only [sx] at c4
     refine awp_skip <|
      sReg rfl <|
      rMv rfl <|
      rwp_det rfl rfl (det_conv rfl us89 ik2 rfl) <|
      rMv rfl <|
      rMv rfl <|
      rwp_nil <|
      awp_ret <|
      fin2 (rs_c rfl) (rs_c rfl) ?_
     rw [divR_pos c2 h1 h4 hn c3]

end Go.W
