/-
  Walks: what functions of the program compute. Printed by wip/gen/mk2.py.
  Conditions: none.
-/
import Derived.Test.YtmmiedgoamlhpaaDoorYB
set_option linter.unusedSimpArgs false
set_option linter.unusedVariables false
set_option maxRecDepth 10000
namespace Go.W
open Go Go.Eng Go.Proofs Go.L41 Go.Br
attribute [local irreducible] AWP RWP TD finQ
theorem ok31 : callOk Tryd.prog 31 = true := by kernel_rfl
theorem ok32 : callOk Tryd.prog 32 = true := by kernel_rfl
theorem ok44 : callOk Tryd.prog 44 = true := by kernel_rfl
theorem ok45 : callOk Tryd.prog 45 = true := by kernel_rfl
theorem ok46 : callOk Tryd.prog 46 = true := by kernel_rfl
theorem ok47 : callOk Tryd.prog 47 = true := by kernel_rfl
theorem ok48 : callOk Tryd.prog 48 = true := by kernel_rfl
theorem ok49 : callOk Tryd.prog 49 = true := by kernel_rfl
theorem ok60 : callOk Tryd.prog 60 = true := by kernel_rfl
theorem ok61 : callOk Tryd.prog 61 = true := by kernel_rfl
theorem ok62 : callOk Tryd.prog 62 = true := by kernel_rfl
theorem ok63 : callOk Tryd.prog 63 = true := by kernel_rfl
theorem ok64 : callOk Tryd.prog 64 = true := by kernel_rfl
theorem ok65 : callOk Tryd.prog 65 = true := by kernel_rfl
theorem ok66 : callOk Tryd.prog 66 = true := by kernel_rfl
theorem ok67 : callOk Tryd.prog 67 = true := by kernel_rfl
theorem ok68 : callOk Tryd.prog 68 = true := by kernel_rfl
theorem ok69 : callOk Tryd.prog 69 = true := by kernel_rfl
theorem ok70 : callOk Tryd.prog 70 = true := by kernel_rfl
theorem value_negate (t : Ty) (a : Vl) (ht : tyOk t = true) (ha : valOk t a = true) :
    Pur cfg 45 [vTy t, vVal a] (.tup [vVal (negV t a).1, vI (negV t a).2]) := by
 refine con_intro Tryd.func45 rfl Tryd.ntmps45 Tryd.results45 rfl ?_
 intro z hz
 obtain ⟨a1, a2, a3, a4, _⟩ := frOk_in (val_fr ht ha).2.2
 refine sReg rfl <|
  rwp_op rfl rfl (ope_box rfl rfl) ?_
 rintro _ _ ⟨b1, rfl, rfl⟩
 refine rwp_op rfl rfl (ope_box rfl rfl) ?_
 rintro _ _ ⟨b2, rfl, rfl⟩
 refine rwp_op rfl rfl (ope_alloc rfl zr33) ?_
 rintro _ _ ⟨b3, rfl, rfl⟩
 refine rMv rfl <|
  rwp_nil <|
  awp_seq <|
  sReg rfl <|
  rwp_det rfl rfl (det_field_lit rfl fd48_0 rfl) <|
  rwp_det rfl rfl (det_load_one rfl one3 rfl (ptr_row 2 rfl) rfl) <|
  rwp_det rfl rfl (det_eql rfl rfl rfl) <|
  rwp_nil <|
  awp_cond rfl (fun c1 => ?_) (fun c1 => ?_)
 ·try simp only [sx] at c1
  have hf : fixOk t = true := by rw [← fix_ty (by assumption)]; exact ht
  refine sReg rfl <|
   rwp_det rfl rfl (det_load_agg rfl agg48 rfl (ptr_row 2 rfl) rfl) <|
   rwp_det rfl rfl (det_load_agg rfl agg33 rfl (ptr_row 1 rfl) rfl) <|
   rwp_det rfl rfl (det_call rfl ok60 (fixed_Neg t a hf ha) ⟨VLe.refl _, rfl, VLe.refl _, rfl, trivial⟩) <|
   rwp_det rfl rfl (det_ex_agg rfl rfl rfl) <|
   rwp_det rfl rfl (det_ex_c rfl rfl rfl) <|
   rwp_det0 rfl rfl (det_store rfl sz33 rfl rfl rfl (st_row 0 rfl rfl)) <|
   rMv rfl <|
   rwp_nil <|
   awp_ret <|
   fin2 (rs_cell_agg agg33 rfl (ptr_row 0 rfl) rfl) (rs_c rfl) ?_
  rw [negV, decide_eq_true c1]; rfl
 ·try simp only [sx] at c1
  refine awp_skip <|
   sReg rfl <|
   rwp_det rfl rfl (det_field_lit rfl fd33_0 rfl) <|
   rwp_det rfl rfl (det_load_one rfl one2 rfl (ptr_row 1 rfl) rfl) <|
   rwp_det rfl rfl (det_neg_nw rfl rfl ⟨by omega, by omega⟩) <|
   rwp_det rfl rfl (det_field_lit rfl fd33_1 rfl) <|
   rwp_det rfl rfl (det_load_one rfl one2 rfl (ptr_row 1 rfl) rfl) <|
   rwp_det rfl rfl (det_build rfl zr33 pl33 rfl) <|
   rwp_det0 rfl rfl (det_store rfl sz33 rfl rfl rfl (st_row 0 rfl rfl)) <|
   rMv rfl <|
   rwp_nil <|
   awp_ret <|
   fin2 (rs_cell_agg agg33 rfl (ptr_row 0 rfl) rfl) (rs_c rfl) ?_
  rw [negV, dec_false c1]; rfl

theorem value_arithmetic (op : Int) (t : Ty) (a b : Vl) (ht : tyOk t = true) (ha : valOk t a = true) (hb : valOk t b = true) (h1 : 4 ≤ op) (h2 : op ≤ 7) :
    Pur cfg 46 [vI op, vTy t, vVal a, vVal b] (.tup [vVal (ariV op t a b).1, vI (ariV op t a b).2]) := by
 refine con_intro Tryd.func46 rfl Tryd.ntmps46 Tryd.results46 rfl ?_
 intro z hz
 have hfa := (val_fr ht ha).2.2
 have hfb := (val_fr ht hb).2.2
 have hn1 : num31 a.N = true := fr31 hfa
 have hn2 : num31 b.N = true := fr31 hfb
 refine sReg rfl <|
  rwp_op rfl rfl (ope_box rfl rfl) ?_
 rintro _ _ ⟨b1, rfl, rfl⟩
 refine rwp_op rfl rfl (ope_box rfl rfl) ?_
 rintro _ _ ⟨b2, rfl, rfl⟩
 refine rwp_op rfl rfl (ope_box rfl rfl) ?_
 rintro _ _ ⟨b3, rfl, rfl⟩
 refine rwp_op rfl rfl (ope_alloc rfl zr33) ?_
 rintro _ _ ⟨b4, rfl, rfl⟩
 refine rMv rfl <|
  rwp_nil <|
  sReg rfl <|
  rwp_det rfl rfl (det_field_lit rfl fd48_0 rfl) <|
  rwp_det rfl rfl (det_load_one rfl one3 rfl (ptr_row 3 rfl) rfl) <|
  rwp_det rfl rfl (det_eql rfl rfl rfl) <|
  rMv rfl <|
  rwp_nil <|
  awp_seq <|
  awp_block <|
  sReg rfl <|
  rwp_det rfl rfl (det_field_lit rfl fd48_0 rfl) <|
  rwp_det rfl rfl (det_load_one rfl one3 rfl (ptr_row 3 rfl) rfl) <|
  rwp_det rfl rfl (det_eql rfl rfl rfl) <|
  rMv rfl <|
  rwp_nil <|
  awp_cond rfl (fun c1 => ?_) (fun c1 => ?_)
 ·try simp only [sx] at c1
  have hk2 : ¬ t.Kind = 2 := by omega
  refine sReg rfl <|
   rMv rfl <|
   rwp_det rfl rfl (det_field_lit rfl fd33_0 rfl) <|
   rwp_det rfl rfl (det_load_one rfl one2 rfl (ptr_row 2 rfl) rfl) <|
   rwp_det rfl rfl (det_field_lit rfl fd33_0 rfl) <|
   rwp_det rfl rfl (det_load_one rfl one2 rfl (ptr_row 1 rfl) rfl) <|
   rwp_det rfl rfl (det_call rfl ok61 (value_integer op a.N b.N hn1 hn2 (by omega) (by omega)) ⟨VLe.refl _, rfl, VLe.refl _, rfl, VLe.refl _, rfl, trivial⟩) <|
   rwp_det rfl rfl (det_ex_agg rfl rfl rfl) <|
   rwp_det rfl rfl (det_ex_c rfl rfl rfl) <|
   rwp_det0 rfl rfl (det_store rfl sz33 rfl rfl rfl (st_row 0 rfl rfl)) <|
   rMv rfl <|
   rwp_nil <|
   awp_ret <|
   fin2 (rs_cell_agg agg33 rfl (ptr_row 0 rfl) rfl) (rs_c rfl) ?_
  rw [ari3 c1]; rfl
 ·try simp only [sx] at c1
  refine sReg rfl <|
   rMv rfl <|
   rwp_det rfl rfl (det_eql rfl rfl rfl) <|
   rMv rfl <|
   rLz [] rfl gv1 trivial (fun g4_2 => det_move rfl rfl) rfl <|
   rwp_det rfl rfl (det_and rfl rfl rfl (fun h => h) rfl) <|
   rMv rfl <|
   rwp_nil <|
   awp_cond rfl (fun c2 => ?_) (fun c2 => ?_)
  ·obtain ⟨ho, hk⟩ := and_dec c2
   have hf : fixOk t = true := by rw [← fix_ty hk]; exact ht
   refine sReg rfl <|
    rwp_det rfl rfl (det_load_agg rfl agg48 rfl (ptr_row 3 rfl) rfl) <|
    rwp_det rfl rfl (det_load_agg rfl agg33 rfl (ptr_row 2 rfl) rfl) <|
    rwp_det rfl rfl (det_load_agg rfl agg33 rfl (ptr_row 1 rfl) rfl) <|
    rwp_det rfl rfl (det_call rfl ok62 (fixed_Add t a b hf ha hb) ⟨VLe.refl _, rfl, VLe.refl _, rfl, VLe.refl _, rfl, trivial⟩) <|
    rwp_det rfl rfl (det_ex_agg rfl rfl rfl) <|
    rwp_det rfl rfl (det_ex_c rfl rfl rfl) <|
    rwp_det0 rfl rfl (det_store rfl sz33 rfl rfl rfl (st_row 0 rfl rfl)) <|
    rMv rfl <|
    rwp_nil <|
    awp_ret <|
    fin2 (rs_cell_agg agg33 rfl (ptr_row 0 rfl) rfl) (rs_c rfl) ?_
   rw [ari2 hk, fixA1 ho]; rfl
  ·refine sReg rfl <|
    rMv rfl <|
    rwp_det rfl rfl (det_eql rfl rfl rfl) <|
    rMv rfl <|
    rLz [] rfl gv1 trivial (fun g6_2 => det_move rfl rfl) rfl <|
    rwp_det rfl rfl (det_and rfl rfl rfl (fun h => h) rfl) <|
    rMv rfl <|
    rwp_nil <|
    awp_cond rfl (fun c3 => ?_) (fun c3 => ?_)
   ·obtain ⟨ho, hk⟩ := and_dec c3
    have hf : fixOk t = true := by rw [← fix_ty hk]; exact ht
    refine sReg rfl <|
     rwp_det rfl rfl (det_load_agg rfl agg48 rfl (ptr_row 3 rfl) rfl) <|
     rwp_det rfl rfl (det_load_agg rfl agg33 rfl (ptr_row 2 rfl) rfl) <|
     rwp_det rfl rfl (det_load_agg rfl agg33 rfl (ptr_row 1 rfl) rfl) <|
     rwp_det rfl rfl (det_call rfl ok63 (fixed_Sub t a b hf ha hb) ⟨VLe.refl _, rfl, VLe.refl _, rfl, VLe.refl _, rfl, trivial⟩) <|
     rwp_det rfl rfl (det_ex_agg rfl rfl rfl) <|
     rwp_det rfl rfl (det_ex_c rfl rfl rfl) <|
     rwp_det0 rfl rfl (det_store rfl sz33 rfl rfl rfl (st_row 0 rfl rfl)) <|
     rMv rfl <|
     rwp_nil <|
     awp_ret <|
     fin2 (rs_cell_agg agg33 rfl (ptr_row 0 rfl) rfl) (rs_c rfl) ?_
    rw [ari2 hk, fixA2 ho]; rfl
   ·refine sReg rfl <|
     rMv rfl <|
     rwp_det rfl rfl (det_eql rfl rfl rfl) <|
     rMv rfl <|
     rLz [] rfl gv1 trivial (fun g8_2 => det_move rfl rfl) rfl <|
     rwp_det rfl rfl (det_and rfl rfl rfl (fun h => h) rfl) <|
     rMv rfl <|
     rwp_nil <|
     awp_cond rfl (fun c4 => ?_) (fun c4 => ?_)
    ·obtain ⟨ho, hk⟩ := and_dec c4
     have hf : fixOk t = true := by rw [← fix_ty hk]; exact ht
     refine sReg rfl <|
      rwp_det rfl rfl (det_load_agg rfl agg48 rfl (ptr_row 3 rfl) rfl) <|
      rwp_det rfl rfl (det_load_agg rfl agg33 rfl (ptr_row 2 rfl) rfl) <|
      rwp_det rfl rfl (det_load_agg rfl agg33 rfl (ptr_row 1 rfl) rfl) <|
      rwp_det rfl rfl (det_call rfl ok64 (fixed_Mul t a b hf ha hb) ⟨VLe.refl _, rfl, VLe.refl _, rfl, VLe.refl _, rfl, trivial⟩) <|
      rwp_det rfl rfl (det_ex_agg rfl rfl rfl) <|
      rwp_det rfl rfl (det_ex_c rfl rfl rfl) <|
      rwp_det0 rfl rfl (det_store rfl sz33 rfl rfl rfl (st_row 0 rfl rfl)) <|
      rMv rfl <|
      rwp_nil <|
      awp_ret <|
      fin2 (rs_cell_agg agg33 rfl (ptr_row 0 rfl) rfl) (rs_c rfl) ?_
     rw [ari2 hk, fixA3 ho]; rfl
    ·refine sReg rfl <|
      rMv rfl <|
      rMv rfl <|
      rwp_nil <|
      awp_cond rfl (fun c5 => ?_) (fun c5 => ?_)
     ·have hk : t.Kind = 2 := of_decide_eq_true c5
      have hf : fixOk t = true := by rw [← fix_ty hk]; exact ht
      have ho : op = 7 := ari7 hk h1 h2 c2 c3 c4
      refine sReg rfl <|
       rwp_det rfl rfl (det_load_agg rfl agg48 rfl (ptr_row 3 rfl) rfl) <|
       rwp_det rfl rfl (det_load_agg rfl agg33 rfl (ptr_row 2 rfl) rfl) <|
       rwp_det rfl rfl (det_load_agg rfl agg33 rfl (ptr_row 1 rfl) rfl) <|
       rwp_det rfl rfl (det_call rfl ok65 (fixed_Div t a b hf ha hb) ⟨VLe.refl _, rfl, VLe.refl _, rfl, VLe.refl _, rfl, trivial⟩) <|
       rwp_det rfl rfl (det_ex_agg rfl rfl rfl) <|
       rwp_det rfl rfl (det_ex_c rfl rfl rfl) <|
       rwp_det0 rfl rfl (det_store rfl sz33 rfl rfl rfl (st_row 0 rfl rfl)) <|
       rMv rfl <|
       rwp_nil <|
       awp_ret <|
       fin2 (rs_cell_agg agg33 rfl (ptr_row 0 rfl) rfl) (rs_c rfl) ?_
      subst ho
      rw [ari2 hk]; rfl
     ·have hk2 : ¬ t.Kind = 2 := of_decide_eq_false c5
      refine sReg rfl <|
       rMv rfl <|
       rwp_det rfl rfl (det_eql rfl rfl rfl) <|
       rMv rfl <|
       rwp_nil <|
       awp_cond rfl (fun c6 => ?_) (fun c6 => ?_)
      ·try simp only [sx] at c6
       refine sReg rfl <|
        rwp_det rfl rfl (det_load_agg rfl agg33 rfl (ptr_row 2 rfl) rfl) <|
        rwp_det rfl rfl (det_load_agg rfl agg33 rfl (ptr_row 1 rfl) rfl) <|
        rwp_det rfl rfl (det_call rfl ok66 (frac_Add a b) ⟨VLe.refl _, rfl, VLe.refl _, rfl, trivial⟩) <|
        rwp_det rfl rfl (det_ex_agg rfl rfl rfl) <|
        rwp_det rfl rfl (det_ex_c rfl rfl rfl) <|
        rwp_det0 rfl rfl (det_store rfl sz33 rfl rfl rfl (st_row 0 rfl rfl)) <|
        rMv rfl <|
        rwp_nil <|
        awp_ret <|
        fin2 (rs_cell_agg agg33 rfl (ptr_row 0 rfl) rfl) (rs_c rfl) ?_
       subst c6
       rw [ari1 hk2 c1, frX_yes hfa hfb]; rfl
      ·try simp only [sx] at c6
       refine sReg rfl <|
        rMv rfl <|
        rwp_det rfl rfl (det_eql rfl rfl rfl) <|
        rMv rfl <|
        rwp_nil <|
        awp_cond rfl (fun c7 => ?_) (fun c7 => ?_)
       ·try simp only [sx] at c7
        refine sReg rfl <|
         rwp_det rfl rfl (det_load_agg rfl agg33 rfl (ptr_row 2 rfl) rfl) <|
         rwp_det rfl rfl (det_load_agg rfl agg33 rfl (ptr_row 1 rfl) rfl) <|
         rwp_det rfl rfl (det_call rfl ok67 (frac_Sub a b) ⟨VLe.refl _, rfl, VLe.refl _, rfl, trivial⟩) <|
         rwp_det rfl rfl (det_ex_agg rfl rfl rfl) <|
         rwp_det rfl rfl (det_ex_c rfl rfl rfl) <|
         rwp_det0 rfl rfl (det_store rfl sz33 rfl rfl rfl (st_row 0 rfl rfl)) <|
         rMv rfl <|
         rwp_nil <|
         awp_ret <|
         fin2 (rs_cell_agg agg33 rfl (ptr_row 0 rfl) rfl) (rs_c rfl) ?_
        subst c7
        rw [ari1 hk2 c1, frX_yes hfa hfb]; rfl
       ·try simp only [sx] at c7
        refine sReg rfl <|
         rMv rfl <|
         rwp_det rfl rfl (det_eql rfl rfl rfl) <|
         rMv rfl <|
         rwp_nil <|
         awp_cond rfl (fun c8 => ?_) (fun c8 => ?_)
        ·try simp only [sx] at c8
         refine sReg rfl <|
          rwp_det rfl rfl (det_load_agg rfl agg33 rfl (ptr_row 2 rfl) rfl) <|
          rwp_det rfl rfl (det_load_agg rfl agg33 rfl (ptr_row 1 rfl) rfl) <|
          rwp_det rfl rfl (det_call rfl ok68 (frac_Mul a b) ⟨VLe.refl _, rfl, VLe.refl _, rfl, trivial⟩) <|
          rwp_det rfl rfl (det_ex_agg rfl rfl rfl) <|
          rwp_det rfl rfl (det_ex_c rfl rfl rfl) <|
          rwp_det0 rfl rfl (det_store rfl sz33 rfl rfl rfl (st_row 0 rfl rfl)) <|
          rMv rfl <|
          rwp_nil <|
          awp_ret <|
          fin2 (rs_cell_agg agg33 rfl (ptr_row 0 rfl) rfl) (rs_c rfl) ?_
         subst c8
         rw [ari1 hk2 c1, frX_yes hfa hfb]; rfl
        ·try simp only [sx] at c8
         refine awp_skip <|
          sReg rfl <|
          rwp_det rfl rfl (det_load_agg rfl agg33 rfl (ptr_row 2 rfl) rfl) <|
          rwp_det rfl rfl (det_load_agg rfl agg33 rfl (ptr_row 1 rfl) rfl) <|
          rwp_det rfl rfl (det_call rfl ok69 (frac_Div a b) ⟨VLe.refl _, rfl, VLe.refl _, rfl, trivial⟩) <|
          rwp_det rfl rfl (det_ex_agg rfl rfl rfl) <|
          rwp_det rfl rfl (det_ex_c rfl rfl rfl) <|
          rwp_det0 rfl rfl (det_store rfl sz33 rfl rfl rfl (st_row 0 rfl rfl)) <|
          rMv rfl <|
          rwp_nil <|
          awp_ret <|
          fin2 (rs_cell_agg agg33 rfl (ptr_row 0 rfl) rfl) (rs_c rfl) ?_
         have ho : op = 7 := by omega
         subst ho
         rw [ari1 hk2 c1, frX_yes hfa hfb]; rfl

theorem value_Compare (t : Ty) (a b : Vl) :
    Pur cfg 32 [vTy t, vVal a, vVal b] (vI (cmpV t a b)) := by
 refine con_intro Tryd.func32 rfl Tryd.ntmps32 Tryd.results32 rfl ?_
 intro z hz
 refine sReg rfl <|
  rwp_op rfl rfl (ope_box rfl rfl) ?_
 rintro _ _ ⟨b1, rfl, rfl⟩
 refine rwp_op rfl rfl (ope_box rfl rfl) ?_
 rintro _ _ ⟨b2, rfl, rfl⟩
 refine rwp_op rfl rfl (ope_box rfl rfl) ?_
 rintro _ _ ⟨b3, rfl, rfl⟩
 refine rMv rfl <|
  rwp_nil <|
  awp_seq <|
  awp_block <|
  sReg rfl <|
  rwp_det rfl rfl (det_load_agg rfl agg48 rfl (ptr_row 2 rfl) rfl) <|
  rwp_det rfl rfl (det_load_agg rfl agg33 rfl (ptr_row 1 rfl) rfl) <|
  rwp_det rfl rfl (det_call rfl ok31 (value_Valid t a) ⟨VLe.refl _, rfl, VLe.refl _, rfl, trivial⟩) <|
  rwp_det rfl rfl (det_not rfl rfl) <|
  rMv rfl <|
  rLz [] rfl gv1 trivial (fun g1_4 => det_load_agg rfl agg48 rfl (ptr_row 2 rfl) rfl) rfl <|
  rLz [] rfl gv1 trivial (fun g1_4 => det_load_agg rfl agg33 rfl (ptr_row 0 rfl) rfl) rfl <|
  rLz [(13, _), (14, _)] rfl gv1 ⟨rfl, rfl, rfl, rfl, trivial⟩ (fun g1_4 => det_call rfl ok31 (value_Valid t b) ⟨VLe.refl _, rfl, VLe.refl _, rfl, trivial⟩) rfl <|
  rLz [(15, _)] rfl gv1 ⟨rfl, rfl, trivial⟩ (fun g1_4 => det_not rfl rfl) rfl <|
  rwp_det rfl rfl (det_or rfl rfl rfl rfl (fun h => (lzf h))) <|
  rMv rfl <|
  rwp_nil <|
  awp_cond rfl (fun c1 => ?_) (fun c1 => ?_)
 ·have c1 : (!(tyOk t && valOk t a) || !(tyOk t && valOk t b)) = true := c1
  refine sReg rfl <|
   rMv rfl <|
   rwp_nil <|
   awp_ret <|
   fin1 (rs_c rfl) ?_
  rw [cmp_no c1]
 ·have c1 : (!(tyOk t && valOk t a) || !(tyOk t && valOk t b)) = false := c1
  obtain ⟨ga, gb⟩ := both_ok c1
  have ha := (val_fr (Bool.and_eq_true _ _ ▸ ga).1 (Bool.and_eq_true _ _ ▸ ga).2).2.2
  have hb := (val_fr (Bool.and_eq_true _ _ ▸ gb).1 (Bool.and_eq_true _ _ ▸ gb).2).2.2
  refine sReg rfl <|
   rwp_det rfl rfl (det_field_lit rfl fd48_0 rfl) <|
   rwp_det rfl rfl (det_load_one rfl one3 rfl (ptr_row 2 rfl) rfl) <|
   rwp_det rfl rfl (det_eql rfl rfl rfl) <|
   rMv rfl <|
   rwp_nil <|
   awp_cond rfl (fun c2 => ?_) (fun c2 => ?_)
  ·try simp only [sx] at c2
   refine sReg rfl <|
    rwp_det rfl rfl (det_load_agg rfl agg33 rfl (ptr_row 1 rfl) rfl) <|
    rwp_det rfl rfl (det_load_agg rfl agg33 rfl (ptr_row 0 rfl) rfl) <|
    rwp_det rfl rfl (det_call rfl ok44 (frac_Compare a b ha hb) ⟨VLe.refl _, rfl, VLe.refl _, rfl, trivial⟩) <|
    rMv rfl <|
    rwp_nil <|
    awp_ret <|
    fin1 (rs_c rfl) ?_
   rw [cmp_yes ga gb]
  ·try simp only [sx] at c2
   refine sReg rfl <|
    rwp_det rfl rfl (det_field_lit rfl fd33_0 rfl) <|
    rwp_det rfl rfl (det_load_one rfl one2 rfl (ptr_row 1 rfl) rfl) <|
    rwp_det rfl rfl (det_field_lit rfl fd33_0 rfl) <|
    rwp_det rfl rfl (det_load_one rfl one2 rfl (ptr_row 0 rfl) rfl) <|
    rwp_det rfl rfl (det_lss rfl rfl rfl) <|
    rMv rfl <|
    rwp_nil <|
    awp_cond rfl (fun c3 => ?_) (fun c3 => ?_)
   ·try simp only [sx] at c3
    refine sReg rfl <|
     rMv rfl <|
     rwp_nil <|
     awp_ret <|
     fin1 (rs_c rfl) ?_
    rw [cmp_int c2 ga gb, ordI_lt c3]
   ·try simp only [sx] at c3
    refine sReg rfl <|
     rwp_det rfl rfl (det_field_lit rfl fd33_0 rfl) <|
     rwp_det rfl rfl (det_load_one rfl one2 rfl (ptr_row 1 rfl) rfl) <|
     rwp_det rfl rfl (det_field_lit rfl fd33_0 rfl) <|
     rwp_det rfl rfl (det_load_one rfl one2 rfl (ptr_row 0 rfl) rfl) <|
     rwp_det rfl rfl (det_gtr rfl rfl rfl) <|
     rMv rfl <|
     rwp_nil <|
     awp_cond rfl (fun c4 => ?_) (fun c4 => ?_)
    ·try simp only [sx] at c4
     refine sReg rfl <|
      rMv rfl <|
      rwp_nil <|
      awp_ret <|
      fin1 (rs_c rfl) ?_
     rw [cmp_int c2 ga gb, ordI_gt (by omega) c4]
    ·try simp only [sx] at c4
     refine awp_skip <|
      sReg rfl <|
      rMv rfl <|
      rwp_nil <|
      awp_ret <|
      fin1 (rs_c rfl) ?_
     rw [cmp_int c2 ga gb, ordI_eq (by omega) (by omega)]

theorem value_fraction (t : Ty) (a : Vl) (ht : tyOk t = true) (ha : valOk t a = true) :
    Pur cfg 47 [vTy t, vVal a] (vVal (fracV t a)) := by
 refine con_intro Tryd.func47 rfl Tryd.ntmps47 Tryd.results47 rfl ?_
 intro z hz
 refine sReg rfl <|
  rwp_op rfl rfl (ope_box rfl rfl) ?_
 rintro _ _ ⟨b1, rfl, rfl⟩
 refine rwp_op rfl rfl (ope_box rfl rfl) ?_
 rintro _ _ ⟨b2, rfl, rfl⟩
 refine rwp_op rfl rfl (ope_alloc rfl zr33) ?_
 rintro _ _ ⟨b3, rfl, rfl⟩
 refine rwp_nil <|
  awp_seq <|
  sReg rfl <|
  rwp_det rfl rfl (det_field_lit rfl fd48_0 rfl) <|
  rwp_det rfl rfl (det_load_one rfl one3 rfl (ptr_row 2 rfl) rfl) <|
  rwp_det rfl rfl (det_eql rfl rfl rfl) <|
  rwp_nil <|
  awp_cond rfl (fun c1 => ?_) (fun c1 => ?_)
 ·try simp only [sx] at c1
  have hf : fixOk t = true := by rw [← fix_ty (by assumption)]; exact ht
  refine sReg rfl <|
   rwp_det rfl rfl (det_load_agg rfl agg48 rfl (ptr_row 2 rfl) rfl) <|
   rwp_det rfl rfl (det_load_agg rfl agg33 rfl (ptr_row 1 rfl) rfl) <|
   rwp_det rfl rfl (det_call rfl ok70 (fixed_ToFrac t a hf ha) ⟨VLe.refl _, rfl, VLe.refl _, rfl, trivial⟩) <|
   rwp_det rfl rfl (det_move_tup rfl rfl) <|
   rwp_det rfl rfl (det_ex_agg rfl rfl rfl) <|
   rwp_det rfl rfl (det_ex_c rfl rfl rfl) <|
   rwp_op rfl rfl (ope_alloc rfl zr33) ?_
  rintro _ _ ⟨b4, rfl, rfl⟩
  refine rwp_det0 rfl rfl (det_store rfl sz33 rfl rfl rfl (st_row 0 rfl rfl)) <|
   rMv rfl <|
   rwp_nil <|
   sReg rfl <|
   rwp_det rfl rfl (det_load_agg rfl agg33 rfl (ptr_row 0 rfl) rfl) <|
   rwp_det0 rfl rfl (det_store rfl sz33 rfl rfl rfl (st_row 1 rfl rfl)) <|
   rwp_nil <|
   awp_ret <|
   fin1 (rs_cell_agg agg33 rfl (ptr_row 1 rfl) rfl) ?_
  rw [fracV_2 c1]; rfl
 ·try simp only [sx] at c1
  refine awp_skip <|
   sReg rfl <|
   rwp_det rfl rfl (det_load_agg rfl agg33 rfl (ptr_row 1 rfl) rfl) <|
   rwp_det0 rfl rfl (det_store rfl sz33 rfl rfl rfl (st_row 0 rfl rfl)) <|
   rwp_nil <|
   awp_ret <|
   fin1 (rs_cell_agg agg33 rfl (ptr_row 0 rfl) rfl) ?_
  rw [fracV_n c1]; rfl

theorem value_Apply (op : Int) (t : Ty) (a b : Vl) :
    Pur cfg 33 [vI op, vTy t, vVal a, vVal b] (.tup [vVal (aplV op t a b).1, vI (aplV op t a b).2]) := by
 refine con_intro Tryd.func33 rfl Tryd.ntmps33 Tryd.results33 rfl ?_
 intro z hz
 refine sReg rfl <|
  rwp_op rfl rfl (ope_box rfl rfl) ?_
 rintro _ _ ⟨b1, rfl, rfl⟩
 refine rwp_op rfl rfl (ope_box rfl rfl) ?_
 rintro _ _ ⟨b2, rfl, rfl⟩
 refine rwp_op rfl rfl (ope_box rfl rfl) ?_
 rintro _ _ ⟨b3, rfl, rfl⟩
 refine rwp_op rfl rfl (ope_alloc rfl zr33) ?_
 rintro _ _ ⟨b4, rfl, rfl⟩
 refine rMv rfl <|
  rwp_nil <|
  awp_seq <|
  awp_block <|
  sReg rfl <|
  rMv rfl <|
  rwp_det rfl rfl (det_lss rfl rfl rfl) <|
  rMv rfl <|
  rLz [] rfl gv1 trivial (fun g1_2 => det_move rfl rfl) rfl <|
  rLz [(15, _)] rfl gv1 ⟨rfl, rfl, trivial⟩ (fun g1_2 => det_gtr rfl rfl rfl) rfl <|
  rwp_det rfl rfl (det_or rfl rfl rfl rfl (fun h => (lzf h))) <|
  rMv rfl <|
  rwp_nil <|
  awp_cond rfl (fun c1 => ?_) (fun c1 => ?_)
 ·refine sReg rfl <|
   rwp_det rfl rfl (det_build rfl zr33 pl33 rfl) <|
   rwp_det0 rfl rfl (det_store rfl sz33 rfl rfl rfl (st_row 0 rfl rfl)) <|
   rMv rfl <|
   rwp_nil <|
   awp_ret <|
   fin2 (rs_cell_agg agg33 rfl (ptr_row 0 rfl) rfl) (rs_c rfl) ?_
  rw [apl1 c1]; rfl
 ·refine sReg rfl <|
   rwp_det rfl rfl (det_load_agg rfl agg48 rfl (ptr_row 3 rfl) rfl) <|
   rwp_det rfl rfl (det_call rfl ok28 (value_ValidateType t) ⟨VLe.refl _, rfl, trivial⟩) <|
   rwp_det rfl rfl (det_neq rfl rfl rfl) <|
   rMv rfl <|
   rwp_nil <|
   awp_cond rfl (fun c2 => ?_) (fun c2 => ?_)
  ·try simp only [sx] at c2
   have ht : tyOk t = false := tyErr_ne c2
   refine sReg rfl <|
    rwp_det rfl rfl (det_build rfl zr33 pl33 rfl) <|
    rwp_det0 rfl rfl (det_store rfl sz33 rfl rfl rfl (st_row 0 rfl rfl)) <|
    rMv rfl <|
    rwp_nil <|
    awp_ret <|
    fin2 (rs_cell_agg agg33 rfl (ptr_row 0 rfl) rfl) (rs_c rfl) ?_
   rw [apl2 c1 ht]; rfl
  ·try simp only [sx] at c2
   have ht : tyOk t = true := tyErr_eq (by omega)
   refine sReg rfl <|
    rwp_det rfl rfl (det_load_agg rfl agg48 rfl (ptr_row 3 rfl) rfl) <|
    rwp_det rfl rfl (det_load_agg rfl agg33 rfl (ptr_row 2 rfl) rfl) <|
    rwp_det rfl rfl (det_call rfl ok31 (value_Valid t a) ⟨VLe.refl _, rfl, VLe.refl _, rfl, trivial⟩) <|
    rwp_det rfl rfl (det_not rfl rfl) <|
    rMv rfl <|
    rLz [] rfl gv1 trivial (fun g5_4 => det_move rfl rfl) rfl <|
    rLz [(30, _)] rfl gv1 ⟨rfl, rfl, trivial⟩ (fun g5_4 => det_neq rfl rfl rfl) rfl <|
    rLz [(31, _)] rfl gv1 ⟨rfl, rfl, trivial⟩ (fun g5_4 => det_move rfl rfl) rfl <|
    rLz [] rfl gv2 trivial (fun g5_7 => det_load_agg rfl agg48 rfl (ptr_row 3 rfl) rfl) rfl <|
    rLz [] rfl gv2 trivial (fun g5_7 => det_load_agg rfl agg33 rfl (ptr_row 1 rfl) rfl) rfl <|
    rLz [(33, _), (34, _)] rfl gv2 ⟨rfl, rfl, rfl, rfl, trivial⟩ (fun g5_7 => det_call rfl ok31 (value_Valid t b) ⟨VLe.refl _, rfl, VLe.refl _, rfl, trivial⟩) rfl <|
    rLz [(35, _)] rfl gv2 ⟨rfl, rfl, trivial⟩ (fun g5_7 => det_not rfl rfl) rfl <|
    rLz [(32, _)] rfl gv1 ⟨rfl, rfl, trivial⟩ (fun g5_4 => det_and rfl rfl rfl (fun h => and_mk (by assumption) h) rfl) rfl <|
    rwp_det rfl rfl (det_or rfl rfl rfl rfl (fun h => (lzf h))) <|
    rMv rfl <|
    rwp_nil <|
    awp_cond rfl (fun c3 => ?_) (fun c3 => ?_)
   ·have c3 : (!valOk t a || (!decide (op = 8) && !valOk t b)) = true := by rw [ht] at c3; exact c3
    refine sReg rfl <|
     rwp_det rfl rfl (det_build rfl zr33 pl33 rfl) <|
     rwp_det0 rfl rfl (det_store rfl sz33 rfl rfl rfl (st_row 0 rfl rfl)) <|
     rMv rfl <|
     rwp_nil <|
     awp_ret <|
     fin2 (rs_cell_agg agg33 rfl (ptr_row 0 rfl) rfl) (rs_c rfl) ?_
    rw [apl3 c1 ht c3]; rfl
   ·have c3 : (!valOk t a || (!decide (op = 8) && !valOk t b)) = false := by rw [ht] at c3; exact c3
    obtain ⟨ha, hb⟩ := apl_ok c3
    refine awp_skip <|
     awp_seq <|
     sReg rfl <|
     rMv rfl <|
     rwp_nil <|
     awp_block <|
     sReg rfl <|
     rwp_det rfl rfl (det_eql rfl rfl rfl) <|
     rMv rfl <|
     rwp_nil <|
     awp_cond rfl (fun c4 => ?_) (fun c4 => ?_)
    ·try simp only [sx] at c4
     have hm : (decide (op = 9) || decide (op = 10)) = false := by simp; omega
     refine sReg rfl <|
      rwp_det rfl rfl (det_load_agg rfl agg48 rfl (ptr_row 3 rfl) rfl) <|
      rwp_det rfl rfl (det_load_agg rfl agg33 rfl (ptr_row 2 rfl) rfl) <|
      rwp_det rfl rfl (det_call rfl ok45 (value_negate t a ht ha) ⟨VLe.refl _, rfl, VLe.refl _, rfl, trivial⟩) <|
      rwp_det rfl rfl (det_ex_agg rfl rfl rfl) <|
      rwp_det rfl rfl (det_ex_c rfl rfl rfl) <|
      rwp_det0 rfl rfl (det_store rfl sz33 rfl rfl rfl (st_row 0 rfl rfl)) <|
      rMv rfl <|
      rwp_nil <|
      awp_ret <|
      fin2 (rs_cell_agg agg33 rfl (ptr_row 0 rfl) rfl) (rs_c rfl) ?_
     rw [apl5 c1 ht c3 hm, c4, ari_neg ht ha]; rfl
    ·try simp only [sx] at c4
     refine awp_seq <|
      sReg rfl <|
      rwp_det rfl rfl (det_eql rfl rfl rfl) <|
      rMv rfl <|
      rwp_nil <|
      awp_cond rfl (fun c5 => ?_) (fun c5 => ?_)
     ·try simp only [sx] at c5
      refine awp_skip <|
       awp_cond rfl (fun c6 => ?_) (fun c6 => ?_)
      ·try simp only [sx] at c6
       have hm : (decide (op = 9) || decide (op = 10)) = true := by simp; omega
       refine awp_seq <|
        sReg rfl <|
        rwp_det rfl rfl (det_load_agg rfl agg48 rfl (ptr_row 3 rfl) rfl) <|
        rwp_det rfl rfl (det_load_agg rfl agg33 rfl (ptr_row 2 rfl) rfl) <|
        rwp_det rfl rfl (det_load_agg rfl agg33 rfl (ptr_row 1 rfl) rfl) <|
        rwp_det rfl rfl (det_call rfl ok32 (value_Compare t a b) ⟨VLe.refl _, rfl, VLe.refl _, rfl, VLe.refl _, rfl, trivial⟩) <|
        rMv rfl <|
        rwp_nil <|
        sReg rfl <|
        rMv rfl <|
        rwp_det rfl rfl (det_gtr rfl rfl rfl) <|
        rMv rfl <|
        rwp_det rfl rfl (det_eql rfl rfl rfl) <|
        rwp_det rfl rfl (det_beql rfl un4 rfl rfl) <|
        rMv rfl <|
        rLz [] rfl gv1 trivial (fun g13_5 => det_move rfl rfl) rfl <|
        rLz [(61, _)] rfl gv1 ⟨rfl, rfl, trivial⟩ (fun g13_5 => det_neq rfl rfl rfl) rfl <|
        rwp_det rfl rfl (det_and rfl rfl rfl (fun h => h) rfl) <|
        rwp_nil <|
        awp_cond rfl (fun c7 => ?_) (fun c7 => ?_)
       ·refine sReg rfl <|
         rwp_det rfl rfl (det_load_agg rfl agg33 rfl (ptr_row 1 rfl) rfl) <|
         rwp_det0 rfl rfl (det_store rfl sz33 rfl rfl rfl (st_row 0 rfl rfl)) <|
         rMv rfl <|
         rwp_nil <|
         awp_ret <|
         fin2 (rs_cell_agg agg33 rfl (ptr_row 0 rfl) rfl) (rs_c rfl) ?_
        rw [apl6 c1 ht c3 hm, apl_min ht ha (hb c4) c7]; rfl
       ·refine awp_skip <|
         sReg rfl <|
         rwp_det rfl rfl (det_load_agg rfl agg33 rfl (ptr_row 2 rfl) rfl) <|
         rwp_det0 rfl rfl (det_store rfl sz33 rfl rfl rfl (st_row 0 rfl rfl)) <|
         rMv rfl <|
         rwp_nil <|
         awp_ret <|
         fin2 (rs_cell_agg agg33 rfl (ptr_row 0 rfl) rfl) (rs_c rfl) ?_
        rw [apl6 c1 ht c3 hm, apl_min0 ht ha (hb c4) c7]; rfl
      ·try simp only [sx] at c6
       have hm : (decide (op = 9) || decide (op = 10)) = false := by simp; omega
       refine awp_skip <|
        sReg rfl <|
        rMv rfl <|
        rwp_det rfl rfl (det_load_agg rfl agg48 rfl (ptr_row 3 rfl) rfl) <|
        rwp_det rfl rfl (det_load_agg rfl agg33 rfl (ptr_row 2 rfl) rfl) <|
        rwp_det rfl rfl (det_load_agg rfl agg33 rfl (ptr_row 1 rfl) rfl) <|
        rwp_det rfl rfl (det_call rfl ok46 (value_arithmetic op t a b ht ha (hb c4) (by have := apl_rng c1; omega) (by have := apl_rng c1; omega)) ⟨VLe.refl _, rfl, VLe.refl _, rfl, VLe.refl _, rfl, VLe.refl _, rfl, trivial⟩) <|
        rwp_det rfl rfl (det_ex_agg rfl rfl rfl) <|
        rwp_det rfl rfl (det_ex_c rfl rfl rfl) <|
        rwp_det0 rfl rfl (det_store rfl sz33 rfl rfl rfl (st_row 0 rfl rfl)) <|
        rMv rfl <|
        rwp_nil <|
        awp_ret <|
        fin2 (rs_cell_agg agg33 rfl (ptr_row 0 rfl) rfl) (rs_c rfl) ?_
       rw [apl5 c1 ht c3 hm]; rfl
     ·try simp only [sx] at c5
      refine awp_region rfl <|
       rwp_det rfl rfl (det_eql rfl rfl rfl) <|
       rMv rfl <|
       rwp_nil <|
       awp_cond rfl (fun c6 => ?_) (fun c6 => ?_)
      ·try simp only [sx] at c6
       have hm : (decide (op = 9) || decide (op = 10)) = true := by simp; omega
       refine awp_seq <|
        sReg rfl <|
        rwp_det rfl rfl (det_load_agg rfl agg48 rfl (ptr_row 3 rfl) rfl) <|
        rwp_det rfl rfl (det_load_agg rfl agg33 rfl (ptr_row 2 rfl) rfl) <|
        rwp_det rfl rfl (det_load_agg rfl agg33 rfl (ptr_row 1 rfl) rfl) <|
        rwp_det rfl rfl (det_call rfl ok32 (value_Compare t a b) ⟨VLe.refl _, rfl, VLe.refl _, rfl, VLe.refl _, rfl, trivial⟩) <|
        rMv rfl <|
        rwp_nil <|
        sReg rfl <|
        rMv rfl <|
        rwp_det rfl rfl (det_gtr rfl rfl rfl) <|
        rMv rfl <|
        rwp_det rfl rfl (det_eql rfl rfl rfl) <|
        rwp_det rfl rfl (det_beql rfl un4 rfl rfl) <|
        rMv rfl <|
        rLz [] rfl gv1 trivial (fun g13_5 => det_move rfl rfl) rfl <|
        rLz [(61, _)] rfl gv1 ⟨rfl, rfl, trivial⟩ (fun g13_5 => det_neq rfl rfl rfl) rfl <|
        rwp_det rfl rfl (det_and rfl rfl rfl (fun h => h) rfl) <|
        rwp_nil <|
        awp_cond rfl (fun c7 => ?_) (fun c7 => ?_)
       ·refine sReg rfl <|
         rwp_det rfl rfl (det_load_agg rfl agg33 rfl (ptr_row 1 rfl) rfl) <|
         rwp_det0 rfl rfl (det_store rfl sz33 rfl rfl rfl (st_row 0 rfl rfl)) <|
         rMv rfl <|
         rwp_nil <|
         awp_ret <|
         fin2 (rs_cell_agg agg33 rfl (ptr_row 0 rfl) rfl) (rs_c rfl) ?_
        rw [apl6 c1 ht c3 hm, apl_min ht ha (hb c4) c7]; rfl
       ·refine awp_skip <|
         sReg rfl <|
         rwp_det rfl rfl (det_load_agg rfl agg33 rfl (ptr_row 2 rfl) rfl) <|
         rwp_det0 rfl rfl (det_store rfl sz33 rfl rfl rfl (st_row 0 rfl rfl)) <|
         rMv rfl <|
         rwp_nil <|
         awp_ret <|
         fin2 (rs_cell_agg agg33 rfl (ptr_row 0 rfl) rfl) (rs_c rfl) ?_
        rw [apl6 c1 ht c3 hm, apl_min0 ht ha (hb c4) c7]; rfl
      ·try simp only [sx] at c6
       have hm : (decide (op = 9) || decide (op = 10)) = false := by simp; omega
       refine awp_skip <|
        sReg rfl <|
        rMv rfl <|
        rwp_det rfl rfl (det_load_agg rfl agg48 rfl (ptr_row 3 rfl) rfl) <|
        rwp_det rfl rfl (det_load_agg rfl agg33 rfl (ptr_row 2 rfl) rfl) <|
        rwp_det rfl rfl (det_load_agg rfl agg33 rfl (ptr_row 1 rfl) rfl) <|
        rwp_det rfl rfl (det_call rfl ok46 (value_arithmetic op t a b ht ha (hb c4) (by have := apl_rng c1; omega) (by have := apl_rng c1; omega)) ⟨VLe.refl _, rfl, VLe.refl _, rfl, VLe.refl _, rfl, VLe.refl _, rfl, trivial⟩) <|
        rwp_det rfl rfl (det_ex_agg rfl rfl rfl) <|
        rwp_det rfl rfl (det_ex_c rfl rfl rfl) <|
        rwp_det0 rfl rfl (det_store rfl sz33 rfl rfl rfl (st_row 0 rfl rfl)) <|
        rMv rfl <|
        rwp_nil <|
        awp_ret <|
        fin2 (rs_cell_agg agg33 rfl (ptr_row 0 rfl) rfl) (rs_c rfl) ?_
       rw [apl5 c1 ht c3 hm]; rfl

theorem value_Cast (f t : Ty) (v : Vl) :
    Pur cfg 34 [vTy f, vTy t, vVal v] (.tup [vVal (cstV f t v).1, vI (cstV f t v).2]) := by
 refine con_intro Tryd.func34 rfl Tryd.ntmps34 Tryd.results34 rfl ?_
 intro z hz
 refine sReg rfl <|
  rwp_op rfl rfl (ope_box rfl rfl) ?_
 rintro _ _ ⟨b1, rfl, rfl⟩
 refine rwp_op rfl rfl (ope_box rfl rfl) ?_
 rintro _ _ ⟨b2, rfl, rfl⟩
 refine rwp_op rfl rfl (ope_box rfl rfl) ?_
 rintro _ _ ⟨b3, rfl, rfl⟩
 refine rwp_op rfl rfl (ope_alloc rfl zr33) ?_
 rintro _ _ ⟨b4, rfl, rfl⟩
 refine rMv rfl <|
  rwp_nil <|
  awp_seq <|
  awp_block <|
  sReg rfl <|
  rwp_det rfl rfl (det_load_agg rfl agg48 rfl (ptr_row 3 rfl) rfl) <|
  rwp_det rfl rfl (det_call rfl ok28 (value_ValidateType f) ⟨VLe.refl _, rfl, trivial⟩) <|
  rwp_det rfl rfl (det_neq rfl rfl rfl) <|
  rMv rfl <|
  rLz [] rfl gv1 trivial (fun g1_3 => det_load_agg rfl agg48 rfl (ptr_row 2 rfl) rfl) rfl <|
  rLz [(14, _)] rfl gv1 ⟨rfl, rfl, trivial⟩ (fun g1_3 => det_call rfl ok28 (value_ValidateType t) ⟨VLe.refl _, rfl, trivial⟩) rfl <|
  rLz [(15, _)] rfl gv1 ⟨rfl, rfl, trivial⟩ (fun g1_3 => det_neq rfl rfl rfl) rfl <|
  rwp_det rfl rfl (det_or rfl rfl rfl rfl (fun h => (lzf h))) <|
  rMv rfl <|
  rwp_nil <|
  awp_cond rfl (fun c1 => ?_) (fun c1 => ?_)
 ·have c1 : (!tyOk f || !tyOk t) = true := by rw [← err_ty]; exact c1
  refine sReg rfl <|
   rwp_det rfl rfl (det_build rfl zr33 pl33 rfl) <|
   rwp_det0 rfl rfl (det_store rfl sz33 rfl rfl rfl (st_row 0 rfl rfl)) <|
   rMv rfl <|
   rwp_nil <|
   awp_ret <|
   fin2 (rs_cell_agg agg33 rfl (ptr_row 0 rfl) rfl) (rs_c rfl) ?_
  rw [cst1 c1]; rfl
 ·have c1 : (!tyOk f || !tyOk t) = false := by rw [← err_ty]; exact c1
  have hf : tyOk f = true := by cases h : tyOk f; rw [h] at c1; cases c1; rfl
  have ht : tyOk t = true := by cases h : tyOk t; rw [h, hf] at c1; cases c1; rfl
  refine sReg rfl <|
   rwp_det rfl rfl (det_load_agg rfl agg48 rfl (ptr_row 3 rfl) rfl) <|
   rwp_det rfl rfl (det_load_agg rfl agg33 rfl (ptr_row 1 rfl) rfl) <|
   rwp_det rfl rfl (det_call rfl ok31 (value_Valid f v) ⟨VLe.refl _, rfl, VLe.refl _, rfl, trivial⟩) <|
   rwp_det rfl rfl (det_not rfl rfl) <|
   rMv rfl <|
   rwp_nil <|
   awp_cond rfl (fun c2 => ?_) (fun c2 => ?_)
  ·try simp only [sx] at c2
   have hv : valOk f v = false := by rw [hf] at c2; simpa using c2
   refine sReg rfl <|
    rwp_det rfl rfl (det_build rfl zr33 pl33 rfl) <|
    rwp_det0 rfl rfl (det_store rfl sz33 rfl rfl rfl (st_row 0 rfl rfl)) <|
    rMv rfl <|
    rwp_nil <|
    awp_ret <|
    fin2 (rs_cell_agg agg33 rfl (ptr_row 0 rfl) rfl) (rs_c rfl) ?_
   rw [cst2 c1 hv]; rfl
  ·try simp only [sx] at c2
   have hv : valOk f v = true := by rw [hf] at c2; simpa using c2
   have hfr := fracV_ok hf hv
   refine awp_skip <|
    sReg rfl <|
    rwp_det rfl rfl (det_load_agg rfl agg48 rfl (ptr_row 3 rfl) rfl) <|
    rwp_det rfl rfl (det_load_agg rfl agg33 rfl (ptr_row 1 rfl) rfl) <|
    rwp_det rfl rfl (det_call rfl ok47 (value_fraction f v hf hv) ⟨VLe.refl _, rfl, VLe.refl _, rfl, trivial⟩) <|
    rwp_op rfl rfl (ope_alloc rfl zr33) ?_
   rintro _ _ ⟨b5, rfl, rfl⟩
   refine rwp_det0 rfl rfl (det_store rfl sz33 rfl rfl rfl (st_row 0 rfl rfl)) <|
    rwp_nil <|
    awp_seq <|
    sReg rfl <|
    rwp_det rfl rfl (det_field_lit rfl fd48_0 rfl) <|
    rwp_det rfl rfl (det_load_one rfl one3 rfl (ptr_row 3 rfl) rfl) <|
    rwp_nil <|
    awp_block <|
    sReg rfl <|
    rwp_det rfl rfl (det_eql rfl rfl rfl) <|
    rMv rfl <|
    rwp_nil <|
    awp_cond rfl (fun c3 => ?_) (fun c3 => ?_)
   ·try simp only [sx] at c3
    refine sReg rfl <|
     rwp_det rfl rfl (det_load_agg rfl agg33 rfl (ptr_row 0 rfl) rfl) <|
     rwp_det rfl rfl (det_call rfl ok48 (frac_Floor (fracV f v) hfr) ⟨VLe.refl _, rfl, trivial⟩) <|
     rwp_det rfl rfl (det_build rfl zr33 pl33 rfl) <|
     rwp_det0 rfl rfl (det_store rfl sz33 rfl rfl rfl (st_row 1 rfl rfl)) <|
     rMv rfl <|
     rwp_nil <|
     awp_ret <|
     fin2 (rs_cell_agg agg33 rfl (ptr_row 1 rfl) rfl) (rs_c rfl) ?_
    rw [cst3 c1 hv c3]; rfl
   ·try simp only [sx] at c3
    refine sReg rfl <|
     rwp_det rfl rfl (det_eql rfl rfl rfl) <|
     rMv rfl <|
     rwp_nil <|
     awp_cond rfl (fun c4 => ?_) (fun c4 => ?_)
    ·try simp only [sx] at c4
     have hft : fixOk t = true := by rw [← fix_ty c4]; exact ht
     refine sReg rfl <|
      rwp_det rfl rfl (det_load_agg rfl agg48 rfl (ptr_row 3 rfl) rfl) <|
      rwp_det rfl rfl (det_load_agg rfl agg33 rfl (ptr_row 0 rfl) rfl) <|
      rwp_det rfl rfl (det_call rfl ok49 (fixed_FromFrac t (fracV f v) hft hfr) ⟨VLe.refl _, rfl, VLe.refl _, rfl, trivial⟩) <|
      rwp_det rfl rfl (det_ex_agg rfl rfl rfl) <|
      rwp_det rfl rfl (det_ex_c rfl rfl rfl) <|
      rwp_det0 rfl rfl (det_store rfl sz33 rfl rfl rfl (st_row 1 rfl rfl)) <|
      rMv rfl <|
      rwp_nil <|
      awp_ret <|
      fin2 (rs_cell_agg agg33 rfl (ptr_row 1 rfl) rfl) (rs_c rfl) ?_
     rw [cst4 c1 hv c3 c4]; rfl
    ·try simp only [sx] at c4
     refine awp_skip <|
      sReg rfl <|
      rwp_det rfl rfl (det_load_agg rfl agg33 rfl (ptr_row 0 rfl) rfl) <|
      rwp_det0 rfl rfl (det_store rfl sz33 rfl rfl rfl (st_row 1 rfl rfl)) <|
      rMv rfl <|
      rwp_nil <|
      awp_ret <|
      fin2 (rs_cell_agg agg33 rfl (ptr_row 1 rfl) rfl) (rs_c rfl) ?_
     rw [cst5 c1 hv c3 c4]; rfl

end Go.W
