/-
  Walks: what functions of the program compute. Printed by wip/gen/mk2.py.
  Conditions: none.
-/
import Derived.Test.YtmmiedgoamlhpaaGreatDoorYB
set_option linter.unusedSimpArgs false
set_option linter.unusedVariables false
set_option maxRecDepth 10000
namespace Go.W
open Go Go.Eng Go.Proofs Go.L41 Go.Br
attribute [local irreducible] AWP RWP TD finQ
theorem ok63 : callOk Tryz.prog 63 = true := by kernel_rfl
theorem ok117 : callOk Tryz.prog 117 = true := by kernel_rfl
theorem ok118 : callOk Tryz.prog 118 = true := by kernel_rfl
theorem ok121 : callOk Tryz.prog 121 = true := by kernel_rfl
theorem ok122 : callOk Tryz.prog 122 = true := by kernel_rfl
theorem ok166 : callOk Tryz.prog 166 = true := by kernel_rfl
theorem ok167 : callOk Tryz.prog 167 = true := by kernel_rfl
theorem ok168 : callOk Tryz.prog 168 = true := by kernel_rfl
theorem ok169 : callOk Tryz.prog 169 = true := by kernel_rfl
theorem ok170 : callOk Tryz.prog 170 = true := by kernel_rfl
theorem ok171 : callOk Tryz.prog 171 = true := by kernel_rfl
theorem ok172 : callOk Tryz.prog 172 = true := by kernel_rfl
theorem ok173 : callOk Tryz.prog 173 = true := by kernel_rfl
theorem ok174 : callOk Tryz.prog 174 = true := by kernel_rfl
theorem ok175 : callOk Tryz.prog 175 = true := by kernel_rfl
theorem ok176 : callOk Tryz.prog 176 = true := by kernel_rfl
theorem ok177 : callOk Tryz.prog 177 = true := by kernel_rfl
theorem ok178 : callOk Tryz.prog 178 = true := by kernel_rfl
theorem ok179 : callOk Tryz.prog 179 = true := by kernel_rfl
theorem ok180 : callOk Tryz.prog 180 = true := by kernel_rfl
theorem ok234 : callOk Tryz.prog 234 = true := by kernel_rfl
theorem ok235 : callOk Tryz.prog 235 = true := by kernel_rfl
theorem ok236 : callOk Tryz.prog 236 = true := by kernel_rfl
theorem ok237 : callOk Tryz.prog 237 = true := by kernel_rfl
theorem ok238 : callOk Tryz.prog 238 = true := by kernel_rfl
theorem ok239 : callOk Tryz.prog 239 = true := by kernel_rfl
theorem ok240 : callOk Tryz.prog 240 = true := by kernel_rfl
theorem ok241 : callOk Tryz.prog 241 = true := by kernel_rfl
theorem ok242 : callOk Tryz.prog 242 = true := by kernel_rfl
theorem ok243 : callOk Tryz.prog 243 = true := by kernel_rfl
theorem ok244 : callOk Tryz.prog 244 = true := by kernel_rfl
theorem value_negate (t : Ty) (a : Vl) (ht : tyOk t = true) (ha : valOk t a = true) :
    Pur cfg 167 [vTy t, vVal a] (.tup [vVal (negV t a).1, vI (negV t a).2]) := by
 refine con_intro Tryz.func167 rfl Tryz.ntmps167 Tryz.results167 rfl ?_
 intro z hz
 obtain ⟨a1, a2, a3, a4, _⟩ := frOk_in (val_fr ht ha).2.2
 refine sReg rfl <|
  rwp_op rfl rfl (ope_box rfl rfl) ?_
 rintro _ _ ⟨b1, rfl, rfl⟩
 refine rwp_op rfl rfl (ope_box rfl rfl) ?_
 rintro _ _ ⟨b2, rfl, rfl⟩
 refine rwp_op rfl rfl (ope_alloc rfl zr63) ?_
 rintro _ _ ⟨b3, rfl, rfl⟩
 refine rMv rfl <|
  rwp_nil <|
  awp_seq <|
  sReg rfl <|
  rwp_det rfl rfl (det_field_lit rfl fd65_0 rfl) <|
  rwp_det rfl rfl (det_load_one rfl one3 rfl (ptr_row 2 rfl) rfl) <|
  rwp_det rfl rfl (det_eql rfl rfl rfl) <|
  rwp_nil <|
  awp_cond rfl (fun c1 => ?_) (fun c1 => ?_)
 ·try simp only [sx] at c1
  have hf : fixOk t = true := by rw [← fix_ty (by assumption)]; exact ht
  refine sReg rfl <|
   rwp_det rfl rfl (det_load_agg rfl agg65 rfl (ptr_row 2 rfl) rfl) <|
   rwp_det rfl rfl (det_load_agg rfl agg63 rfl (ptr_row 1 rfl) rfl) <|
   rwp_det rfl rfl (det_call rfl ok234 (fixed_Neg t a hf ha) ⟨VLe.refl _, rfl, VLe.refl _, rfl, trivial⟩) <|
   rwp_det rfl rfl (det_ex_agg rfl rfl rfl) <|
   rwp_det rfl rfl (det_ex_c rfl rfl rfl) <|
   rwp_det0 rfl rfl (det_store rfl sz63 rfl rfl rfl (st_row 0 rfl rfl)) <|
   rMv rfl <|
   rwp_nil <|
   awp_ret <|
   fin2 (rs_cell_agg agg63 rfl (ptr_row 0 rfl) rfl) (rs_c rfl) ?_
  rw [negV, decide_eq_true c1]; rfl
 ·try simp only [sx] at c1
  refine awp_skip <|
   sReg rfl <|
   rwp_det rfl rfl (det_field_lit rfl fd63_0 rfl) <|
   rwp_det rfl rfl (det_load_one rfl one2 rfl (ptr_row 1 rfl) rfl) <|
   rwp_det rfl rfl (det_neg_nw rfl rfl ⟨by omega, by omega⟩) <|
   rwp_det rfl rfl (det_field_lit rfl fd63_1 rfl) <|
   rwp_det rfl rfl (det_load_one rfl one2 rfl (ptr_row 1 rfl) rfl) <|
   rwp_det rfl rfl (det_build rfl zr63 pl63 rfl) <|
   rwp_det0 rfl rfl (det_store rfl sz63 rfl rfl rfl (st_row 0 rfl rfl)) <|
   rMv rfl <|
   rwp_nil <|
   awp_ret <|
   fin2 (rs_cell_agg agg63 rfl (ptr_row 0 rfl) rfl) (rs_c rfl) ?_
  rw [negV, dec_false c1]; rfl

theorem value_arithmetic (op : Int) (t : Ty) (a b : Vl) (ht : tyOk t = true) (ha : valOk t a = true) (hb : valOk t b = true) (h1 : 4 ≤ op) (h2 : op ≤ 7) :
    Pur cfg 168 [vI op, vTy t, vVal a, vVal b] (.tup [vVal (ariV op t a b).1, vI (ariV op t a b).2]) := by
 refine con_intro Tryz.func168 rfl Tryz.ntmps168 Tryz.results168 rfl ?_
 intro z hz
 have hfa := (val_fr ht ha).2.2
 have hfb := (val_fr ht hb).2.2
 have hn1 : num31 a.N = true := fr31 hfa
 have hn2 : num31 b.N = true := fr31 hfb
 refine sReg rfl <|
  rwp_op rfl rfl (ope_box rfl rfl) ?_
 rintro _ _ ⟨b1, rfl, rfl⟩
 refine rwp_op rfl rfl (ope_box rfl rfl) ?_
 rintro _ _ ⟨b2, rfl, rfl⟩
 refine rwp_op rfl rfl (ope_box rfl rfl) ?_
 rintro _ _ ⟨b3, rfl, rfl⟩
 refine rwp_op rfl rfl (ope_alloc rfl zr63) ?_
 rintro _ _ ⟨b4, rfl, rfl⟩
 refine rMv rfl <|
  rwp_nil <|
  sReg rfl <|
  rwp_det rfl rfl (det_field_lit rfl fd65_0 rfl) <|
  rwp_det rfl rfl (det_load_one rfl one3 rfl (ptr_row 3 rfl) rfl) <|
  rwp_det rfl rfl (det_eql rfl rfl rfl) <|
  rMv rfl <|
  rwp_nil <|
  awp_seq <|
  awp_block <|
  sReg rfl <|
  rwp_det rfl rfl (det_field_lit rfl fd65_0 rfl) <|
  rwp_det rfl rfl (det_load_one rfl one3 rfl (ptr_row 3 rfl) rfl) <|
  rwp_det rfl rfl (det_eql rfl rfl rfl) <|
  rMv rfl <|
  rwp_nil <|
  awp_cond rfl (fun c1 => ?_) (fun c1 => ?_)
 ·try simp only [sx] at c1
  have hk2 : ¬ t.Kind = 2 := by omega
  refine sReg rfl <|
   rMv rfl <|
   rwp_det rfl rfl (det_field_lit rfl fd63_0 rfl) <|
   rwp_det rfl rfl (det_load_one rfl one2 rfl (ptr_row 2 rfl) rfl) <|
   rwp_det rfl rfl (det_field_lit rfl fd63_0 rfl) <|
   rwp_det rfl rfl (det_load_one rfl one2 rfl (ptr_row 1 rfl) rfl) <|
   rwp_det rfl rfl (det_call rfl ok235 (value_integer op a.N b.N hn1 hn2 (by omega) (by omega)) ⟨VLe.refl _, rfl, VLe.refl _, rfl, VLe.refl _, rfl, trivial⟩) <|
   rwp_det rfl rfl (det_ex_agg rfl rfl rfl) <|
   rwp_det rfl rfl (det_ex_c rfl rfl rfl) <|
   rwp_det0 rfl rfl (det_store rfl sz63 rfl rfl rfl (st_row 0 rfl rfl)) <|
   rMv rfl <|
   rwp_nil <|
   awp_ret <|
   fin2 (rs_cell_agg agg63 rfl (ptr_row 0 rfl) rfl) (rs_c rfl) ?_
  rw [ari3 c1]; rfl
 ·try simp only [sx] at c1
  refine sReg rfl <|
   rMv rfl <|
   rwp_det rfl rfl (det_eql rfl rfl rfl) <|
   rMv rfl <|
   rLz [] rfl gv1 trivial (fun g4_2 => det_move rfl rfl) rfl <|
   rwp_det rfl rfl (det_and rfl rfl rfl (fun h => h) rfl) <|
   rMv rfl <|
   rwp_nil <|
   awp_cond rfl (fun c2 => ?_) (fun c2 => ?_)
  ·obtain ⟨ho, hk⟩ := and_dec c2
   have hf : fixOk t = true := by rw [← fix_ty hk]; exact ht
   refine sReg rfl <|
    rwp_det rfl rfl (det_load_agg rfl agg65 rfl (ptr_row 3 rfl) rfl) <|
    rwp_det rfl rfl (det_load_agg rfl agg63 rfl (ptr_row 2 rfl) rfl) <|
    rwp_det rfl rfl (det_load_agg rfl agg63 rfl (ptr_row 1 rfl) rfl) <|
    rwp_det rfl rfl (det_call rfl ok236 (fixed_Add t a b hf ha hb) ⟨VLe.refl _, rfl, VLe.refl _, rfl, VLe.refl _, rfl, trivial⟩) <|
    rwp_det rfl rfl (det_ex_agg rfl rfl rfl) <|
    rwp_det rfl rfl (det_ex_c rfl rfl rfl) <|
    rwp_det0 rfl rfl (det_store rfl sz63 rfl rfl rfl (st_row 0 rfl rfl)) <|
    rMv rfl <|
    rwp_nil <|
    awp_ret <|
    fin2 (rs_cell_agg agg63 rfl (ptr_row 0 rfl) rfl) (rs_c rfl) ?_
   rw [ari2 hk, fixA1 ho]; rfl
  ·refine sReg rfl <|
    rMv rfl <|
    rwp_det rfl rfl (det_eql rfl rfl rfl) <|
    rMv rfl <|
    rLz [] rfl gv1 trivial (fun g6_2 => det_move rfl rfl) rfl <|
    rwp_det rfl rfl (det_and rfl rfl rfl (fun h => h) rfl) <|
    rMv rfl <|
    rwp_nil <|
    awp_cond rfl (fun c3 => ?_) (fun c3 => ?_)
   ·obtain ⟨ho, hk⟩ := and_dec c3
    have hf : fixOk t = true := by rw [← fix_ty hk]; exact ht
    refine sReg rfl <|
     rwp_det rfl rfl (det_load_agg rfl agg65 rfl (ptr_row 3 rfl) rfl) <|
     rwp_det rfl rfl (det_load_agg rfl agg63 rfl (ptr_row 2 rfl) rfl) <|
     rwp_det rfl rfl (det_load_agg rfl agg63 rfl (ptr_row 1 rfl) rfl) <|
     rwp_det rfl rfl (det_call rfl ok237 (fixed_Sub t a b hf ha hb) ⟨VLe.refl _, rfl, VLe.refl _, rfl, VLe.refl _, rfl, trivial⟩) <|
     rwp_det rfl rfl (det_ex_agg rfl rfl rfl) <|
     rwp_det rfl rfl (det_ex_c rfl rfl rfl) <|
     rwp_det0 rfl rfl (det_store rfl sz63 rfl rfl rfl (st_row 0 rfl rfl)) <|
     rMv rfl <|
     rwp_nil <|
     awp_ret <|
     fin2 (rs_cell_agg agg63 rfl (ptr_row 0 rfl) rfl) (rs_c rfl) ?_
    rw [ari2 hk, fixA2 ho]; rfl
   ·refine sReg rfl <|
     rMv rfl <|
     rwp_det rfl rfl (det_eql rfl rfl rfl) <|
     rMv rfl <|
     rLz [] rfl gv1 trivial (fun g8_2 => det_move rfl rfl) rfl <|
     rwp_det rfl rfl (det_and rfl rfl rfl (fun h => h) rfl) <|
     rMv rfl <|
     rwp_nil <|
     awp_cond rfl (fun c4 => ?_) (fun c4 => ?_)
    ·obtain ⟨ho, hk⟩ := and_dec c4
     have hf : fixOk t = true := by rw [← fix_ty hk]; exact ht
     refine sReg rfl <|
      rwp_det rfl rfl (det_load_agg rfl agg65 rfl (ptr_row 3 rfl) rfl) <|
      rwp_det rfl rfl (det_load_agg rfl agg63 rfl (ptr_row 2 rfl) rfl) <|
      rwp_det rfl rfl (det_load_agg rfl agg63 rfl (ptr_row 1 rfl) rfl) <|
      rwp_det rfl rfl (det_call rfl ok238 (fixed_Mul t a b hf ha hb) ⟨VLe.refl _, rfl, VLe.refl _, rfl, VLe.refl _, rfl, trivial⟩) <|
      rwp_det rfl rfl (det_ex_agg rfl rfl rfl) <|
      rwp_det rfl rfl (det_ex_c rfl rfl rfl) <|
      rwp_det0 rfl rfl (det_store rfl sz63 rfl rfl rfl (st_row 0 rfl rfl)) <|
      rMv rfl <|
      rwp_nil <|
      awp_ret <|
      fin2 (rs_cell_agg agg63 rfl (ptr_row 0 rfl) rfl) (rs_c rfl) ?_
     rw [ari2 hk, fixA3 ho]; rfl
    ·refine sReg rfl <|
      rMv rfl <|
      rMv rfl <|
      rwp_nil <|
      awp_cond rfl (fun c5 => ?_) (fun c5 => ?_)
     ·have hk : t.Kind = 2 := of_decide_eq_true c5
      have hf : fixOk t = true := by rw [← fix_ty hk]; exact ht
      have ho : op = 7 := ari7 hk h1 h2 c2 c3 c4
      refine sReg rfl <|
       rwp_det rfl rfl (det_load_agg rfl agg65 rfl (ptr_row 3 rfl) rfl) <|
       rwp_det rfl rfl (det_load_agg rfl agg63 rfl (ptr_row 2 rfl) rfl) <|
       rwp_det rfl rfl (det_load_agg rfl agg63 rfl (ptr_row 1 rfl) rfl) <|
       rwp_det rfl rfl (det_call rfl ok239 (fixed_Div t a b hf ha hb) ⟨VLe.refl _, rfl, VLe.refl _, rfl, VLe.refl _, rfl, trivial⟩) <|
       rwp_det rfl rfl (det_ex_agg rfl rfl rfl) <|
       rwp_det rfl rfl (det_ex_c rfl rfl rfl) <|
       rwp_det0 rfl rfl (det_store rfl sz63 rfl rfl rfl (st_row 0 rfl rfl)) <|
       rMv rfl <|
       rwp_nil <|
       awp_ret <|
       fin2 (rs_cell_agg agg63 rfl (ptr_row 0 rfl) rfl) (rs_c rfl) ?_
      subst ho
      rw [ari2 hk]; rfl
     ·have hk2 : ¬ t.Kind = 2 := of_decide_eq_false c5
      refine sReg rfl <|
       rMv rfl <|
       rwp_det rfl rfl (det_eql rfl rfl rfl) <|
       rMv rfl <|
       rwp_nil <|
       awp_cond rfl (fun c6 => ?_) (fun c6 => ?_)
      ·try simp only [sx] at c6
       refine sReg rfl <|
        rwp_det rfl rfl (det_load_agg rfl agg63 rfl (ptr_row 2 rfl) rfl) <|
        rwp_det rfl rfl (det_load_agg rfl agg63 rfl (ptr_row 1 rfl) rfl) <|
        rwp_det rfl rfl (det_call rfl ok240 (frac_Add a b) ⟨VLe.refl _, rfl, VLe.refl _, rfl, trivial⟩) <|
        rwp_det rfl rfl (det_ex_agg rfl rfl rfl) <|
        rwp_det rfl rfl (det_ex_c rfl rfl rfl) <|
        rwp_det0 rfl rfl (det_store rfl sz63 rfl rfl rfl (st_row 0 rfl rfl)) <|
        rMv rfl <|
        rwp_nil <|
        awp_ret <|
        fin2 (rs_cell_agg agg63 rfl (ptr_row 0 rfl) rfl) (rs_c rfl) ?_
       subst c6
       rw [ari1 hk2 c1, frX_yes hfa hfb]; rfl
      ·try simp only [sx] at c6
       refine sReg rfl <|
        rMv rfl <|
        rwp_det rfl rfl (det_eql rfl rfl rfl) <|
        rMv rfl <|
        rwp_nil <|
        awp_cond rfl (fun c7 => ?_) (fun c7 => ?_)
       ·try simp only [sx] at c7
        refine sReg rfl <|
         rwp_det rfl rfl (det_load_agg rfl agg63 rfl (ptr_row 2 rfl) rfl) <|
         rwp_det rfl rfl (det_load_agg rfl agg63 rfl (ptr_row 1 rfl) rfl) <|
         rwp_det rfl rfl (det_call rfl ok241 (frac_Sub a b) ⟨VLe.refl _, rfl, VLe.refl _, rfl, trivial⟩) <|
         rwp_det rfl rfl (det_ex_agg rfl rfl rfl) <|
         rwp_det rfl rfl (det_ex_c rfl rfl rfl) <|
         rwp_det0 rfl rfl (det_store rfl sz63 rfl rfl rfl (st_row 0 rfl rfl)) <|
         rMv rfl <|
         rwp_nil <|
         awp_ret <|
         fin2 (rs_cell_agg agg63 rfl (ptr_row 0 rfl) rfl) (rs_c rfl) ?_
        subst c7
        rw [ari1 hk2 c1, frX_yes hfa hfb]; rfl
       ·try simp only [sx] at c7
        refine sReg rfl <|
         rMv rfl <|
         rwp_det rfl rfl (det_eql rfl rfl rfl) <|
         rMv rfl <|
         rwp_nil <|
         awp_cond rfl (fun c8 => ?_) (fun c8 => ?_)
        ·try simp only [sx] at c8
         refine sReg rfl <|
          rwp_det rfl rfl (det_load_agg rfl agg63 rfl (ptr_row 2 rfl) rfl) <|
          rwp_det rfl rfl (det_load_agg rfl agg63 rfl (ptr_row 1 rfl) rfl) <|
          rwp_det rfl rfl (det_call rfl ok242 (frac_Mul a b) ⟨VLe.refl _, rfl, VLe.refl _, rfl, trivial⟩) <|
          rwp_det rfl rfl (det_ex_agg rfl rfl rfl) <|
          rwp_det rfl rfl (det_ex_c rfl rfl rfl) <|
          rwp_det0 rfl rfl (det_store rfl sz63 rfl rfl rfl (st_row 0 rfl rfl)) <|
          rMv rfl <|
          rwp_nil <|
          awp_ret <|
          fin2 (rs_cell_agg agg63 rfl (ptr_row 0 rfl) rfl) (rs_c rfl) ?_
         subst c8
         rw [ari1 hk2 c1, frX_yes hfa hfb]; rfl
        ·try simp only [sx] at c8
         refine awp_skip <|
          sReg rfl <|
          rwp_det rfl rfl (det_load_agg rfl agg63 rfl (ptr_row 2 rfl) rfl) <|
          rwp_det rfl rfl (det_load_agg rfl agg63 rfl (ptr_row 1 rfl) rfl) <|
          rwp_det rfl rfl (det_call rfl ok243 (frac_Div a b) ⟨VLe.refl _, rfl, VLe.refl _, rfl, trivial⟩) <|
          rwp_det rfl rfl (det_ex_agg rfl rfl rfl) <|
          rwp_det rfl rfl (det_ex_c rfl rfl rfl) <|
          rwp_det0 rfl rfl (det_store rfl sz63 rfl rfl rfl (st_row 0 rfl rfl)) <|
          rMv rfl <|
          rwp_nil <|
          awp_ret <|
          fin2 (rs_cell_agg agg63 rfl (ptr_row 0 rfl) rfl) (rs_c rfl) ?_
         have ho : op = 7 := by omega
         subst ho
         rw [ari1 hk2 c1, frX_yes hfa hfb]; rfl

theorem value_Compare (t : Ty) (a b : Vl) :
    Pur cfg 118 [vTy t, vVal a, vVal b] (vI (cmpV t a b)) := by
 refine con_intro Tryz.func118 rfl Tryz.ntmps118 Tryz.results118 rfl ?_
 intro z hz
 refine sReg rfl <|
  rwp_op rfl rfl (ope_box rfl rfl) ?_
 rintro _ _ ⟨b1, rfl, rfl⟩
 refine rwp_op rfl rfl (ope_box rfl rfl) ?_
 rintro _ _ ⟨b2, rfl, rfl⟩
 refine rwp_op rfl rfl (ope_box rfl rfl) ?_
 rintro _ _ ⟨b3, rfl, rfl⟩
 refine rMv rfl <|
  rwp_nil <|
  awp_seq <|
  awp_block <|
  sReg rfl <|
  rwp_det rfl rfl (det_load_agg rfl agg65 rfl (ptr_row 2 rfl) rfl) <|
  rwp_det rfl rfl (det_load_agg rfl agg63 rfl (ptr_row 1 rfl) rfl) <|
  rwp_det rfl rfl (det_call rfl ok117 (value_Valid t a) ⟨VLe.refl _, rfl, VLe.refl _, rfl, trivial⟩) <|
  rwp_det rfl rfl (det_not rfl rfl) <|
  rMv rfl <|
  rLz [] rfl gv1 trivial (fun g1_4 => det_load_agg rfl agg65 rfl (ptr_row 2 rfl) rfl) rfl <|
  rLz [] rfl gv1 trivial (fun g1_4 => det_load_agg rfl agg63 rfl (ptr_row 0 rfl) rfl) rfl <|
  rLz [(13, _), (14, _)] rfl gv1 ⟨rfl, rfl, rfl, rfl, trivial⟩ (fun g1_4 => det_call rfl ok117 (value_Valid t b) ⟨VLe.refl _, rfl, VLe.refl _, rfl, trivial⟩) rfl <|
  rLz [(15, _)] rfl gv1 ⟨rfl, rfl, trivial⟩ (fun g1_4 => det_not rfl rfl) rfl <|
  rwp_det rfl rfl (det_or rfl rfl rfl rfl (fun h => (lzf h))) <|
  rMv rfl <|
  rwp_nil <|
  awp_cond rfl (fun c1 => ?_) (fun c1 => ?_)
 ·have c1 : (!(tyOk t && valOk t a) || !(tyOk t && valOk t b)) = true := c1
  refine sReg rfl <|
   rMv rfl <|
   rwp_nil <|
   awp_ret <|
   fin1 (rs_c rfl) ?_
  rw [cmp_no c1]
 ·have c1 : (!(tyOk t && valOk t a) || !(tyOk t && valOk t b)) = false := c1
  obtain ⟨ga, gb⟩ := both_ok c1
  have ha := (val_fr (Bool.and_eq_true _ _ ▸ ga).1 (Bool.and_eq_true _ _ ▸ ga).2).2.2
  have hb := (val_fr (Bool.and_eq_true _ _ ▸ gb).1 (Bool.and_eq_true _ _ ▸ gb).2).2.2
  refine sReg rfl <|
   rwp_det rfl rfl (det_field_lit rfl fd65_0 rfl) <|
   rwp_det rfl rfl (det_load_one rfl one3 rfl (ptr_row 2 rfl) rfl) <|
   rwp_det rfl rfl (det_eql rfl rfl rfl) <|
   rMv rfl <|
   rwp_nil <|
   awp_cond rfl (fun c2 => ?_) (fun c2 => ?_)
  ·try simp only [sx] at c2
   refine sReg rfl <|
    rwp_det rfl rfl (det_load_agg rfl agg63 rfl (ptr_row 1 rfl) rfl) <|
    rwp_det rfl rfl (det_load_agg rfl agg63 rfl (ptr_row 0 rfl) rfl) <|
    rwp_det rfl rfl (det_call rfl ok166 (frac_Compare a b ha hb) ⟨VLe.refl _, rfl, VLe.refl _, rfl, trivial⟩) <|
    rMv rfl <|
    rwp_nil <|
    awp_ret <|
    fin1 (rs_c rfl) ?_
   rw [cmp_yes ga gb]
  ·try simp only [sx] at c2
   refine sReg rfl <|
    rwp_det rfl rfl (det_field_lit rfl fd63_0 rfl) <|
    rwp_det rfl rfl (det_load_one rfl one2 rfl (ptr_row 1 rfl) rfl) <|
    rwp_det rfl rfl (det_field_lit rfl fd63_0 rfl) <|
    rwp_det rfl rfl (det_load_one rfl one2 rfl (ptr_row 0 rfl) rfl) <|
    rwp_det rfl rfl (det_lss rfl rfl rfl) <|
    rMv rfl <|
    rwp_nil <|
    awp_cond rfl (fun c3 => ?_) (fun c3 => ?_)
   ·try simp only [sx] at c3
    refine sReg rfl <|
     rMv rfl <|
     rwp_nil <|
     awp_ret <|
     fin1 (rs_c rfl) ?_
    rw [cmp_int c2 ga gb, ordI_lt c3]
   ·try simp only [sx] at c3
    refine sReg rfl <|
     rwp_det rfl rfl (det_field_lit rfl fd63_0 rfl) <|
     rwp_det rfl rfl (det_load_one rfl one2 rfl (ptr_row 1 rfl) rfl) <|
     rwp_det rfl rfl (det_field_lit rfl fd63_0 rfl) <|
     rwp_det rfl rfl (det_load_one rfl one2 rfl (ptr_row 0 rfl) rfl) <|
     rwp_det rfl rfl (det_gtr rfl rfl rfl) <|
     rMv rfl <|
     rwp_nil <|
     awp_cond rfl (fun c4 => ?_) (fun c4 => ?_)
    ·try simp only [sx] at c4
     refine sReg rfl <|
      rMv rfl <|
      rwp_nil <|
      awp_ret <|
      fin1 (rs_c rfl) ?_
     rw [cmp_int c2 ga gb, ordI_gt (by omega) c4]
    ·try simp only [sx] at c4
     refine awp_skip <|
      sReg rfl <|
      rMv rfl <|
      rwp_nil <|
      awp_ret <|
      fin1 (rs_c rfl) ?_
     rw [cmp_int c2 ga gb, ordI_eq (by omega) (by omega)]

theorem ref04_Valid (t : Ty) (v : Vl) :
    Pur cfg 121 [vTy t, vVal v] (vB (tyOk t && valOk t v)) := by
 refine con_intro Tryz.func121 rfl Tryz.ntmps121 Tryz.results121 rfl ?_
 intro z hz
 refine sReg rfl <|
  rwp_op rfl rfl (ope_box rfl rfl) ?_
 rintro _ _ ⟨b1, rfl, rfl⟩
 refine rwp_op rfl rfl (ope_box rfl rfl) ?_
 rintro _ _ ⟨b2, rfl, rfl⟩
 refine rMv rfl <|
  rwp_nil <|
  sReg rfl <|
  rwp_det rfl rfl (det_load_agg rfl agg65 rfl (ptr_row 1 rfl) rfl) <|
  rwp_det rfl rfl (det_call rfl ok63 (base_Type t) ⟨VLe.refl _, rfl, trivial⟩) <|
  rMv rfl <|
  rLz [] rfl gv1 trivial (fun g1_2 => det_load_agg rfl agg65 rfl (ptr_row 1 rfl) rfl) rfl <|
  rLz [] rfl gv1 trivial (fun g1_2 => det_load_agg rfl agg63 rfl (ptr_row 0 rfl) rfl) rfl <|
  rLz [(8, _), (9, _)] rfl gv1 ⟨rfl, rfl, rfl, rfl, trivial⟩ (fun g1_2 => det_call rfl ok161 (base_Val t v (by simpa [Lz] using g1_2)) ⟨VLe.refl _, rfl, VLe.refl _, rfl, trivial⟩) rfl <|
  rwp_det rfl rfl (det_and rfl rfl rfl (fun h => h) rfl) <|
  rMv rfl <|
  rwp_nil <|
  awp_ret <|
  fin1 (rs_c rfl) ?_
 exact rfl

theorem ref04_Compare (t : Ty) (a b : Vl) :
    Pur cfg 122 [vTy t, vVal a, vVal b] (vI (cmpV t a b)) := by
 refine con_intro Tryz.func122 rfl Tryz.ntmps122 Tryz.results122 rfl ?_
 intro z hz
 refine sReg rfl <|
  rwp_op rfl rfl (ope_box rfl rfl) ?_
 rintro _ _ ⟨b1, rfl, rfl⟩
 refine rwp_op rfl rfl (ope_box rfl rfl) ?_
 rintro _ _ ⟨b2, rfl, rfl⟩
 refine rwp_op rfl rfl (ope_box rfl rfl) ?_
 rintro _ _ ⟨b3, rfl, rfl⟩
 refine rMv rfl <|
  rwp_nil <|
  awp_seq <|
  sReg rfl <|
  rwp_det rfl rfl (det_load_agg rfl agg65 rfl (ptr_row 2 rfl) rfl) <|
  rwp_det rfl rfl (det_load_agg rfl agg63 rfl (ptr_row 1 rfl) rfl) <|
  rwp_det rfl rfl (det_call rfl ok121 (ref04_Valid t a) ⟨VLe.refl _, rfl, VLe.refl _, rfl, trivial⟩) <|
  rwp_det rfl rfl (det_not rfl rfl) <|
  rMv rfl <|
  rLz [] rfl gv1 trivial (fun g1_4 => det_load_agg rfl agg65 rfl (ptr_row 2 rfl) rfl) rfl <|
  rLz [] rfl gv1 trivial (fun g1_4 => det_load_agg rfl agg63 rfl (ptr_row 0 rfl) rfl) rfl <|
  rLz [(12, _), (13, _)] rfl gv1 ⟨rfl, rfl, rfl, rfl, trivial⟩ (fun g1_4 => det_call rfl ok121 (ref04_Valid t b) ⟨VLe.refl _, rfl, VLe.refl _, rfl, trivial⟩) rfl <|
  rLz [(14, _)] rfl gv1 ⟨rfl, rfl, trivial⟩ (fun g1_4 => det_not rfl rfl) rfl <|
  rwp_det rfl rfl (det_or rfl rfl rfl rfl (fun h => (lzf h))) <|
  rwp_nil <|
  awp_cond rfl (fun c1 => ?_) (fun c1 => ?_)
 ·have c1 : (!(tyOk t && valOk t a) || !(tyOk t && valOk t b)) = true := c1
  refine sReg rfl <|
   rMv rfl <|
   rwp_nil <|
   awp_ret <|
   fin1 (rs_c rfl) ?_
  rw [cmp_no c1]
 ·have c1 : (!(tyOk t && valOk t a) || !(tyOk t && valOk t b)) = false := c1
  obtain ⟨ga, gb⟩ := both_ok c1
  have ha := (val_fr (Bool.and_eq_true _ _ ▸ ga).1 (Bool.and_eq_true _ _ ▸ ga).2).2.2
  have hb := (val_fr (Bool.and_eq_true _ _ ▸ gb).1 (Bool.and_eq_true _ _ ▸ gb).2).2.2
  refine awp_skip <|
   sReg rfl <|
   rwp_det rfl rfl (det_load_agg rfl agg63 rfl (ptr_row 1 rfl) rfl) <|
   rwp_det rfl rfl (det_load_agg rfl agg63 rfl (ptr_row 0 rfl) rfl) <|
   rwp_det rfl rfl (det_call rfl ok172 (ref01_Compare a b ha hb) ⟨VLe.refl _, rfl, VLe.refl _, rfl, trivial⟩) <|
   rMv rfl <|
   rwp_nil <|
   awp_ret <|
   fin1 (rs_c rfl) ?_
  rw [cmp_yes ga gb]

theorem value_fraction (t : Ty) (a : Vl) (ht : tyOk t = true) (ha : valOk t a = true) :
    Pur cfg 169 [vTy t, vVal a] (vVal (fracV t a)) := by
 refine con_intro Tryz.func169 rfl Tryz.ntmps169 Tryz.results169 rfl ?_
 intro z hz
 refine sReg rfl <|
  rwp_op rfl rfl (ope_box rfl rfl) ?_
 rintro _ _ ⟨b1, rfl, rfl⟩
 refine rwp_op rfl rfl (ope_box rfl rfl) ?_
 rintro _ _ ⟨b2, rfl, rfl⟩
 refine rwp_op rfl rfl (ope_alloc rfl zr63) ?_
 rintro _ _ ⟨b3, rfl, rfl⟩
 refine rwp_nil <|
  awp_seq <|
  sReg rfl <|
  rwp_det rfl rfl (det_field_lit rfl fd65_0 rfl) <|
  rwp_det rfl rfl (det_load_one rfl one3 rfl (ptr_row 2 rfl) rfl) <|
  rwp_det rfl rfl (det_eql rfl rfl rfl) <|
  rwp_nil <|
  awp_cond rfl (fun c1 => ?_) (fun c1 => ?_)
 ·try simp only [sx] at c1
  have hf : fixOk t = true := by rw [← fix_ty (by assumption)]; exact ht
  refine sReg rfl <|
   rwp_det rfl rfl (det_load_agg rfl agg65 rfl (ptr_row 2 rfl) rfl) <|
   rwp_det rfl rfl (det_load_agg rfl agg63 rfl (ptr_row 1 rfl) rfl) <|
   rwp_det rfl rfl (det_call rfl ok244 (fixed_ToFrac t a hf ha) ⟨VLe.refl _, rfl, VLe.refl _, rfl, trivial⟩) <|
   rwp_det rfl rfl (det_move_tup rfl rfl) <|
   rwp_det rfl rfl (det_ex_agg rfl rfl rfl) <|
   rwp_det rfl rfl (det_ex_c rfl rfl rfl) <|
   rwp_op rfl rfl (ope_alloc rfl zr63) ?_
  rintro _ _ ⟨b4, rfl, rfl⟩
  refine rwp_det0 rfl rfl (det_store rfl sz63 rfl rfl rfl (st_row 0 rfl rfl)) <|
   rMv rfl <|
   rwp_nil <|
   sReg rfl <|
   rwp_det rfl rfl (det_load_agg rfl agg63 rfl (ptr_row 0 rfl) rfl) <|
   rwp_det0 rfl rfl (det_store rfl sz63 rfl rfl rfl (st_row 1 rfl rfl)) <|
   rwp_nil <|
   awp_ret <|
   fin1 (rs_cell_agg agg63 rfl (ptr_row 1 rfl) rfl) ?_
  rw [fracV_2 c1]; rfl
 ·try simp only [sx] at c1
  refine awp_skip <|
   sReg rfl <|
   rwp_det rfl rfl (det_load_agg rfl agg63 rfl (ptr_row 1 rfl) rfl) <|
   rwp_det0 rfl rfl (det_store rfl sz63 rfl rfl rfl (st_row 0 rfl rfl)) <|
   rwp_nil <|
   awp_ret <|
   fin1 (rs_cell_agg agg63 rfl (ptr_row 0 rfl) rfl) ?_
  rw [fracV_n c1]; rfl

theorem ref04_Value (t : Ty) (a : Vl) (ht : tyOk t = true) (ha : valOk t a = true) :
    Pur cfg 180 [vTy t, vVal a] (vVal (fracV t a)) := by
 refine con_intro Tryz.func180 rfl Tryz.ntmps180 Tryz.results180 rfl ?_
 intro z hz
 refine sReg rfl <|
  rwp_op rfl rfl (ope_box rfl rfl) ?_
 rintro _ _ ⟨b1, rfl, rfl⟩
 refine rwp_op rfl rfl (ope_box rfl rfl) ?_
 rintro _ _ ⟨b2, rfl, rfl⟩
 refine rwp_op rfl rfl (ope_alloc rfl zr63) ?_
 rintro _ _ ⟨b3, rfl, rfl⟩
 refine rwp_nil <|
  awp_seq <|
  sReg rfl <|
  rwp_det rfl rfl (det_field_lit rfl fd65_0 rfl) <|
  rwp_det rfl rfl (det_load_one rfl one3 rfl (ptr_row 2 rfl) rfl) <|
  rwp_det rfl rfl (det_eql rfl rfl rfl) <|
  rwp_nil <|
  awp_cond rfl (fun c1 => ?_) (fun c1 => ?_)
 ·try simp only [sx] at c1
  have hf : fixOk t = true := by rw [← fix_ty (by assumption)]; exact ht
  have hA := fxN hf ha
  have hT := fxT hf
  have hT1 := hT.p1
  have hT2 := hT.p2
  refine awp_draw_c 9 0 [⟨0, .q []⟩, ⟨1, .q [1]⟩, ⟨2, .q [2]⟩, ⟨3, .q []⟩, ⟨4, .q []⟩, ⟨5, .q []⟩, ⟨6, .q []⟩, ⟨7, .q []⟩, ⟨8, .e 1 []⟩] mixed (by kernel_rfl) (by kernel_rfl) rfl rfl rfl <|
   fx_skip rfl <|
   fx_skip rfl <|
   fx_skip rfl <|
   fx_skip rfl <|
   fx_skip rfl <|
   fx_skip rfl <|
   fx_skip rfl <|
   fx_skip rfl <|
   fx_skip rfl <|
   fx_nil <|
   sq_det rfl (by decide) rfl rfl (det_field_lit rfl fd63_0 rfl) <|
   sq_det rfl (by decide) rfl rfl (det_load_one rfl one2 rfl (ptr_row 0 rfl) rfl) <|
   sq_det rfl (by decide) rfl rfl (det_load_agg rfl agg65 rfl (ptr_row 0 rfl) rfl) <|
   sq_det rfl (by decide) rfl rfl (det_call rfl ok184 (ref04_step t hf) ⟨VLe.refl _, rfl, trivial⟩) <|
   sq_det rfl (by decide) rfl rfl (det_call rfl ok249 (ref01_New a.N (pow2 t.Frac) ⟨by omega, by omega⟩ ⟨by omega, by omega⟩) ⟨VLe.refl _, rfl, VLe.refl _, rfl, trivial⟩) <|
   sq_det rfl (by decide) rfl rfl (det_move_tup rfl rfl) <|
   sq_det rfl (by decide) rfl rfl (det_ex_agg rfl rfl rfl) <|
   sq_det rfl (by decide) rfl rfl (det_ex_c rfl rfl rfl) <|
   sq_op0 rfl rfl (by decide) rfl rfl (det_store rfl sz63 rfl rfl rfl (st_row 0 rfl rfl)) ?_
  rintro _ _ ⟨rfl, rfl⟩
  refine ⟨_, rfl, ?_⟩
  refine sq_nil rfl <|
   rwp_nil <|
   sReg rfl <|
   rwp_det rfl rfl (det_load_agg rfl agg63 rfl (ptr_row 1 rfl) rfl) <|
   rwp_det0 rfl rfl (det_store rfl sz63 rfl rfl rfl (st_row 0 rfl rfl)) <|
   rwp_nil <|
   awp_ret <|
   fin1 (rs_cell_agg agg63 rfl (ptr_row 0 rfl) rfl) ?_
  rw [fracV_2 c1]; rfl
 ·try simp only [sx] at c1
  refine awp_skip <|
   sReg rfl <|
   rwp_det rfl rfl (det_load_agg rfl agg63 rfl (ptr_row 1 rfl) rfl) <|
   rwp_det0 rfl rfl (det_store rfl sz63 rfl rfl rfl (st_row 0 rfl rfl)) <|
   rwp_nil <|
   awp_ret <|
   fin1 (rs_cell_agg agg63 rfl (ptr_row 0 rfl) rfl) ?_
  rw [fracV_n c1]; rfl

theorem value_Apply (op : Int) (t : Ty) (a b : Vl) :
    Pur cfg 119 [vI op, vTy t, vVal a, vVal b] (.tup [vVal (aplV op t a b).1, vI (aplV op t a b).2]) := by
 refine con_intro Tryz.func119 rfl Tryz.ntmps119 Tryz.results119 rfl ?_
 intro z hz
 refine sReg rfl <|
  rwp_op rfl rfl (ope_box rfl rfl) ?_
 rintro _ _ ⟨b1, rfl, rfl⟩
 refine rwp_op rfl rfl (ope_box rfl rfl) ?_
 rintro _ _ ⟨b2, rfl, rfl⟩
 refine rwp_op rfl rfl (ope_box rfl rfl) ?_
 rintro _ _ ⟨b3, rfl, rfl⟩
 refine rwp_op rfl rfl (ope_alloc rfl zr63) ?_
 rintro _ _ ⟨b4, rfl, rfl⟩
 refine rMv rfl <|
  rwp_nil <|
  awp_seq <|
  awp_block <|
  sReg rfl <|
  rMv rfl <|
  rwp_det rfl rfl (det_lss rfl rfl rfl) <|
  rMv rfl <|
  rLz [] rfl gv1 trivial (fun g1_2 => det_move rfl rfl) rfl <|
  rLz [(15, _)] rfl gv1 ⟨rfl, rfl, trivial⟩ (fun g1_2 => det_gtr rfl rfl rfl) rfl <|
  rwp_det rfl rfl (det_or rfl rfl rfl rfl (fun h => (lzf h))) <|
  rMv rfl <|
  rwp_nil <|
  awp_cond rfl (fun c1 => ?_) (fun c1 => ?_)
 ·refine sReg rfl <|
   rwp_det rfl rfl (det_build rfl zr63 pl63 rfl) <|
   rwp_det0 rfl rfl (det_store rfl sz63 rfl rfl rfl (st_row 0 rfl rfl)) <|
   rMv rfl <|
   rwp_nil <|
   awp_ret <|
   fin2 (rs_cell_agg agg63 rfl (ptr_row 0 rfl) rfl) (rs_c rfl) ?_
  rw [apl1 c1]; rfl
 ·refine sReg rfl <|
   rwp_det rfl rfl (det_load_agg rfl agg65 rfl (ptr_row 3 rfl) rfl) <|
   rwp_det rfl rfl (det_call rfl ok60 (value_ValidateType t) ⟨VLe.refl _, rfl, trivial⟩) <|
   rwp_det rfl rfl (det_neq rfl rfl rfl) <|
   rMv rfl <|
   rwp_nil <|
   awp_cond rfl (fun c2 => ?_) (fun c2 => ?_)
  ·try simp only [sx] at c2
   have ht : tyOk t = false := tyErr_ne c2
   refine sReg rfl <|
    rwp_det rfl rfl (det_build rfl zr63 pl63 rfl) <|
    rwp_det0 rfl rfl (det_store rfl sz63 rfl rfl rfl (st_row 0 rfl rfl)) <|
    rMv rfl <|
    rwp_nil <|
    awp_ret <|
    fin2 (rs_cell_agg agg63 rfl (ptr_row 0 rfl) rfl) (rs_c rfl) ?_
   rw [apl2 c1 ht]; rfl
  ·try simp only [sx] at c2
   have ht : tyOk t = true := tyErr_eq (by omega)
   refine sReg rfl <|
    rwp_det rfl rfl (det_load_agg rfl agg65 rfl (ptr_row 3 rfl) rfl) <|
    rwp_det rfl rfl (det_load_agg rfl agg63 rfl (ptr_row 2 rfl) rfl) <|
    rwp_det rfl rfl (det_call rfl ok117 (value_Valid t a) ⟨VLe.refl _, rfl, VLe.refl _, rfl, trivial⟩) <|
    rwp_det rfl rfl (det_not rfl rfl) <|
    rMv rfl <|
    rLz [] rfl gv1 trivial (fun g5_4 => det_move rfl rfl) rfl <|
    rLz [(30, _)] rfl gv1 ⟨rfl, rfl, trivial⟩ (fun g5_4 => det_neq rfl rfl rfl) rfl <|
    rLz [(31, _)] rfl gv1 ⟨rfl, rfl, trivial⟩ (fun g5_4 => det_move rfl rfl) rfl <|
    rLz [] rfl gv2 trivial (fun g5_7 => det_load_agg rfl agg65 rfl (ptr_row 3 rfl) rfl) rfl <|
    rLz [] rfl gv2 trivial (fun g5_7 => det_load_agg rfl agg63 rfl (ptr_row 1 rfl) rfl) rfl <|
    rLz [(33, _), (34, _)] rfl gv2 ⟨rfl, rfl, rfl, rfl, trivial⟩ (fun g5_7 => det_call rfl ok117 (value_Valid t b) ⟨VLe.refl _, rfl, VLe.refl _, rfl, trivial⟩) rfl <|
    rLz [(35, _)] rfl gv2 ⟨rfl, rfl, trivial⟩ (fun g5_7 => det_not rfl rfl) rfl <|
    rLz [(32, _)] rfl gv1 ⟨rfl, rfl, trivial⟩ (fun g5_4 => det_and rfl rfl rfl (fun h => and_mk (by assumption) h) rfl) rfl <|
    rwp_det rfl rfl (det_or rfl rfl rfl rfl (fun h => (lzf h))) <|
    rMv rfl <|
    rwp_nil <|
    awp_cond rfl (fun c3 => ?_) (fun c3 => ?_)
   ·have c3 : (!valOk t a || (!decide (op = 8) && !valOk t b)) = true := by rw [ht] at c3; exact c3
    refine sReg rfl <|
     rwp_det rfl rfl (det_build rfl zr63 pl63 rfl) <|
     rwp_det0 rfl rfl (det_store rfl sz63 rfl rfl rfl (st_row 0 rfl rfl)) <|
     rMv rfl <|
     rwp_nil <|
     awp_ret <|
     fin2 (rs_cell_agg agg63 rfl (ptr_row 0 rfl) rfl) (rs_c rfl) ?_
    rw [apl3 c1 ht c3]; rfl
   ·have c3 : (!valOk t a || (!decide (op = 8) && !valOk t b)) = false := by rw [ht] at c3; exact c3
    obtain ⟨ha, hb⟩ := apl_ok c3
    refine awp_skip <|
     awp_seq <|
     sReg rfl <|
     rMv rfl <|
     rwp_nil <|
     awp_block <|
     sReg rfl <|
     rwp_det rfl rfl (det_eql rfl rfl rfl) <|
     rMv rfl <|
     rwp_nil <|
     awp_cond rfl (fun c4 => ?_) (fun c4 => ?_)
    ·try simp only [sx] at c4
     have hm : (decide (op = 9) || decide (op = 10)) = false := by simp; omega
     refine sReg rfl <|
      rwp_det rfl rfl (det_load_agg rfl agg65 rfl (ptr_row 3 rfl) rfl) <|
      rwp_det rfl rfl (det_load_agg rfl agg63 rfl (ptr_row 2 rfl) rfl) <|
      rwp_det rfl rfl (det_call rfl ok167 (value_negate t a ht ha) ⟨VLe.refl _, rfl, VLe.refl _, rfl, trivial⟩) <|
      rwp_det rfl rfl (det_ex_agg rfl rfl rfl) <|
      rwp_det rfl rfl (det_ex_c rfl rfl rfl) <|
      rwp_det0 rfl rfl (det_store rfl sz63 rfl rfl rfl (st_row 0 rfl rfl)) <|
      rMv rfl <|
      rwp_nil <|
      awp_ret <|
      fin2 (rs_cell_agg agg63 rfl (ptr_row 0 rfl) rfl) (rs_c rfl) ?_
     rw [apl5 c1 ht c3 hm, c4, ari_neg ht ha]; rfl
    ·try simp only [sx] at c4
     refine awp_seq <|
      sReg rfl <|
      rwp_det rfl rfl (det_eql rfl rfl rfl) <|
      rMv rfl <|
      rwp_nil <|
      awp_cond rfl (fun c5 => ?_) (fun c5 => ?_)
     ·try simp only [sx] at c5
      refine awp_skip <|
       awp_cond rfl (fun c6 => ?_) (fun c6 => ?_)
      ·try simp only [sx] at c6
       have hm : (decide (op = 9) || decide (op = 10)) = true := by simp; omega
       refine awp_seq <|
        sReg rfl <|
        rwp_det rfl rfl (det_load_agg rfl agg65 rfl (ptr_row 3 rfl) rfl) <|
        rwp_det rfl rfl (det_load_agg rfl agg63 rfl (ptr_row 2 rfl) rfl) <|
        rwp_det rfl rfl (det_load_agg rfl agg63 rfl (ptr_row 1 rfl) rfl) <|
        rwp_det rfl rfl (det_call rfl ok118 (value_Compare t a b) ⟨VLe.refl _, rfl, VLe.refl _, rfl, VLe.refl _, rfl, trivial⟩) <|
        rMv rfl <|
        rwp_nil <|
        sReg rfl <|
        rMv rfl <|
        rwp_det rfl rfl (det_gtr rfl rfl rfl) <|
        rMv rfl <|
        rwp_det rfl rfl (det_eql rfl rfl rfl) <|
        rwp_det rfl rfl (det_beql rfl un4 rfl rfl) <|
        rMv rfl <|
        rLz [] rfl gv1 trivial (fun g13_5 => det_move rfl rfl) rfl <|
        rLz [(61, _)] rfl gv1 ⟨rfl, rfl, trivial⟩ (fun g13_5 => det_neq rfl rfl rfl) rfl <|
        rwp_det rfl rfl (det_and rfl rfl rfl (fun h => h) rfl) <|
        rwp_nil <|
        awp_cond rfl (fun c7 => ?_) (fun c7 => ?_)
       ·refine sReg rfl <|
         rwp_det rfl rfl (det_load_agg rfl agg63 rfl (ptr_row 1 rfl) rfl) <|
         rwp_det0 rfl rfl (det_store rfl sz63 rfl rfl rfl (st_row 0 rfl rfl)) <|
         rMv rfl <|
         rwp_nil <|
         awp_ret <|
         fin2 (rs_cell_agg agg63 rfl (ptr_row 0 rfl) rfl) (rs_c rfl) ?_
        rw [apl6 c1 ht c3 hm, apl_min ht ha (hb c4) c7]; rfl
       ·refine awp_skip <|
         sReg rfl <|
         rwp_det rfl rfl (det_load_agg rfl agg63 rfl (ptr_row 2 rfl) rfl) <|
         rwp_det0 rfl rfl (det_store rfl sz63 rfl rfl rfl (st_row 0 rfl rfl)) <|
         rMv rfl <|
         rwp_nil <|
         awp_ret <|
         fin2 (rs_cell_agg agg63 rfl (ptr_row 0 rfl) rfl) (rs_c rfl) ?_
        rw [apl6 c1 ht c3 hm, apl_min0 ht ha (hb c4) c7]; rfl
      ·try simp only [sx] at c6
       have hm : (decide (op = 9) || decide (op = 10)) = false := by simp; omega
       refine awp_skip <|
        sReg rfl <|
        rMv rfl <|
        rwp_det rfl rfl (det_load_agg rfl agg65 rfl (ptr_row 3 rfl) rfl) <|
        rwp_det rfl rfl (det_load_agg rfl agg63 rfl (ptr_row 2 rfl) rfl) <|
        rwp_det rfl rfl (det_load_agg rfl agg63 rfl (ptr_row 1 rfl) rfl) <|
        rwp_det rfl rfl (det_call rfl ok168 (value_arithmetic op t a b ht ha (hb c4) (by have := apl_rng c1; omega) (by have := apl_rng c1; omega)) ⟨VLe.refl _, rfl, VLe.refl _, rfl, VLe.refl _, rfl, VLe.refl _, rfl, trivial⟩) <|
        rwp_det rfl rfl (det_ex_agg rfl rfl rfl) <|
        rwp_det rfl rfl (det_ex_c rfl rfl rfl) <|
        rwp_det0 rfl rfl (det_store rfl sz63 rfl rfl rfl (st_row 0 rfl rfl)) <|
        rMv rfl <|
        rwp_nil <|
        awp_ret <|
        fin2 (rs_cell_agg agg63 rfl (ptr_row 0 rfl) rfl) (rs_c rfl) ?_
       rw [apl5 c1 ht c3 hm]; rfl
     ·try simp only [sx] at c5
      refine awp_region rfl <|
       rwp_det rfl rfl (det_eql rfl rfl rfl) <|
       rMv rfl <|
       rwp_nil <|
       awp_cond rfl (fun c6 => ?_) (fun c6 => ?_)
      ·try simp only [sx] at c6
       have hm : (decide (op = 9) || decide (op = 10)) = true := by simp; omega
       refine awp_seq <|
        sReg rfl <|
        rwp_det rfl rfl (det_load_agg rfl agg65 rfl (ptr_row 3 rfl) rfl) <|
        rwp_det rfl rfl (det_load_agg rfl agg63 rfl (ptr_row 2 rfl) rfl) <|
        rwp_det rfl rfl (det_load_agg rfl agg63 rfl (ptr_row 1 rfl) rfl) <|
        rwp_det rfl rfl (det_call rfl ok118 (value_Compare t a b) ⟨VLe.refl _, rfl, VLe.refl _, rfl, VLe.refl _, rfl, trivial⟩) <|
        rMv rfl <|
        rwp_nil <|
        sReg rfl <|
        rMv rfl <|
        rwp_det rfl rfl (det_gtr rfl rfl rfl) <|
        rMv rfl <|
        rwp_det rfl rfl (det_eql rfl rfl rfl) <|
        rwp_det rfl rfl (det_beql rfl un4 rfl rfl) <|
        rMv rfl <|
        rLz [] rfl gv1 trivial (fun g13_5 => det_move rfl rfl) rfl <|
        rLz [(61, _)] rfl gv1 ⟨rfl, rfl, trivial⟩ (fun g13_5 => det_neq rfl rfl rfl) rfl <|
        rwp_det rfl rfl (det_and rfl rfl rfl (fun h => h) rfl) <|
        rwp_nil <|
        awp_cond rfl (fun c7 => ?_) (fun c7 => ?_)
       ·refine sReg rfl <|
         rwp_det rfl rfl (det_load_agg rfl agg63 rfl (ptr_row 1 rfl) rfl) <|
         rwp_det0 rfl rfl (det_store rfl sz63 rfl rfl rfl (st_row 0 rfl rfl)) <|
         rMv rfl <|
         rwp_nil <|
         awp_ret <|
         fin2 (rs_cell_agg agg63 rfl (ptr_row 0 rfl) rfl) (rs_c rfl) ?_
        rw [apl6 c1 ht c3 hm, apl_min ht ha (hb c4) c7]; rfl
       ·refine awp_skip <|
         sReg rfl <|
         rwp_det rfl rfl (det_load_agg rfl agg63 rfl (ptr_row 2 rfl) rfl) <|
         rwp_det0 rfl rfl (det_store rfl sz63 rfl rfl rfl (st_row 0 rfl rfl)) <|
         rMv rfl <|
         rwp_nil <|
         awp_ret <|
         fin2 (rs_cell_agg agg63 rfl (ptr_row 0 rfl) rfl) (rs_c rfl) ?_
        rw [apl6 c1 ht c3 hm, apl_min0 ht ha (hb c4) c7]; rfl
      ·try simp only [sx] at c6
       have hm : (decide (op = 9) || decide (op = 10)) = false := by simp; omega
       refine awp_skip <|
        sReg rfl <|
        rMv rfl <|
        rwp_det rfl rfl (det_load_agg rfl agg65 rfl (ptr_row 3 rfl) rfl) <|
        rwp_det rfl rfl (det_load_agg rfl agg63 rfl (ptr_row 2 rfl) rfl) <|
        rwp_det rfl rfl (det_load_agg rfl agg63 rfl (ptr_row 1 rfl) rfl) <|
        rwp_det rfl rfl (det_call rfl ok168 (value_arithmetic op t a b ht ha (hb c4) (by have := apl_rng c1; omega) (by have := apl_rng c1; omega)) ⟨VLe.refl _, rfl, VLe.refl _, rfl, VLe.refl _, rfl, VLe.refl _, rfl, trivial⟩) <|
        rwp_det rfl rfl (det_ex_agg rfl rfl rfl) <|
        rwp_det rfl rfl (det_ex_c rfl rfl rfl) <|
        rwp_det0 rfl rfl (det_store rfl sz63 rfl rfl rfl (st_row 0 rfl rfl)) <|
        rMv rfl <|
        rwp_nil <|
        awp_ret <|
        fin2 (rs_cell_agg agg63 rfl (ptr_row 0 rfl) rfl) (rs_c rfl) ?_
       rw [apl5 c1 ht c3 hm]; rfl

theorem ref04_Apply (op : Int) (t : Ty) (a b : Vl) :
    Pur cfg 124 [vI op, vTy t, vVal a, vVal b] (.tup [vVal (aplV op t a b).1, vI (aplV op t a b).2]) := by
 refine con_intro Tryz.func124 rfl Tryz.ntmps124 Tryz.results124 rfl ?_
 intro z hz
 refine sReg rfl <|
  rwp_op rfl rfl (ope_box rfl rfl) ?_
 rintro _ _ ⟨b1, rfl, rfl⟩
 refine rwp_op rfl rfl (ope_box rfl rfl) ?_
 rintro _ _ ⟨b2, rfl, rfl⟩
 refine rwp_op rfl rfl (ope_box rfl rfl) ?_
 rintro _ _ ⟨b3, rfl, rfl⟩
 refine rwp_op rfl rfl (ope_alloc rfl zr63) ?_
 rintro _ _ ⟨b4, rfl, rfl⟩
 refine rMv rfl <|
  rwp_nil <|
  awp_seq <|
  sReg rfl <|
  rMv rfl <|
  rwp_det rfl rfl (det_lss rfl rfl rfl) <|
  rMv rfl <|
  rLz [] rfl gv1 trivial (fun g1_2 => det_move rfl rfl) rfl <|
  rLz [(13, _)] rfl gv1 ⟨rfl, rfl, trivial⟩ (fun g1_2 => det_gtr rfl rfl rfl) rfl <|
  rwp_det rfl rfl (det_or rfl rfl rfl rfl (fun h => (lzf h))) <|
  rwp_nil <|
  awp_cond rfl (fun c1 => ?_) (fun c1 => ?_)
 ·refine sReg rfl <|
   rwp_det rfl rfl (det_build rfl zr63 pl63 rfl) <|
   rwp_det0 rfl rfl (det_store rfl sz63 rfl rfl rfl (st_row 0 rfl rfl)) <|
   rMv rfl <|
   rwp_nil <|
   awp_ret <|
   fin2 (rs_cell_agg agg63 rfl (ptr_row 0 rfl) rfl) (rs_c rfl) ?_
  rw [apl1 c1]; rfl
 ·refine awp_skip <|
   awp_seq <|
   sReg rfl <|
   rwp_det rfl rfl (det_load_agg rfl agg65 rfl (ptr_row 3 rfl) rfl) <|
   rwp_det rfl rfl (det_call rfl ok63 (base_Type t) ⟨VLe.refl _, rfl, trivial⟩) <|
   rwp_det rfl rfl (det_not rfl rfl) <|
   rwp_nil <|
   awp_cond rfl (fun c2 => ?_) (fun c2 => ?_)
  ·try simp only [sx] at c2
   have ht : tyOk t = false := by simpa using c2
   refine sReg rfl <|
    rwp_det rfl rfl (det_build rfl zr63 pl63 rfl) <|
    rwp_det0 rfl rfl (det_store rfl sz63 rfl rfl rfl (st_row 0 rfl rfl)) <|
    rMv rfl <|
    rwp_nil <|
    awp_ret <|
    fin2 (rs_cell_agg agg63 rfl (ptr_row 0 rfl) rfl) (rs_c rfl) ?_
   rw [apl2 c1 ht]; rfl
  ·try simp only [sx] at c2
   have ht : tyOk t = true := by simpa using c2
   refine awp_skip <|
    awp_seq <|
    sReg rfl <|
    rwp_det rfl rfl (det_load_agg rfl agg65 rfl (ptr_row 3 rfl) rfl) <|
    rwp_det rfl rfl (det_load_agg rfl agg63 rfl (ptr_row 2 rfl) rfl) <|
    rwp_det rfl rfl (det_call rfl ok161 (base_Val t a ht) ⟨VLe.refl _, rfl, VLe.refl _, rfl, trivial⟩) <|
    rwp_det rfl rfl (det_not rfl rfl) <|
    rMv rfl <|
    rLz [] rfl gv1 trivial (fun g5_4 => det_move rfl rfl) rfl <|
    rLz [(26, _)] rfl gv1 ⟨rfl, rfl, trivial⟩ (fun g5_4 => det_neq rfl rfl rfl) rfl <|
    rLz [(27, _)] rfl gv1 ⟨rfl, rfl, trivial⟩ (fun g5_4 => det_move rfl rfl) rfl <|
    rLz [] rfl gv2 trivial (fun g5_7 => det_load_agg rfl agg65 rfl (ptr_row 3 rfl) rfl) rfl <|
    rLz [] rfl gv2 trivial (fun g5_7 => det_load_agg rfl agg63 rfl (ptr_row 1 rfl) rfl) rfl <|
    rLz [(29, _), (30, _)] rfl gv2 ⟨rfl, rfl, rfl, rfl, trivial⟩ (fun g5_7 => det_call rfl ok161 (base_Val t b ht) ⟨VLe.refl _, rfl, VLe.refl _, rfl, trivial⟩) rfl <|
    rLz [(31, _)] rfl gv2 ⟨rfl, rfl, trivial⟩ (fun g5_7 => det_not rfl rfl) rfl <|
    rLz [(28, _)] rfl gv1 ⟨rfl, rfl, trivial⟩ (fun g5_4 => det_and rfl rfl rfl (fun h => and_mk (by assumption) h) rfl) rfl <|
    rwp_det rfl rfl (det_or rfl rfl rfl rfl (fun h => (lzf h))) <|
    rwp_nil <|
    awp_cond rfl (fun c3 => ?_) (fun c3 => ?_)
   ·have c3 : (!valOk t a || (!decide (op = 8) && !valOk t b)) = true := c3
    refine sReg rfl <|
     rwp_det rfl rfl (det_build rfl zr63 pl63 rfl) <|
     rwp_det0 rfl rfl (det_store rfl sz63 rfl rfl rfl (st_row 0 rfl rfl)) <|
     rMv rfl <|
     rwp_nil <|
     awp_ret <|
     fin2 (rs_cell_agg agg63 rfl (ptr_row 0 rfl) rfl) (rs_c rfl) ?_
    rw [apl3 c1 ht c3]; rfl
   ·have c3 : (!valOk t a || (!decide (op = 8) && !valOk t b)) = false := c3
    obtain ⟨ha, hb⟩ := apl_ok c3
    have hr := apl_rng c1
    have hfa := (val_fr ht ha).2.2
    refine awp_skip <|
     awp_seq <|
     sReg rfl <|
     rMv rfl <|
     rwp_det rfl rfl (det_eql rfl rfl rfl) <|
     rMv rfl <|
     rLz [] rfl gv1 trivial (fun g7_2 => det_move rfl rfl) rfl <|
     rLz [(39, _)] rfl gv1 ⟨rfl, rfl, trivial⟩ (fun g7_2 => det_eql rfl rfl rfl) rfl <|
     rwp_det rfl rfl (det_or rfl rfl rfl rfl (fun h => (lzf h))) <|
     rwp_nil <|
     awp_cond rfl (fun c4 => ?_) (fun c4 => ?_)
    ·have h8 : ¬ op = 8 := by simp at c4; omega
     refine awp_seq <|
      sReg rfl <|
      rwp_det rfl rfl (det_load_agg rfl agg65 rfl (ptr_row 3 rfl) rfl) <|
      rwp_det rfl rfl (det_load_agg rfl agg63 rfl (ptr_row 2 rfl) rfl) <|
      rwp_det rfl rfl (det_load_agg rfl agg63 rfl (ptr_row 1 rfl) rfl) <|
      rwp_det rfl rfl (det_call rfl ok122 (ref04_Compare t a b) ⟨VLe.refl _, rfl, VLe.refl _, rfl, VLe.refl _, rfl, trivial⟩) <|
      rwp_det rfl rfl (det_gtr rfl rfl rfl) <|
      rMv rfl <|
      rwp_det rfl rfl (det_eql rfl rfl rfl) <|
      rwp_det rfl rfl (det_beql rfl un4 rfl rfl) <|
      rwp_nil <|
      awp_cond rfl (fun c5 => ?_) (fun c5 => ?_)
     ·refine sReg rfl <|
       rwp_det rfl rfl (det_load_agg rfl agg63 rfl (ptr_row 1 rfl) rfl) <|
       rwp_det0 rfl rfl (det_store rfl sz63 rfl rfl rfl (st_row 0 rfl rfl)) <|
       rMv rfl <|
       rwp_nil <|
       awp_ret <|
       fin2 (rs_cell_agg agg63 rfl (ptr_row 0 rfl) rfl) (rs_c rfl) ?_
      rw [apl6 c1 ht c3 c4]
      exact congrArg (fun x => V.tup [vVal x, vI 0]) (by rw [c5]; rfl)
     ·refine awp_skip <|
       sReg rfl <|
       rwp_det rfl rfl (det_load_agg rfl agg63 rfl (ptr_row 2 rfl) rfl) <|
       rwp_det0 rfl rfl (det_store rfl sz63 rfl rfl rfl (st_row 0 rfl rfl)) <|
       rMv rfl <|
       rwp_nil <|
       awp_ret <|
       fin2 (rs_cell_agg agg63 rfl (ptr_row 0 rfl) rfl) (rs_c rfl) ?_
      rw [apl6 c1 ht c3 c4]
      exact congrArg (fun x => V.tup [vVal x, vI 0]) (by rw [c5]; rfl)
    ·have hm := c4
     have hop : op ≤ 8 := by simp at c4; omega
     refine awp_skip <|
      awp_seq <|
      sReg rfl <|
      rwp_det rfl rfl (det_field_lit rfl fd65_0 rfl) <|
      rwp_det rfl rfl (det_load_one rfl one3 rfl (ptr_row 3 rfl) rfl) <|
      rwp_det rfl rfl (det_eql rfl rfl rfl) <|
      rwp_nil <|
      awp_cond rfl (fun c6 => ?_) (fun c6 => ?_)
     ·try simp only [sx] at c6
      have hf : fixOk t = true := by rw [← fix_ty c6]; exact ht
      refine sReg rfl <|
       rMv rfl <|
       rwp_det rfl rfl (det_load_agg rfl agg65 rfl (ptr_row 3 rfl) rfl) <|
       rwp_det rfl rfl (det_field_lit rfl fd63_0 rfl) <|
       rwp_det rfl rfl (det_load_one rfl one2 rfl (ptr_row 2 rfl) rfl) <|
       rwp_det rfl rfl (det_field_lit rfl fd63_0 rfl) <|
       rwp_det rfl rfl (det_load_one rfl one2 rfl (ptr_row 1 rfl) rfl) <|
       rwp_det rfl rfl (det_call rfl ok173 (ref04_fix op t a.N b.N hf (fxN hf ha) (fun h8 => fxN hf (hb h8)) (by omega) (by omega)) ⟨VLe.refl _, rfl, VLe.refl _, rfl, VLe.refl _, rfl, VLe.refl _, rfl, trivial⟩) <|
       rwp_det rfl rfl (det_ex_agg rfl rfl rfl) <|
       rwp_det rfl rfl (det_ex_c rfl rfl rfl) <|
       rwp_det0 rfl rfl (det_store rfl sz63 rfl rfl rfl (st_row 0 rfl rfl)) <|
       rMv rfl <|
       rwp_nil <|
       awp_ret <|
       fin2 (rs_cell_agg agg63 rfl (ptr_row 0 rfl) rfl) (rs_c rfl) ?_
      rw [apl5 c1 ht c3 hm, ari2 c6]; rfl
     ·try simp only [sx] at c6
      refine awp_skip <|
       awp_seq <|
       sReg rfl <|
       rwp_det rfl rfl (det_field_lit rfl fd65_0 rfl) <|
       rwp_det rfl rfl (det_load_one rfl one3 rfl (ptr_row 3 rfl) rfl) <|
       rwp_det rfl rfl (det_eql rfl rfl rfl) <|
       rwp_nil <|
       awp_cond rfl (fun c7 => ?_) (fun c7 => ?_)
      ·try simp only [sx] at c7
       refine sReg rfl <|
        rMv rfl <|
        rwp_det rfl rfl (det_field_lit rfl fd63_0 rfl) <|
        rwp_det rfl rfl (det_load_one rfl one2 rfl (ptr_row 2 rfl) rfl) <|
        rwp_det rfl rfl (det_field_lit rfl fd63_0 rfl) <|
        rwp_det rfl rfl (det_load_one rfl one2 rfl (ptr_row 1 rfl) rfl) <|
        rwp_det rfl rfl (det_call rfl ok174 (ref04_whole op a.N b.N (fr31 hfa) (fun h8 => fr31 (val_fr ht (hb h8)).2.2) (by omega) (by omega)) ⟨VLe.refl _, rfl, VLe.refl _, rfl, VLe.refl _, rfl, trivial⟩) <|
        rwp_det rfl rfl (det_ex_agg rfl rfl rfl) <|
        rwp_det rfl rfl (det_ex_c rfl rfl rfl) <|
        rwp_det0 rfl rfl (det_store rfl sz63 rfl rfl rfl (st_row 0 rfl rfl)) <|
        rMv rfl <|
        rwp_nil <|
        awp_ret <|
        fin2 (rs_cell_agg agg63 rfl (ptr_row 0 rfl) rfl) (rs_c rfl) ?_
       rw [apl5 c1 ht c3 hm, ari3 c7]; rfl
      ·try simp only [sx] at c7
       refine awp_skip <|
        awp_seq <|
        sReg rfl <|
        rMv rfl <|
        rwp_nil <|
        awp_block <|
        sReg rfl <|
        rwp_det rfl rfl (det_eql rfl rfl rfl) <|
        rMv rfl <|
        rwp_nil <|
        awp_cond rfl (fun c8 => ?_) (fun c8 => ?_)
       ·try simp only [sx] at c8
        refine sReg rfl <|
         rwp_det rfl rfl (det_load_agg rfl agg63 rfl (ptr_row 2 rfl) rfl) <|
         rwp_det rfl rfl (det_load_agg rfl agg63 rfl (ptr_row 1 rfl) rfl) <|
         rwp_det rfl rfl (det_call rfl ok175 (ref01_Add a b) ⟨VLe.refl _, rfl, VLe.refl _, rfl, trivial⟩) <|
         rwp_det rfl rfl (det_ex_agg rfl rfl rfl) <|
         rwp_det rfl rfl (det_ex_c rfl rfl rfl) <|
         rwp_det0 rfl rfl (det_store rfl sz63 rfl rfl rfl (st_row 0 rfl rfl)) <|
         rMv rfl <|
         rwp_nil <|
         awp_ret <|
         fin2 (rs_cell_agg agg63 rfl (ptr_row 0 rfl) rfl) (rs_c rfl) ?_
        rw [apl5 c1 ht c3 hm, ari1 c6 c7]
        subst c8
        rw [frX_yes hfa (val_fr ht (hb (by decide))).2.2]; rfl
       ·try simp only [sx] at c8
        refine sReg rfl <|
         rwp_det rfl rfl (det_eql rfl rfl rfl) <|
         rMv rfl <|
         rwp_nil <|
         awp_cond rfl (fun c9 => ?_) (fun c9 => ?_)
        ·try simp only [sx] at c9
         refine sReg rfl <|
          rwp_det rfl rfl (det_load_agg rfl agg63 rfl (ptr_row 2 rfl) rfl) <|
          rwp_det rfl rfl (det_load_agg rfl agg63 rfl (ptr_row 1 rfl) rfl) <|
          rwp_det rfl rfl (det_call rfl ok176 (ref01_Sub a b) ⟨VLe.refl _, rfl, VLe.refl _, rfl, trivial⟩) <|
          rwp_det rfl rfl (det_ex_agg rfl rfl rfl) <|
          rwp_det rfl rfl (det_ex_c rfl rfl rfl) <|
          rwp_det0 rfl rfl (det_store rfl sz63 rfl rfl rfl (st_row 0 rfl rfl)) <|
          rMv rfl <|
          rwp_nil <|
          awp_ret <|
          fin2 (rs_cell_agg agg63 rfl (ptr_row 0 rfl) rfl) (rs_c rfl) ?_
         rw [apl5 c1 ht c3 hm, ari1 c6 c7]
         subst c9
         rw [frX_yes hfa (val_fr ht (hb (by decide))).2.2]; rfl
        ·try simp only [sx] at c9
         refine sReg rfl <|
          rwp_det rfl rfl (det_eql rfl rfl rfl) <|
          rMv rfl <|
          rwp_nil <|
          awp_cond rfl (fun c10 => ?_) (fun c10 => ?_)
         ·try simp only [sx] at c10
          refine sReg rfl <|
           rwp_det rfl rfl (det_load_agg rfl agg63 rfl (ptr_row 2 rfl) rfl) <|
           rwp_det rfl rfl (det_load_agg rfl agg63 rfl (ptr_row 1 rfl) rfl) <|
           rwp_det rfl rfl (det_call rfl ok177 (ref01_Mul a b) ⟨VLe.refl _, rfl, VLe.refl _, rfl, trivial⟩) <|
           rwp_det rfl rfl (det_ex_agg rfl rfl rfl) <|
           rwp_det rfl rfl (det_ex_c rfl rfl rfl) <|
           rwp_det0 rfl rfl (det_store rfl sz63 rfl rfl rfl (st_row 0 rfl rfl)) <|
           rMv rfl <|
           rwp_nil <|
           awp_ret <|
           fin2 (rs_cell_agg agg63 rfl (ptr_row 0 rfl) rfl) (rs_c rfl) ?_
          rw [apl5 c1 ht c3 hm, ari1 c6 c7]
          subst c10
          rw [frX_yes hfa (val_fr ht (hb (by decide))).2.2]; rfl
         ·try simp only [sx] at c10
          refine sReg rfl <|
           rwp_det rfl rfl (det_eql rfl rfl rfl) <|
           rMv rfl <|
           rwp_nil <|
           awp_cond rfl (fun c11 => ?_) (fun c11 => ?_)
          ·try simp only [sx] at c11
           refine sReg rfl <|
            rwp_det rfl rfl (det_load_agg rfl agg63 rfl (ptr_row 2 rfl) rfl) <|
            rwp_det rfl rfl (det_load_agg rfl agg63 rfl (ptr_row 1 rfl) rfl) <|
            rwp_det rfl rfl (det_call rfl ok178 (ref01_Div a b) ⟨VLe.refl _, rfl, VLe.refl _, rfl, trivial⟩) <|
            rwp_det rfl rfl (det_ex_agg rfl rfl rfl) <|
            rwp_det rfl rfl (det_ex_c rfl rfl rfl) <|
            rwp_det0 rfl rfl (det_store rfl sz63 rfl rfl rfl (st_row 0 rfl rfl)) <|
            rMv rfl <|
            rwp_nil <|
            awp_ret <|
            fin2 (rs_cell_agg agg63 rfl (ptr_row 0 rfl) rfl) (rs_c rfl) ?_
           rw [apl5 c1 ht c3 hm, ari1 c6 c7]
           subst c11
           rw [frX_yes hfa (val_fr ht (hb (by decide))).2.2]; rfl
          ·try simp only [sx] at c11
           refine awp_skip <|
            sReg rfl <|
            rwp_det rfl rfl (det_load_agg rfl agg63 rfl (ptr_row 2 rfl) rfl) <|
            rwp_det rfl rfl (det_call rfl ok179 (ref01_Neg a hfa) ⟨VLe.refl _, rfl, trivial⟩) <|
            rwp_det0 rfl rfl (det_store rfl sz63 rfl rfl rfl (st_row 0 rfl rfl)) <|
            rMv rfl <|
            rwp_nil <|
            awp_ret <|
            fin2 (rs_cell_agg agg63 rfl (ptr_row 0 rfl) rfl) (rs_c rfl) ?_
           have ho : op = 8 := by omega
           rw [apl5 c1 ht c3 hm, ari1 c6 c7]
           subst ho
           rfl

theorem value_Cast (f t : Ty) (v : Vl) :
    Pur cfg 120 [vTy f, vTy t, vVal v] (.tup [vVal (cstV f t v).1, vI (cstV f t v).2]) := by
 refine con_intro Tryz.func120 rfl Tryz.ntmps120 Tryz.results120 rfl ?_
 intro z hz
 refine sReg rfl <|
  rwp_op rfl rfl (ope_box rfl rfl) ?_
 rintro _ _ ⟨b1, rfl, rfl⟩
 refine rwp_op rfl rfl (ope_box rfl rfl) ?_
 rintro _ _ ⟨b2, rfl, rfl⟩
 refine rwp_op rfl rfl (ope_box rfl rfl) ?_
 rintro _ _ ⟨b3, rfl, rfl⟩
 refine rwp_op rfl rfl (ope_alloc rfl zr63) ?_
 rintro _ _ ⟨b4, rfl, rfl⟩
 refine rMv rfl <|
  rwp_nil <|
  awp_seq <|
  awp_block <|
  sReg rfl <|
  rwp_det rfl rfl (det_load_agg rfl agg65 rfl (ptr_row 3 rfl) rfl) <|
  rwp_det rfl rfl (det_call rfl ok60 (value_ValidateType f) ⟨VLe.refl _, rfl, trivial⟩) <|
  rwp_det rfl rfl (det_neq rfl rfl rfl) <|
  rMv rfl <|
  rLz [] rfl gv1 trivial (fun g1_3 => det_load_agg rfl agg65 rfl (ptr_row 2 rfl) rfl) rfl <|
  rLz [(14, _)] rfl gv1 ⟨rfl, rfl, trivial⟩ (fun g1_3 => det_call rfl ok60 (value_ValidateType t) ⟨VLe.refl _, rfl, trivial⟩) rfl <|
  rLz [(15, _)] rfl gv1 ⟨rfl, rfl, trivial⟩ (fun g1_3 => det_neq rfl rfl rfl) rfl <|
  rwp_det rfl rfl (det_or rfl rfl rfl rfl (fun h => (lzf h))) <|
  rMv rfl <|
  rwp_nil <|
  awp_cond rfl (fun c1 => ?_) (fun c1 => ?_)
 ·have c1 : (!tyOk f || !tyOk t) = true := by rw [← err_ty]; exact c1
  refine sReg rfl <|
   rwp_det rfl rfl (det_build rfl zr63 pl63 rfl) <|
   rwp_det0 rfl rfl (det_store rfl sz63 rfl rfl rfl (st_row 0 rfl rfl)) <|
   rMv rfl <|
   rwp_nil <|
   awp_ret <|
   fin2 (rs_cell_agg agg63 rfl (ptr_row 0 rfl) rfl) (rs_c rfl) ?_
  rw [cst1 c1]; rfl
 ·have c1 : (!tyOk f || !tyOk t) = false := by rw [← err_ty]; exact c1
  have hf : tyOk f = true := by cases h : tyOk f; rw [h] at c1; cases c1; rfl
  have ht : tyOk t = true := by cases h : tyOk t; rw [h, hf] at c1; cases c1; rfl
  refine sReg rfl <|
   rwp_det rfl rfl (det_load_agg rfl agg65 rfl (ptr_row 3 rfl) rfl) <|
   rwp_det rfl rfl (det_load_agg rfl agg63 rfl (ptr_row 1 rfl) rfl) <|
   rwp_det rfl rfl (det_call rfl ok117 (value_Valid f v) ⟨VLe.refl _, rfl, VLe.refl _, rfl, trivial⟩) <|
   rwp_det rfl rfl (det_not rfl rfl) <|
   rMv rfl <|
   rwp_nil <|
   awp_cond rfl (fun c2 => ?_) (fun c2 => ?_)
  ·try simp only [sx] at c2
   have hv : valOk f v = false := by rw [hf] at c2; simpa using c2
   refine sReg rfl <|
    rwp_det rfl rfl (det_build rfl zr63 pl63 rfl) <|
    rwp_det0 rfl rfl (det_store rfl sz63 rfl rfl rfl (st_row 0 rfl rfl)) <|
    rMv rfl <|
    rwp_nil <|
    awp_ret <|
    fin2 (rs_cell_agg agg63 rfl (ptr_row 0 rfl) rfl) (rs_c rfl) ?_
   rw [cst2 c1 hv]; rfl
  ·try simp only [sx] at c2
   have hv : valOk f v = true := by rw [hf] at c2; simpa using c2
   have hfr := fracV_ok hf hv
   refine awp_skip <|
    sReg rfl <|
    rwp_det rfl rfl (det_load_agg rfl agg65 rfl (ptr_row 3 rfl) rfl) <|
    rwp_det rfl rfl (det_load_agg rfl agg63 rfl (ptr_row 1 rfl) rfl) <|
    rwp_det rfl rfl (det_call rfl ok169 (value_fraction f v hf hv) ⟨VLe.refl _, rfl, VLe.refl _, rfl, trivial⟩) <|
    rwp_op rfl rfl (ope_alloc rfl zr63) ?_
   rintro _ _ ⟨b5, rfl, rfl⟩
   refine rwp_det0 rfl rfl (det_store rfl sz63 rfl rfl rfl (st_row 0 rfl rfl)) <|
    rwp_nil <|
    awp_seq <|
    sReg rfl <|
    rwp_det rfl rfl (det_field_lit rfl fd65_0 rfl) <|
    rwp_det rfl rfl (det_load_one rfl one3 rfl (ptr_row 3 rfl) rfl) <|
    rwp_nil <|
    awp_block <|
    sReg rfl <|
    rwp_det rfl rfl (det_eql rfl rfl rfl) <|
    rMv rfl <|
    rwp_nil <|
    awp_cond rfl (fun c3 => ?_) (fun c3 => ?_)
   ·try simp only [sx] at c3
    refine sReg rfl <|
     rwp_det rfl rfl (det_load_agg rfl agg63 rfl (ptr_row 0 rfl) rfl) <|
     rwp_det rfl rfl (det_call rfl ok170 (frac_Floor (fracV f v) hfr) ⟨VLe.refl _, rfl, trivial⟩) <|
     rwp_det rfl rfl (det_build rfl zr63 pl63 rfl) <|
     rwp_det0 rfl rfl (det_store rfl sz63 rfl rfl rfl (st_row 1 rfl rfl)) <|
     rMv rfl <|
     rwp_nil <|
     awp_ret <|
     fin2 (rs_cell_agg agg63 rfl (ptr_row 1 rfl) rfl) (rs_c rfl) ?_
    rw [cst3 c1 hv c3]; rfl
   ·try simp only [sx] at c3
    refine sReg rfl <|
     rwp_det rfl rfl (det_eql rfl rfl rfl) <|
     rMv rfl <|
     rwp_nil <|
     awp_cond rfl (fun c4 => ?_) (fun c4 => ?_)
    ·try simp only [sx] at c4
     have hft : fixOk t = true := by rw [← fix_ty c4]; exact ht
     refine sReg rfl <|
      rwp_det rfl rfl (det_load_agg rfl agg65 rfl (ptr_row 3 rfl) rfl) <|
      rwp_det rfl rfl (det_load_agg rfl agg63 rfl (ptr_row 0 rfl) rfl) <|
      rwp_det rfl rfl (det_call rfl ok171 (fixed_FromFrac t (fracV f v) hft hfr) ⟨VLe.refl _, rfl, VLe.refl _, rfl, trivial⟩) <|
      rwp_det rfl rfl (det_ex_agg rfl rfl rfl) <|
      rwp_det rfl rfl (det_ex_c rfl rfl rfl) <|
      rwp_det0 rfl rfl (det_store rfl sz63 rfl rfl rfl (st_row 1 rfl rfl)) <|
      rMv rfl <|
      rwp_nil <|
      awp_ret <|
      fin2 (rs_cell_agg agg63 rfl (ptr_row 1 rfl) rfl) (rs_c rfl) ?_
     rw [cst4 c1 hv c3 c4]; rfl
    ·try simp only [sx] at c4
     refine awp_skip <|
      sReg rfl <|
      rwp_det rfl rfl (det_load_agg rfl agg63 rfl (ptr_row 0 rfl) rfl) <|
      rwp_det0 rfl rfl (det_store rfl sz63 rfl rfl rfl (st_row 1 rfl rfl)) <|
      rMv rfl <|
      rwp_nil <|
      awp_ret <|
      fin2 (rs_cell_agg agg63 rfl (ptr_row 1 rfl) rfl) (rs_c rfl) ?_
     rw [cst5 c1 hv c3 c4]; rfl

theorem ref04_Cast (f t : Ty) (v : Vl) :
    Pur cfg 125 [vTy f, vTy t, vVal v] (.tup [vVal (cstV f t v).1, vI (cstV f t v).2]) := by
 refine con_intro Tryz.func125 rfl Tryz.ntmps125 Tryz.results125 rfl ?_
 intro z hz
 refine sReg rfl <|
  rwp_op rfl rfl (ope_box rfl rfl) ?_
 rintro _ _ ⟨b1, rfl, rfl⟩
 refine rwp_op rfl rfl (ope_box rfl rfl) ?_
 rintro _ _ ⟨b2, rfl, rfl⟩
 refine rwp_op rfl rfl (ope_box rfl rfl) ?_
 rintro _ _ ⟨b3, rfl, rfl⟩
 refine rwp_op rfl rfl (ope_alloc rfl zr63) ?_
 rintro _ _ ⟨b4, rfl, rfl⟩
 refine rMv rfl <|
  rwp_nil <|
  awp_seq <|
  sReg rfl <|
  rwp_det rfl rfl (det_load_agg rfl agg65 rfl (ptr_row 3 rfl) rfl) <|
  rwp_det rfl rfl (det_call rfl ok63 (base_Type f) ⟨VLe.refl _, rfl, trivial⟩) <|
  rwp_det rfl rfl (det_not rfl rfl) <|
  rMv rfl <|
  rLz [] rfl gv1 trivial (fun g1_3 => det_load_agg rfl agg65 rfl (ptr_row 2 rfl) rfl) rfl <|
  rLz [(13, _)] rfl gv1 ⟨rfl, rfl, trivial⟩ (fun g1_3 => det_call rfl ok63 (base_Type t) ⟨VLe.refl _, rfl, trivial⟩) rfl <|
  rLz [(14, _)] rfl gv1 ⟨rfl, rfl, trivial⟩ (fun g1_3 => det_not rfl rfl) rfl <|
  rwp_det rfl rfl (det_or rfl rfl rfl rfl (fun h => (lzf h))) <|
  rwp_nil <|
  awp_cond rfl (fun c1 => ?_) (fun c1 => ?_)
 ·have c1 : (!tyOk f || !tyOk t) = true := c1
  refine sReg rfl <|
   rwp_det rfl rfl (det_build rfl zr63 pl63 rfl) <|
   rwp_det0 rfl rfl (det_store rfl sz63 rfl rfl rfl (st_row 0 rfl rfl)) <|
   rMv rfl <|
   rwp_nil <|
   awp_ret <|
   fin2 (rs_cell_agg agg63 rfl (ptr_row 0 rfl) rfl) (rs_c rfl) ?_
  rw [cst1 c1]; rfl
 ·have c1 : (!tyOk f || !tyOk t) = false := c1
  have hf : tyOk f = true := by cases h : tyOk f; rw [h] at c1; cases c1; rfl
  have ht : tyOk t = true := by cases h : tyOk t; rw [h, hf] at c1; cases c1; rfl
  refine awp_skip <|
   awp_seq <|
   sReg rfl <|
   rwp_det rfl rfl (det_load_agg rfl agg65 rfl (ptr_row 3 rfl) rfl) <|
   rwp_det rfl rfl (det_load_agg rfl agg63 rfl (ptr_row 1 rfl) rfl) <|
   rwp_det rfl rfl (det_call rfl ok161 (base_Val f v hf) ⟨VLe.refl _, rfl, VLe.refl _, rfl, trivial⟩) <|
   rwp_det rfl rfl (det_not rfl rfl) <|
   rwp_nil <|
   awp_cond rfl (fun c2 => ?_) (fun c2 => ?_)
  ·try simp only [sx] at c2
   have hv : valOk f v = false := by simpa using c2
   refine sReg rfl <|
    rwp_det rfl rfl (det_build rfl zr63 pl63 rfl) <|
    rwp_det0 rfl rfl (det_store rfl sz63 rfl rfl rfl (st_row 0 rfl rfl)) <|
    rMv rfl <|
    rwp_nil <|
    awp_ret <|
    fin2 (rs_cell_agg agg63 rfl (ptr_row 0 rfl) rfl) (rs_c rfl) ?_
   rw [cst2 c1 hv]; rfl
  ·try simp only [sx] at c2
   have hv : valOk f v = true := by simpa using c2
   have hfr := fracV_ok hf hv
   obtain ⟨a1, a2, a3, a4, _⟩ := frOk_in hfr
   refine awp_skip <|
    sReg rfl <|
    rwp_det rfl rfl (det_load_agg rfl agg65 rfl (ptr_row 3 rfl) rfl) <|
    rwp_det rfl rfl (det_load_agg rfl agg63 rfl (ptr_row 1 rfl) rfl) <|
    rwp_det rfl rfl (det_call rfl ok180 (ref04_Value f v hf hv) ⟨VLe.refl _, rfl, VLe.refl _, rfl, trivial⟩) <|
    rwp_op rfl rfl (ope_alloc rfl zr63) ?_
   rintro _ _ ⟨b5, rfl, rfl⟩
   refine rwp_det0 rfl rfl (det_store rfl sz63 rfl rfl rfl (st_row 0 rfl rfl)) <|
    rwp_nil <|
    awp_seq <|
    sReg rfl <|
    rwp_det rfl rfl (det_field_lit rfl fd65_0 rfl) <|
    rwp_det rfl rfl (det_load_one rfl one3 rfl (ptr_row 3 rfl) rfl) <|
    rwp_det rfl rfl (det_eql rfl rfl rfl) <|
    rwp_nil <|
    awp_cond rfl (fun c3 => ?_) (fun c3 => ?_)
   ·try simp only [sx] at c3
    refine sReg rfl <|
     rwp_det rfl rfl (det_field_lit rfl fd63_0 rfl) <|
     rwp_det rfl rfl (det_load_one rfl one2 rfl (ptr_row 0 rfl) rfl) <|
     rwp_det rfl rfl (det_field_lit rfl fd63_1 rfl) <|
     rwp_det rfl rfl (det_load_one rfl one2 rfl (ptr_row 0 rfl) rfl) <|
     rwp_det rfl rfl (det_call rfl ok181 (ref04_floor (fracV f v).N (fracV f v).D (by omega) (by omega) (by omega)) ⟨VLe.refl _, rfl, VLe.refl _, rfl, trivial⟩) <|
     rwp_det rfl rfl (det_build rfl zr63 pl63 rfl) <|
     rwp_det0 rfl rfl (det_store rfl sz63 rfl rfl rfl (st_row 1 rfl rfl)) <|
     rMv rfl <|
     rwp_nil <|
     awp_ret <|
     fin2 (rs_cell_agg agg63 rfl (ptr_row 1 rfl) rfl) (rs_c rfl) ?_
    rw [cst3 c1 hv c3]; rfl
   ·try simp only [sx] at c3
    refine awp_skip <|
     awp_seq <|
     sReg rfl <|
     rwp_det rfl rfl (det_field_lit rfl fd65_0 rfl) <|
     rwp_det rfl rfl (det_load_one rfl one3 rfl (ptr_row 3 rfl) rfl) <|
     rwp_det rfl rfl (det_eql rfl rfl rfl) <|
     rwp_nil <|
     awp_cond rfl (fun c4 => ?_) (fun c4 => ?_)
    ·try simp only [sx] at c4
     have hft : fixOk t = true := by rw [← fix_ty c4]; exact ht
     have hT := fxT hft
     have hT1 := hT.p1
     have hT2 := hT.p2
     have hm := m60 (B := 2147483647) (x := (fracV f v).N) (by omega) (show 0 ≤ pow2 t.Frac by omega) hT2
     have hr := rnd_b (n := (fracV f v).N * pow2 t.Frac) (how := t.Round) (show 0 < (fracV f v).D by omega)
     refine awp_seq <|
      awp_draw 12 mixed (by kernel_rfl) rfl rfl <|
      td_det rfl rfl (det_load_agg rfl agg65 rfl (ptr_row 3 rfl) rfl) <|
      td_det rfl rfl (det_field_lit rfl fd63_0 rfl) <|
      td_det rfl rfl (det_load_one rfl one2 rfl (ptr_row 0 rfl) rfl) <|
      td_det rfl rfl (det_load_agg rfl agg65 rfl (ptr_row 3 rfl) rfl) <|
      td_det rfl rfl (det_call rfl ok184 (ref04_step t hft) ⟨VLe.refl _, rfl, trivial⟩) <|
      td_det rfl rfl (det_mul_nw rfl rfl rfl ⟨by omega, by omega⟩) <|
      td_det rfl rfl (det_field_lit rfl fd63_1 rfl) <|
      td_det rfl rfl (det_load_one rfl one2 rfl (ptr_row 0 rfl) rfl) <|
      td_det rfl rfl (det_field_lit rfl fd65_3 rfl) <|
      td_det rfl rfl (det_load_one rfl one3 rfl (ptr_row 3 rfl) rfl) <|
      td_det rfl rfl (det_call rfl ok183 (ref04_round ((fracV f v).N * pow2 t.Frac) (fracV f v).D t.Round (by omega) (by omega) (by omega)) ⟨VLe.refl _, rfl, VLe.refl _, rfl, VLe.refl _, rfl, trivial⟩) <|
      td_det rfl rfl (det_call rfl ok182 (ref04_fit t (rnd ((fracV f v).N * pow2 t.Frac) (fracV f v).D t.Round) hft (by omega)) ⟨VLe.refl _, rfl, VLe.refl _, rfl, trivial⟩) <|
      td_nil <|
      rwp_det0 rfl rfl (det_store rfl sz63 rfl rfl rfl (st_row 1 rfl rfl)) <|
      rMv rfl <|
      rwp_nil <|
      awp_ret <|
      fin2 (rs_cell_agg agg63 rfl (ptr_row 1 rfl) rfl) (rs_c rfl) ?_
     rw [cst4 c1 hv c3 c4]; rfl
    ·try simp only [sx] at c4
     refine awp_skip <|
      sReg rfl <|
      rwp_det rfl rfl (det_load_agg rfl agg63 rfl (ptr_row 0 rfl) rfl) <|
      rwp_det0 rfl rfl (det_store rfl sz63 rfl rfl rfl (st_row 1 rfl rfl)) <|
      rMv rfl <|
      rwp_nil <|
      awp_ret <|
      fin2 (rs_cell_agg agg63 rfl (ptr_row 1 rfl) rfl) (rs_c rfl) ?_
     rw [cst5 c1 hv c3 c4]; rfl

end Go.W
