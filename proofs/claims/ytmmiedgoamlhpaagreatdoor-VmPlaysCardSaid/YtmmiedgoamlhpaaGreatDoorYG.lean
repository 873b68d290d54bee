/-
  Walks: what functions of the program compute. Printed by wip/gen/mk2.py.
  Conditions: none.
-/
import Derived.Test.YtmmiedgoamlhpaaGreatDoorYF
set_option linter.unusedSimpArgs false
set_option linter.unusedVariables false
set_option maxRecDepth 10000
namespace Go.W
open Go Go.Eng Go.Proofs Go.L41 Go.Br
attribute [local irreducible] AWP RWP TD finQ
theorem el35 : elemT Tryz.prog 35 = some (2, 1, 8) := by kernel_rfl
theorem ik3 : intT Tryz.prog 3 = some .i64 := by kernel_rfl
theorem ok31 : callOk Tryz.prog 31 = true := by kernel_rfl
theorem ok58 : callOk Tryz.prog 58 = true := by kernel_rfl
theorem ok62 : callOk Tryz.prog 62 = true := by kernel_rfl
theorem ok66 : callOk Tryz.prog 66 = true := by kernel_rfl
theorem ok67 : callOk Tryz.prog 67 = true := by kernel_rfl
theorem ok111 : callOk Tryz.prog 111 = true := by kernel_rfl
theorem us145 : (Tryz.prog.underlying 145).isSome = true := by kernel_rfl
theorem zr2 : zeroT Tryz.prog 2 = some [(Value.int IntKind.i64 0)] := by kernel_rfl
theorem slices_Clone_in (l : List In) (hl : l.length ≤ 1048576) :
    OwnR cfg 23 [vIns l] 67 11 (l.map (In.cells)) := by
 refine con_intro Tryz.func23 rfl Tryz.ntmps23 Tryz.results23 rfl ?_
 intro z hz
 refine sReg rfl <|
  rwp_det rfl rfl (det_assignN 11 rfl rfl) <|
  rwp_nil <|
  awp_seq <|
  sReg rfl <|
  rMv rfl <|
  rwp_op rfl rfl (ope_nileq rfl el22 rfl rfl) ?_
 rintro _ _ ⟨nb1, rfl, hnil1, rfl⟩
 refine rwp_nil <|
  awp_cond rfl (fun c1 => ?_) (fun c1 => ?_)
 ·try simp only [sx] at c1
  refine sReg rfl <|
   rMv rfl <|
   rwp_weak _ (weak_own 67 11) <|
   rwp_nil <|
   awp_ret <|
   fin1 (rs_c rfl) ?_
  exact ⟨_, rfl, by rw [hnil1 c1]⟩
 ·try simp only [sx] at c1
  refine awp_skip <|
   sReg rfl <|
   rwp_op rfl rfl (ope_bslice rfl el22 zr67 rfl rfl rfl rfl) ?_
  rintro _ _ ⟨sv3, rfl, rfl⟩
  refine rMv rfl <|
   rwp_op rfl rfl (ope_append 0 rfl el22 rfl rfl rfl (by simp only [List.length_map, List.length_nil, Nat.zero_add]; omega) (by simp only [List.length_map, List.length_nil, Nat.zero_add]; omega)) ?_
  rintro _ _ ⟨sv4, rfl, rfl⟩
  refine rMv rfl <|
   rwp_nil <|
   awp_ret <|
   fin1 (rs_c rfl) ?_
  exact ⟨_, rfl, rfl⟩

theorem slices_Clone_ty (l : List Ty) (hl : l.length ≤ 1048576) :
    OwnR cfg 24 [vTys l] 65 5 (l.map (Ty.cells)) := by
 refine con_intro Tryz.func24 rfl Tryz.ntmps24 Tryz.results24 rfl ?_
 intro z hz
 refine sReg rfl <|
  rwp_det rfl rfl (det_assignN 5 rfl rfl) <|
  rwp_nil <|
  awp_seq <|
  sReg rfl <|
  rMv rfl <|
  rwp_op rfl rfl (ope_nileq rfl el23 rfl rfl) ?_
 rintro _ _ ⟨nb1, rfl, hnil1, rfl⟩
 refine rwp_nil <|
  awp_cond rfl (fun c1 => ?_) (fun c1 => ?_)
 ·try simp only [sx] at c1
  refine sReg rfl <|
   rMv rfl <|
   rwp_weak _ (weak_own 65 5) <|
   rwp_nil <|
   awp_ret <|
   fin1 (rs_c rfl) ?_
  exact ⟨_, rfl, by rw [hnil1 c1]⟩
 ·try simp only [sx] at c1
  refine awp_skip <|
   sReg rfl <|
   rwp_op rfl rfl (ope_bslice rfl el23 zr65 rfl rfl rfl rfl) ?_
  rintro _ _ ⟨sv3, rfl, rfl⟩
  refine rMv rfl <|
   rwp_op rfl rfl (ope_append 0 rfl el23 rfl rfl rfl (by simp only [List.length_map, List.length_nil, Nat.zero_add]; omega) (by simp only [List.length_map, List.length_nil, Nat.zero_add]; omega)) ?_
  rintro _ _ ⟨sv4, rfl, rfl⟩
  refine rMv rfl <|
   rwp_nil <|
   awp_ret <|
   fin1 (rs_c rfl) ?_
  exact ⟨_, rfl, rfl⟩

theorem slices_Clone_val (l : List Vl) (hl : l.length ≤ 1048576) :
    OwnR cfg 67 [vVals l] 63 2 (l.map (Vl.cells)) := by
 refine con_intro Tryz.func67 rfl Tryz.ntmps67 Tryz.results67 rfl ?_
 intro z hz
 refine sReg rfl <|
  rwp_det rfl rfl (det_assignN 2 rfl rfl) <|
  rwp_nil <|
  awp_seq <|
  sReg rfl <|
  rMv rfl <|
  rwp_op rfl rfl (ope_nileq rfl el36 rfl rfl) ?_
 rintro _ _ ⟨nb1, rfl, hnil1, rfl⟩
 refine rwp_nil <|
  awp_cond rfl (fun c1 => ?_) (fun c1 => ?_)
 ·try simp only [sx] at c1
  refine sReg rfl <|
   rMv rfl <|
   rwp_weak _ (weak_own 63 2) <|
   rwp_nil <|
   awp_ret <|
   fin1 (rs_c rfl) ?_
  exact ⟨_, rfl, by rw [hnil1 c1]⟩
 ·try simp only [sx] at c1
  refine awp_skip <|
   sReg rfl <|
   rwp_op rfl rfl (ope_bslice rfl el36 zr63 rfl rfl rfl rfl) ?_
  rintro _ _ ⟨sv3, rfl, rfl⟩
  refine rMv rfl <|
   rwp_op rfl rfl (ope_append 0 rfl el36 rfl rfl rfl (by simp only [List.length_map, List.length_nil, Nat.zero_add]; omega) (by simp only [List.length_map, List.length_nil, Nat.zero_add]; omega)) ?_
  rintro _ _ ⟨sv4, rfl, rfl⟩
  refine rMv rfl <|
   rwp_nil <|
   awp_ret <|
   fin1 (rs_c rfl) ?_
  exact ⟨_, rfl, rfl⟩

theorem slices_Clone_i64 (l : List Int) (hl : l.length ≤ 1048576) :
    OwnR cfg 58 [vIs l] 2 1 (l.map (fun n => [cI n])) := by
 refine con_intro Tryz.func58 rfl Tryz.ntmps58 Tryz.results58 rfl ?_
 intro z hz
 refine sReg rfl <|
  rwp_det rfl rfl (det_assignN 1 rfl rfl) <|
  rwp_nil <|
  awp_seq <|
  sReg rfl <|
  rMv rfl <|
  rwp_op rfl rfl (ope_nileq rfl el35 rfl rfl) ?_
 rintro _ _ ⟨nb1, rfl, hnil1, rfl⟩
 refine rwp_nil <|
  awp_cond rfl (fun c1 => ?_) (fun c1 => ?_)
 ·try simp only [sx] at c1
  refine sReg rfl <|
   rMv rfl <|
   rwp_weak _ (weak_own 2 1) <|
   rwp_nil <|
   awp_ret <|
   fin1 (rs_c rfl) ?_
  exact ⟨_, rfl, by rw [hnil1 c1]⟩
 ·try simp only [sx] at c1
  refine awp_skip <|
   sReg rfl <|
   rwp_op rfl rfl (ope_bslice rfl el35 zr2 rfl rfl rfl rfl) ?_
  rintro _ _ ⟨sv3, rfl, rfl⟩
  refine rMv rfl <|
   rwp_op rfl rfl (ope_append 0 rfl el35 rfl rfl rfl (by simp only [List.length_map, List.length_nil, Nat.zero_add]; omega) (by simp only [List.length_map, List.length_nil, Nat.zero_add]; omega)) ?_
  rintro _ _ ⟨sv4, rfl, rfl⟩
  refine rMv rfl <|
   rwp_nil <|
   awp_ret <|
   fin1 (rs_c rfl) ?_
  exact ⟨_, rfl, rfl⟩

theorem bits_Mul64 (a b : Nat) (ha : a < 18446744073709551616) (hb : b < 18446744073709551616) :
    Pur cfg 111 [vUn a, vUn b] (.tup [vUn (hiN a b), vUn (a * b % 18446744073709551616)]) := by
 refine con_intro Tryz.func111 rfl Tryz.ntmps111 Tryz.results111 rfl ?_
 intro z hz
 obtain ⟨p1, p2, p3, p4⟩ := part_le ha hb
 obtain ⟨q1, q2, q3, q4⟩ := hi_bounds ha hb
 refine sReg rfl <|
  rMv rfl <|
  rMv rfl <|
  rwp_nil <|
  sReg rfl <|
  rMv rfl <|
  rwp_det rfl rfl (det_uand rfl rfl rfl ha) <|
  rMv rfl <|
  rwp_nil <|
  sReg rfl <|
  rMv rfl <|
  rwp_det rfl rfl (det_ushr rfl rfl rfl ) <|
  rMv rfl <|
  rwp_nil <|
  sReg rfl <|
  rMv rfl <|
  rwp_det rfl rfl (det_uand rfl rfl rfl hb) <|
  rMv rfl <|
  rwp_nil <|
  sReg rfl <|
  rMv rfl <|
  rwp_det rfl rfl (det_ushr rfl rfl rfl ) <|
  rMv rfl <|
  rwp_nil <|
  sReg rfl <|
  rMv rfl <|
  rMv rfl <|
  rwp_det rfl rfl (det_umul rfl rfl rfl (by omega)) <|
  rMv rfl <|
  rwp_nil <|
  sReg rfl <|
  rMv rfl <|
  rMv rfl <|
  rwp_det rfl rfl (det_umul rfl rfl rfl (by omega)) <|
  rMv rfl <|
  rwp_det rfl rfl (det_ushr rfl rfl rfl ) <|
  rwp_det rfl rfl (det_uadd rfl rfl rfl q1) <|
  rMv rfl <|
  rwp_nil <|
  sReg rfl <|
  rMv rfl <|
  rwp_det rfl rfl (det_uand rfl rfl rfl q1) <|
  rMv rfl <|
  rwp_nil <|
  sReg rfl <|
  rMv rfl <|
  rwp_det rfl rfl (det_ushr rfl rfl rfl ) <|
  rMv rfl <|
  rwp_nil <|
  sReg rfl <|
  rMv rfl <|
  rMv rfl <|
  rMv rfl <|
  rwp_det rfl rfl (det_umul rfl rfl rfl (by omega)) <|
  rwp_det rfl rfl (det_uadd rfl rfl rfl (by rw [Nat.add_comm]; exact q2)) <|
  rMv rfl <|
  rwp_nil <|
  sReg rfl <|
  rMv rfl <|
  rMv rfl <|
  rwp_det rfl rfl (det_umul rfl rfl rfl (by omega)) ?_
 refine rMv rfl <|
  rwp_det rfl rfl (det_uadd rfl rfl rfl q3) <|
  rMv rfl <|
  rwp_det rfl rfl (det_ushr rfl rfl rfl ) <|
  rwp_det rfl rfl (det_uadd rfl rfl rfl (by rw [Nat.add_comm (_ % 4294967296)]; exact q4)) <|
  rMv rfl <|
  rwp_nil <|
  sReg rfl <|
  rMv rfl <|
  rMv rfl <|
  rwp_det rfl rfl (det_umod rfl rfl rfl ) <|
  rMv rfl <|
  rwp_nil <|
  awp_ret <|
  fin2 (rs_c rfl) (rs_c rfl) ?_
 rw [Nat.add_comm (_ % 4294967296)]; rfl

theorem bits_Mul (a b : Nat) (ha : a * b < 18446744073709551616) (h1 : a < 18446744073709551616) (h2 : b < 18446744073709551616) :
    Pur cfg 62 [vUn a, vUn b] (.tup [vUn 0, vUn (a * b)]) := by
 refine con_intro Tryz.func62 rfl Tryz.ntmps62 Tryz.results62 rfl ?_
 intro z hz
 refine sReg rfl <|
  rMv rfl <|
  rMv rfl <|
  rwp_nil <|
  awp_seq <|
  awp_cond rfl (fun c1 => ?_) (fun c1 => ?_)
 ·exact absurd c1 (by decide)
 ·refine awp_skip <|
   sReg rfl <|
   rMv rfl <|
   rMv rfl <|
   rwp_det rfl rfl (det_call rfl ok111 (bits_Mul64 a b h1 h2) ⟨VLe.refl _, rfl, VLe.refl _, rfl, trivial⟩) <|
   rwp_det rfl rfl (det_move_tup rfl rfl) <|
   rwp_det rfl rfl (det_ex_c rfl rfl rfl) <|
   rwp_det rfl rfl (det_ex_c rfl rfl rfl) <|
   rMv rfl <|
   rMv rfl <|
   rwp_nil <|
   sReg rfl <|
   rMv rfl <|
   rMv rfl <|
   rMv rfl <|
   rMv rfl <|
   rwp_nil <|
   awp_ret <|
   fin2 (rs_c rfl) (rs_c rfl) ?_
  rw [hi_zero.2 ha, Nat.mod_eq_of_lt ha]

theorem vm_zero  :
    Pur cfg 26 [] (vVal ⟨0, 1⟩) := by
 refine con_intro Tryz.func26 rfl Tryz.ntmps26 Tryz.results26 rfl ?_
 intro z hz
 refine sReg rfl <|
  rwp_op rfl rfl (ope_alloc rfl zr63) ?_
 rintro _ _ ⟨b1, rfl, rfl⟩
 refine rwp_nil <|
  sReg rfl <|
  rwp_det rfl rfl (det_build rfl zr63 pl63 rfl) <|
  rwp_det0 rfl rfl (det_store rfl sz63 rfl rfl rfl (st_row 0 rfl rfl)) <|
  rwp_nil <|
  awp_ret <|
  fin1 (rs_cell_agg agg63 rfl (ptr_row 0 rfl) rfl) ?_
 exact rfl

theorem slices_Repeat_val (v : Vl) (n : Nat) (hn : n ≤ 1048576) :
    OwnR cfg 25 [vVals [v], vI n] 63 2 ((List.replicate n v).map Vl.cells) := by
 refine con_intro Tryz.func25 rfl Tryz.ntmps25 Tryz.results25 rfl ?_
 intro z hz
 refine sReg rfl <|
  rwp_det rfl rfl (det_assignN 2 rfl rfl) <|
  rwp_nil <|
  awp_seq <|
  sReg rfl <|
  rMv rfl <|
  rwp_det rfl rfl (det_lss rfl rfl rfl) <|
  rwp_nil <|
  awp_cond rfl (fun c1 => ?_) (fun c1 => ?_)
 ·try simp only [sx] at c1
  exact absurd c1 (by omega)
 ·try simp only [sx] at c1
  refine awp_skip <|
   sReg rfl <|
   rMv rfl <|
   rwp_det rfl rfl (det_len_slm rfl el36 rfl) <|
   rwp_det rfl rfl (det_convE rfl us3 ik145 rfl (show _ = ((1 : Nat) : Int) from rfl)) <|
   rMv rfl <|
   rwp_det rfl rfl (det_convE rfl us3 ik145 rfl (show _ = ((n : Nat) : Int) from wrap_u64 ⟨by omega, by omega⟩)) <|
   rwp_det rfl rfl (det_call rfl ok62 (bits_Mul 1 n (by omega) (by decide) (by omega)) ⟨VLe.refl _, rfl, VLe.refl _, rfl, trivial⟩) <|
   rwp_det rfl rfl (det_move_tup rfl rfl) <|
   rwp_det rfl rfl (det_ex_c rfl rfl rfl) <|
   rwp_det rfl rfl (det_ex_c rfl rfl rfl) <|
   rMv rfl <|
   rMv rfl <|
   rwp_nil <|
   awp_seq <|
   sReg rfl <|
   rMv rfl <|
   rwp_det rfl rfl (det_gtr rfl rfl rfl) <|
   rMv rfl <|
   rLz [] rfl gv1 trivial (fun g4_2 => det_move rfl rfl) rfl <|
   rLz [(24, _)] rfl gv1 ⟨rfl, rfl, trivial⟩ (fun g4_2 => det_gtr rfl rfl rfl) rfl <|
   rwp_det rfl rfl (det_or rfl rfl rfl rfl (fun h => (lzf h))) <|
   rwp_nil <|
   awp_cond rfl (fun c2 => ?_) (fun c2 => ?_)
  ·have c2 : (decide ((0 : Int) < ((0 : Nat) : Int)) || decide ((9223372036854775807 : Int) < ((1 * n : Nat) : Int))) = true := c2
   exact absurd c2 (by simp; omega)
  ·refine awp_skip <|
    sReg rfl <|
    rMv rfl <|
    rwp_det rfl rfl (det_convE rfl us145 ik3 rfl (show _ = ((n : Nat) : Int) from by rw [Nat.one_mul]; exact wrap_in ⟨by omega, by omega⟩)) <|
    rwp_op rfl rfl (ope_make n rfl el36 zr63 rfl rfl rfl rfl (by omega) (by omega)) ?_
   rintro _ _ ⟨sv1, rfl, rfl⟩
   refine rMv rfl <|
    rwp_nil <|
    sReg rfl <|
    rMv rfl <|
    rMv rfl <|
    rwp_det rfl rfl (det_copy 0 rfl el36 rfl (isCut_self (m := n) (by rw [List.length_replicate])) rfl rfl (by rw [List.length_replicate]; omega)) <|
    rMv rfl <|
    rwp_nil <|
    awp_seq <|
    awp_block <|
    awp_weak ⟨[(8, .c _), (7, .c _)], [_]⟩ (Weak.mk [true] ⟨VLe.of_eq rfl, VLe.of_eq rfl, trivial⟩ rfl) <|
    awp_loop_k 1 1 rfl rfl (Nat) (fun j => [(8, vI j)]) (fun j => [E.vec sv1 63 2 ((List.replicate j v).map Vl.cells ++ List.replicate (n - j) [cI 0, cI 0])]) (fun j => j ≤ n ∧ (j < n → 1 ≤ j)) (fun j => n - j) ⟨(min 1 n), ⟨by omega, fun h => by omega⟩, Weak.mk [true] ⟨VLe.of_eq (by rfl), VLe.refl _, trivial⟩ (by exact mem1_eq (rep_init _))⟩ ?_
   rintro j hj
   refine awp_seq <|
    sReg rfl <|
    rMv rfl <|
    rMv rfl <|
    rwp_det rfl rfl (det_len_vec 0 rfl el36 rfl rfl) <|
    rwp_det rfl rfl (det_lss rfl rfl rfl) <|
    rwp_nil <|
    awp_cond rfl (fun c3 => ?_) (fun c3 => ?_)
   ·try simp only [sx] at c3
    have c3 : j < n := by simp only [List.length_append, List.length_map, List.length_replicate] at c3; omega
    have hj1 := hj.2 c3
    refine awp_skip <|
     awp_block <|
     awp_draw_c 8 0 [⟨0, .q []⟩, ⟨1, .q []⟩, ⟨2, .q []⟩, ⟨3, .q [0]⟩, ⟨4, .q []⟩, ⟨5, .q []⟩, ⟨6, .q [0]⟩, ⟨7, .e 0 []⟩] mixed (by kernel_rfl) (by kernel_rfl) rfl rfl rfl <|
     fx_skip rfl <|
     fx_skip rfl <|
     fx_skip rfl <|
     fx_skip rfl <|
     fx_skip rfl <|
     fx_skip rfl <|
     fx_skip rfl <|
     fx_skip rfl <|
     fx_nil <|
     sq_det rfl (by decide) rfl rfl (det_move rfl rfl) <|
     sq_det rfl (by decide) rfl rfl (det_move rfl rfl) <|
     sq_det rfl (by decide) rfl rfl (det_move rfl rfl) <|
     sq_det rfl (by decide) rfl rfl (det_cutg (k := j) (m := (n - j)) 0 rfl el36 rfl rfl ⟨.i64, _, rfl, rfl⟩ (by show j + (n - j) = _; rw [List.length_append, List.length_map, List.length_replicate, List.length_replicate]) (by rw [List.length_append, List.length_map, List.length_replicate, List.length_replicate]; omega)) <|
     sq_det rfl (by decide) rfl rfl (det_move rfl rfl) <|
     sq_det rfl (by decide) rfl rfl (det_move rfl rfl) <|
     sq_det rfl (by decide) rfl rfl (det_cutg (k := 0) (m := j) 0 rfl el36 rfl rfl rfl ⟨.i64, _, rfl, by omega⟩ (by rw [List.length_append, List.length_map, List.length_replicate, List.length_replicate]; omega)) <|
     sq_op rfl rfl (by decide) rfl rfl (det_copy_in 0 rfl el36 rfl isCut_gh rfl rfl isCut_gh (by rw [List.length_append, List.length_map, List.length_replicate, List.length_replicate]; omega) (by rw [List.length_append, List.length_map, List.length_replicate, List.length_replicate]; omega) (by omega) (by omega) (k := j) (m := n - j) (l := j) (rows := (List.replicate j v).map Vl.cells ++ List.replicate (n - j) [cI 0, cI 0])) ?_
    rintro _ _ ⟨rfl, rfl⟩
    refine ⟨_, rfl, ?_⟩
    refine sq_nil rfl <|
     rwp_det rfl rfl (det_add_nw rfl rfl rfl ⟨by omega, by omega⟩) <|
     rMv rfl <|
     rwp_nil ?_
    refine ⟨j + min j (n - j), ⟨by omega, fun h => by omega⟩, (by omega), Weak.mk [true] ⟨VLe.of_eq (by rfl), VLe.refl _, trivial⟩ (by exact mem1_eq (rep_rows hj1 hj.1 _))⟩
   ·try simp only [sx] at c3
    have hjn : j = n := by simp only [List.length_append, List.length_map, List.length_replicate] at c3; omega
    subst hjn
    refine awp_exit <|
     sReg rfl <|
     rMv rfl <|
     rMv rfl <|
     rwp_nil <|
     awp_ret <|
     fin1 (rs_c rfl) ?_
    exact ⟨_, rfl, by show [E.vec sv1 _ 2 ((List.replicate j v).map Vl.cells ++ List.replicate (j - j) _)] = _; rw [Nat.sub_self, List.replicate_zero, List.append_nil]⟩

theorem vm_Load0 (b : Nat) (sv : Value) (s : Mc) (w : Int) (hs : s.Ok w) (a m : Int) :
    Con cfg 29 [vPt b, vI a, vI m] (mcE b sv s) fun r μ' => r = .tup [vVals (loaM s a m).1, vI (loaM s a m).2] ∧ ∃ ν, μ' = ν ++ mcE b sv s := by
 refine con_intro Tryz.func29 rfl Tryz.ntmps29 Tryz.results29 rfl ?_
 intro z hz
 refine sReg rfl <|
  rwp_det rfl rfl (det_assignN 2 rfl rfl) <|
  rMv rfl <|
  rwp_nil <|
  awp_seq <|
  sReg rfl <|
  rMv rfl <|
  rwp_det rfl rfl (det_call_same [0, 0] rfl ok57 (vm_ready b sv s w hs) ⟨VLe.refl _, rfl, trivial⟩ rfl) <|
  rwp_det rfl rfl (det_not rfl rfl) <|
  rwp_nil <|
  awp_cond rfl (fun c1 => ?_) (fun c1 => ?_)
 ·try simp only [sx] at c1
  exact absurd c1 (by simp)
 ·try simp only [sx] at c1
  refine awp_skip <|
   awp_seq <|
   sReg rfl <|
   rMv rfl <|
   rMv rfl <|
   rMv rfl <|
   rwp_det rfl rfl (det_call_same [0, 0] rfl ok66 (vm_holds b sv s w hs a m (by have := hs.hM; have := hs.hw; omega)) ⟨VLe.refl _, rfl, VLe.refl _, rfl, VLe.refl _, rfl, trivial⟩ rfl) <|
   rwp_det rfl rfl (det_not rfl rfl) <|
   rwp_nil <|
   awp_cond rfl (fun c2 => ?_) (fun c2 => ?_)
  ·try simp only [sx] at c2
   have hh : hold s a m = false := by simpa using c2
   refine sReg rfl <|
    rwp_det rfl rfl (det_assignN 2 rfl rfl) <|
    rMv rfl <|
    rwp_nil <|
    awp_ret <|
    fin2 (rs_c rfl) (rs_c rfl) ?_
   rw [loa_no hh]
   exact ⟨rfl, [], rfl⟩
  ·try simp only [sx] at c2
   have hh : hold s a m = true := by simpa using c2
   have hb := hold_in hh
   have hml := hs.hM
   have hmw := hs.hw
   refine awp_skip <|
    sReg rfl <|
    rMv rfl <|
    rwp_det rfl rfl (det_nilcheck_ptr rfl rfl) <|
    rwp_det rfl rfl (det_field_lit rfl fd80_3 rfl) <|
    rwp_det rfl rfl (det_load_one rfl one36 rfl (ptr_row 0 rfl) rfl) <|
    rMv rfl <|
    rMv rfl <|
    rMv rfl <|
    rwp_det rfl rfl (det_add_nw rfl rfl rfl ⟨by omega, by omega⟩) <|
    rwp_det rfl rfl (det_cutg (k := a.toNat) (m := m.toNat) 1 rfl el36 rfl rfl ⟨.i64, _, rfl, by omega⟩ ⟨.i64, _, rfl, by omega⟩ (by rw [List.length_map]; omega)) <|
    rwp_op rfl rfl (ope_call_lendO 1 [.c (.gh (CutOf sv 2 a.toNat m.toNat))] rfl ok67 rfl (.inr ⟨_, _, _, _, rfl⟩) (slices_Clone_val ((s.M.drop a.toNat).take m.toNat) (by rw [List.length_take]; have := hs.hM; have := hs.hw; omega)) (vals_lit _) ⟨.inl ⟨_, _, rfl, rfl, (by rw [List.map_take, List.map_drop]; exact lend_cut (by rw [List.length_map]; omega))⟩, trivial⟩ ⟨VLe.refl _, rfl, trivial⟩) ?_
   rintro _ _ ⟨sv1, rfl, rfl⟩
   refine rwp_weak _ (weak_freezeM 0 rfl (regs' := [(25, _)]) (μ' := [_, _]) ⟨FLe.sl, trivial⟩ ⟨EFle.refl _, EFle.refl _, trivial⟩) <|
    rMv rfl <|
    rMv rfl <|
    rwp_nil <|
    awp_ret <|
    fin2 (rs_c rfl) (rs_c rfl) ?_
   rw [loa_yes hh]
   exact ⟨rfl, [], rfl⟩

theorem vm_Load (b : Nat) (sv : Value) (s : Mc) (w : Int) (hs : s.Ok w) (a m : Int) : Con cfg 29 [vPt b, vI a, vI m] (mcE b sv s) fun r μ' => r = .tup [vVals (loaM s a m).1, vI (loaM s a m).2] ∧ μ' = mcE b sv s := Con.drop (vm_Load0 b sv s w hs a m)
theorem vm_Store0 (b : Nat) (sv : Value) (s : Mc) (w : Int) (hs : s.Ok w) (a : Int) (v : List Vl) (hv : v.length ≤ 1048576) :
    Con cfg 32 [vPt b, vI a, vVals v] (mcE b sv s) fun r μ' => r = vI (stoM s a v).2 ∧ ∃ ν, μ' = ν ++ mcE b sv (stoM s a v).1 := by
 refine con_intro Tryz.func32 rfl Tryz.ntmps32 Tryz.results32 rfl ?_
 intro z hz
 refine sReg rfl <|
  rMv rfl <|
  rwp_nil <|
  awp_seq <|
  sReg rfl <|
  rMv rfl <|
  rwp_det rfl rfl (det_call_same [0, 0] rfl ok57 (vm_ready b sv s w hs) ⟨VLe.refl _, rfl, trivial⟩ rfl) <|
  rwp_det rfl rfl (det_not rfl rfl) <|
  rwp_nil <|
  awp_cond rfl (fun c1 => ?_) (fun c1 => ?_)
 ·try simp only [sx] at c1
  exact absurd c1 (by simp)
 ·try simp only [sx] at c1
  refine awp_skip <|
   awp_seq <|
   sReg rfl <|
   rMv rfl <|
   rMv rfl <|
   rMv rfl <|
   rwp_det rfl rfl (det_len_slm rfl el36 rfl) <|
   rwp_det rfl rfl (det_call_same [0, 0] rfl ok66 (vm_holds b sv s w hs a v.length (by have := hs.hM; have := hs.hw; omega)) ⟨VLe.refl _, rfl, VLe.refl _, rfl, VLe.refl _, rfl, trivial⟩ rfl) <|
   rwp_det rfl rfl (det_not rfl rfl) <|
   rwp_nil <|
   awp_cond rfl (fun c2 => ?_) (fun c2 => ?_)
  ·try simp only [sx] at c2
   have hh : hold s a v.length = false := by simpa using c2
   refine sReg rfl <|
    rMv rfl <|
    rwp_nil <|
    awp_ret <|
    fin1 (rs_c rfl) ?_
   rw [sto_no hh]
   exact ⟨rfl, [], rfl⟩
  ·try simp only [sx] at c2
   have hh : hold s a v.length = true := by simpa using c2
   have hb := hold_in hh
   refine awp_skip <|
    sReg rfl <|
    rMv rfl <|
    rwp_det rfl rfl (det_nilcheck_ptr rfl rfl) <|
    rwp_det rfl rfl (det_field_lit rfl fd80_3 rfl) <|
    rwp_det rfl rfl (det_load_one rfl one36 rfl (ptr_row 0 rfl) rfl) <|
    rMv rfl <|
    rwp_det rfl rfl (det_cutg (k := a.toNat) (m := (s.M.length - a.toNat)) 1 rfl el36 rfl rfl ⟨.i64, _, rfl, by omega⟩ (by show _ = _; rw [List.length_map]; omega) (by rw [List.length_map]; omega)) <|
    rMv rfl <|
    rwp_det rfl rfl (det_copy 1 rfl el36 rfl isCut_gh rfl rfl (by rw [List.length_map]; omega)) <|
    rwp_nil <|
    sReg rfl <|
    rMv rfl <|
    rwp_nil <|
    awp_ret <|
    fin1 (rs_c rfl) ?_
   rw [sto_yes hh]
   exact ⟨rfl, [], by show [E.row b _ (mcC sv s), E.vec sv _ 2 _] = [E.row b _ (mcC sv s), E.vec sv _ 2 ((s.M.take a.toNat ++ v ++ s.M.drop (a.toNat + v.length)).map Vl.cells)]; rw [← sto_rows hh]⟩

theorem vm_Store (b : Nat) (sv : Value) (s : Mc) (w : Int) (hs : s.Ok w) (a : Int) (v : List Vl) (hv : v.length ≤ 1048576) : Con cfg 32 [vPt b, vI a, vVals v] (mcE b sv s) fun r μ' => r = vI (stoM s a v).2 ∧ μ' = mcE b sv (stoM s a v).1 := Con.drop (vm_Store0 b sv s w hs a v hv)
theorem vm_IntRegisters0 (b : Nat) (sv : Value) (s : Mc) (w : Int) (hs : s.Ok w)  :
    Con cfg 20 [vPt b] (mcE b sv s) fun r μ' => r = vIs s.X ∧ ∃ ν, μ' = ν ++ mcE b sv s := by
 refine con_intro Tryz.func20 rfl Tryz.ntmps20 Tryz.results20 rfl ?_
 intro z hz
 refine sReg rfl <|
  rwp_det rfl rfl (det_assignN 1 rfl rfl) <|
  rwp_nil <|
  awp_seq <|
  sReg rfl <|
  rMv rfl <|
  rwp_det rfl rfl (det_call_same [0, 0] rfl ok57 (vm_ready b sv s w hs) ⟨VLe.refl _, rfl, trivial⟩ rfl) <|
  rwp_det rfl rfl (det_not rfl rfl) <|
  rwp_nil <|
  awp_cond rfl (fun c1 => ?_) (fun c1 => ?_)
 ·try simp only [sx] at c1
  exact absurd c1 (by simp)
 ·try simp only [sx] at c1
  refine awp_skip <|
   sReg rfl <|
   rMv rfl <|
   rwp_det rfl rfl (det_nilcheck_ptr rfl rfl) <|
   rwp_det rfl rfl (det_field_lit rfl fd80_4 rfl) <|
   rwp_det rfl rfl (det_cut_arrp rfl ar77 rfl (by decide)) <|
   rwp_op rfl rfl (ope_call_lendO 0 [.c (.lit (.slice (some ⟨b, 0 + 4, none⟩) 256 256))] rfl ok58 rfl (.inl ⟨_, _, _, rfl⟩) (slices_Clone_i64 s.X (by rw [hs.hX]; decide)) (rows_lit _) ⟨.inl ⟨_, _, rfl, rfl, (by rw [← xs_rows]; exact lend_arr (mc_arr hs) (by rw [xsC_len]; exact hs.hX))⟩, trivial⟩ ⟨VLe.refl _, rfl, trivial⟩) ?_
  rintro _ _ ⟨sv1, rfl, rfl⟩
  refine rwp_weak _ (weak_freezeM 0 rfl (regs' := [(10, _)]) (μ' := [_, _]) ⟨FLe.sl, trivial⟩ ⟨EFle.refl _, EFle.refl _, trivial⟩) <|
   rMv rfl <|
   rwp_nil <|
   awp_ret <|
   fin1 (rs_c rfl) ?_
  exact ⟨rfl, [], rfl⟩

theorem vm_IntRegisters (b : Nat) (sv : Value) (s : Mc) (w : Int) (hs : s.Ok w)  : Con cfg 20 [vPt b] (mcE b sv s) fun r μ' => r = vIs s.X ∧ μ' = mcE b sv s := Con.drop (vm_IntRegisters0 b sv s w hs)
theorem vm_Run0 (b : Nat) (sv : Value) (s : Mc) (w : Int) (hs : s.Ok w) (f : Int) :
    Con cfg 19 [vPt b, vI f] (mcE b sv s) fun r μ' => r = .tup [vI (runX s f).2.1, vI (runX s f).2.2] ∧ ∃ ν, μ' = ν ++ mcE b sv (runX s f).1 := by
 refine con_intro Tryz.func19 rfl Tryz.ntmps19 Tryz.results19 rfl ?_
 intro z hz
 refine sReg rfl <|
  rMv rfl <|
  rMv rfl <|
  rwp_nil <|
  awp_seq <|
  sReg rfl <|
  rMv rfl <|
  rwp_det rfl rfl (det_call_same [0, 0] rfl ok57 (vm_ready b sv s w hs) ⟨VLe.refl _, rfl, trivial⟩ rfl) <|
  rwp_det rfl rfl (det_not rfl rfl) <|
  rMv rfl <|
  rLz [] rfl gv1 trivial (fun g1_3 => det_move rfl rfl) rfl <|
  rLz [(13, _)] rfl gv1 ⟨rfl, rfl, trivial⟩ (fun g1_3 => det_lss rfl rfl rfl) rfl <|
  rwp_det rfl rfl (det_or rfl rfl rfl rfl (fun h => (lzf h))) <|
  rMv rfl <|
  rLz [] rfl gv1 trivial (fun g1_7 => det_move rfl rfl) rfl <|
  rLz [(17, _)] rfl gv1 ⟨rfl, rfl, trivial⟩ (fun g1_7 => det_gtr rfl rfl rfl) rfl <|
  rwp_det rfl rfl (det_or rfl rfl rfl rfl (fun h => (lzf h))) <|
  rwp_nil <|
  awp_cond rfl (fun c1 => ?_) (fun c1 => ?_)
 ·have hf : f < 0 ∨ 16777216 < f := by simpa using c1
  refine sReg rfl <|
   rMv rfl <|
   rMv rfl <|
   rwp_nil <|
   awp_ret <|
   fin2 (rs_c rfl) (rs_c rfl) ?_
  rw [runX_no hf]
  exact ⟨rfl, [], rfl⟩
 ·have hf : ¬ (f < 0 ∨ 16777216 < f) := by simpa using c1
  refine awp_skip <|
   sReg rfl <|
   rMv rfl <|
   rwp_nil <|
   awp_block <|
   awp_weak ⟨[(6, .c _), (0, .c _), (1, .c _)], [_, _]⟩ (Weak.mk [true, true] ⟨VLe.of_eq rfl, VLe.of_eq rfl, VLe.of_eq rfl, trivial⟩ rfl) <|
   awp_loop_k 1 2 rfl rfl (Nat × Mc) (fun ⟨k, t⟩ => [(6, vI k)]) (fun ⟨k, t⟩ => [E.row b 80 (mcC sv t), E.vec sv 63 2 (t.M.map Vl.cells)]) (fun ⟨k, t⟩ => k ≤ f.toNat ∧ t.Ok w ∧ runM (f.toNat - k) t k = runM f.toNat s 0) (fun ⟨k, t⟩ => f.toNat - k) ⟨⟨0, s⟩, ⟨by omega, hs, rfl⟩, Weak.mk [true, true] ⟨VLe.refl _, VLe.refl _, VLe.refl _, trivial⟩ rfl⟩ ?_
  rintro ⟨k, t⟩ ⟨hk, hs, hr⟩
  show AWP _ _ _ _ _ ⟨[(6, vI k)] ++ _, [E.row b 80 (mcC sv t), E.vec sv 63 2 (t.M.map Vl.cells)] ++ _⟩
  refine awp_seq <|
   awp_block <|
   awp_seq <|
   sReg rfl <|
   rMv rfl <|
   rwp_det rfl rfl (det_nilcheck_ptr rfl rfl) <|
   rwp_det rfl rfl (det_field_lit rfl fd80_7 rfl) <|
   rwp_det rfl rfl (det_load_one rfl one4 rfl (ptr_row 0 rfl) (mc_hl hs)) <|
   rwp_nil <|
   awp_cond rfl (fun c2 => ?_) (fun c2 => ?_)
  ·try simp only [sx] at c2
   refine sReg rfl <|
    rMv rfl <|
    rMv rfl <|
    rMv rfl <|
    rwp_nil <|
    awp_ret <|
    fin2 (rs_c rfl) (rs_c rfl) ?_
   rw [runX_yes hf, ← hr, runM_hl c2]
   exact ⟨rfl, [], rfl⟩
  ·try simp only [sx] at c2
   have hl0 : t.hl = false := by simpa using c2
   refine awp_skip <|
    awp_seq <|
    sReg rfl <|
    rMv rfl <|
    rMv rfl <|
    rwp_det rfl rfl (det_eql rfl rfl rfl) <|
    rwp_nil <|
    awp_cond rfl (fun c3 => ?_) (fun c3 => ?_)
   ·try simp only [sx] at c3
    have hz0 : f.toNat - k = 0 := by omega
    refine sReg rfl <|
     rMv rfl <|
     rMv rfl <|
     rwp_nil <|
     awp_ret <|
     fin2 (rs_c rfl) (rs_c rfl) ?_
    rw [runX_yes hf, ← hr, hz0, runM_0 hl0]
    exact ⟨rfl, [], rfl⟩
   ·try simp only [sx] at c3
    have hz1 : f.toNat - k = (f.toNat - (k + 1)) + 1 := by omega
    refine awp_skip <|
     sReg rfl <|
     rMv rfl <|
     rwp_det rfl rfl (det_call_mem [0, 0] rfl ok31 (vm_Step b sv t w hs) ⟨VLe.refl _, rfl, trivial⟩ rfl) <|
     rwp_det rfl rfl (det_move_tup rfl rfl) <|
     rwp_det rfl rfl (det_ex_c rfl rfl rfl) <|
     rwp_det rfl rfl (det_ex_c rfl rfl rfl) <|
     rMv rfl <|
     rMv rfl <|
     rwp_nil <|
     sReg rfl <|
     rMv rfl <|
     rwp_det rfl rfl (det_neq rfl rfl rfl) <|
     rwp_nil <|
     awp_cond rfl (fun c4 => ?_) (fun c4 => ?_)
    ·try simp only [sx] at c4
     refine sReg rfl <|
      rMv rfl <|
      rMv rfl <|
      rMv rfl <|
      rwp_nil <|
      awp_ret <|
      fin2 (rs_c rfl) (rs_c rfl) ?_
     rw [runX_yes hf, ← hr, hz1, runM_e hl0 c4]
     exact ⟨rfl, [], by rw [stepM_err c4]; rfl⟩
    ·try simp only [sx] at c4
     refine awp_skip <|
      awp_region rfl <|
      rMv rfl <|
      rwp_det rfl rfl (det_add_nw rfl rfl rfl ⟨by omega, by omega⟩) <|
      rMv rfl <|
      rwp_nil ?_
     refine ⟨⟨k + 1, (stepM t).1⟩, ⟨by omega, stepM_ok hs, by rw [← hr, hz1, runM_s hl0 c4]; rfl⟩, (by show f.toNat - (k + 1) < f.toNat - k; omega), Weak.mk [true, true] ⟨VLe.refl _, VLe.refl _, VLe.refl _, trivial⟩ rfl⟩

theorem vm_Run (b : Nat) (sv : Value) (s : Mc) (w : Int) (hs : s.Ok w) (f : Int) : Con cfg 19 [vPt b, vI f] (mcE b sv s) fun r μ' => r = .tup [vI (runX s f).2.1, vI (runX s f).2.2] ∧ μ' = mcE b sv (runX s f).1 := Con.drop (vm_Run0 b sv s w hs f)
end Go.W
