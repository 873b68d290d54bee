/-
  Walks: what functions of the program compute. Printed by wip/gen/mk2.py.
  Conditions: none.
-/
import Derived.Test.YtmmiedgoamlhpaaDoorYF
set_option linter.unusedSimpArgs false
set_option linter.unusedVariables false
set_option maxRecDepth 10000
namespace Go.W
open Go Go.Eng Go.Proofs Go.L41 Go.Br
attribute [local irreducible] AWP RWP TD finQ
theorem el42 : elemT Tryd.prog 42 = some (2, 1, 8) := by kernel_rfl
theorem ik3 : intT Tryd.prog 3 = some .i64 := by kernel_rfl
theorem ok11 : callOk Tryd.prog 11 = true := by kernel_rfl
theorem ok15 : callOk Tryd.prog 15 = true := by kernel_rfl
theorem ok30 : callOk Tryd.prog 30 = true := by kernel_rfl
theorem ok40 : callOk Tryd.prog 40 = true := by kernel_rfl
theorem us75 : (Tryd.prog.underlying 75).isSome = true := by kernel_rfl
theorem zr2 : zeroT Tryd.prog 2 = some [(Value.int IntKind.i64 0)] := by kernel_rfl
theorem slices_Clone_in (l : List In) (hl : l.length ≤ 1048576) :
    OwnR cfg 17 [vIns l] 50 11 (l.map (In.cells)) := by
 refine con_intro Tryd.func17 rfl Tryd.ntmps17 Tryd.results17 rfl ?_
 intro z hz
 refine sReg rfl <|
  rwp_det rfl rfl (det_assignN 11 rfl rfl) <|
  rwp_nil <|
  awp_seq <|
  sReg rfl <|
  rMv rfl <|
  rwp_op rfl rfl (ope_nileq rfl el29 rfl rfl) ?_
 rintro _ _ ⟨nb1, rfl, hnil1, rfl⟩
 refine rwp_nil <|
  awp_cond rfl (fun c1 => ?_) (fun c1 => ?_)
 ·try simp only [sx] at c1
  refine sReg rfl <|
   rMv rfl <|
   rwp_weak _ (weak_own 50 11) <|
   rwp_nil <|
   awp_ret <|
   fin1 (rs_c rfl) ?_
  exact ⟨_, rfl, by rw [hnil1 c1]⟩
 ·try simp only [sx] at c1
  refine awp_skip <|
   sReg rfl <|
   rwp_op rfl rfl (ope_bslice rfl el29 zr50 rfl rfl rfl rfl) ?_
  rintro _ _ ⟨sv3, rfl, rfl⟩
  refine rMv rfl <|
   rwp_op rfl rfl (ope_append 0 rfl el29 rfl rfl rfl (by simp only [List.length_map, List.length_nil, Nat.zero_add]; omega) (by simp only [List.length_map, List.length_nil, Nat.zero_add]; omega)) ?_
  rintro _ _ ⟨sv4, rfl, rfl⟩
  refine rMv rfl <|
   rwp_nil <|
   awp_ret <|
   fin1 (rs_c rfl) ?_
  exact ⟨_, rfl, rfl⟩

theorem slices_Clone_ty (l : List Ty) (hl : l.length ≤ 1048576) :
    OwnR cfg 18 [vTys l] 48 5 (l.map (Ty.cells)) := by
 refine con_intro Tryd.func18 rfl Tryd.ntmps18 Tryd.results18 rfl ?_
 intro z hz
 refine sReg rfl <|
  rwp_det rfl rfl (det_assignN 5 rfl rfl) <|
  rwp_nil <|
  awp_seq <|
  sReg rfl <|
  rMv rfl <|
  rwp_op rfl rfl (ope_nileq rfl el30 rfl rfl) ?_
 rintro _ _ ⟨nb1, rfl, hnil1, rfl⟩
 refine rwp_nil <|
  awp_cond rfl (fun c1 => ?_) (fun c1 => ?_)
 ·try simp only [sx] at c1
  refine sReg rfl <|
   rMv rfl <|
   rwp_weak _ (weak_own 48 5) <|
   rwp_nil <|
   awp_ret <|
   fin1 (rs_c rfl) ?_
  exact ⟨_, rfl, by rw [hnil1 c1]⟩
 ·try simp only [sx] at c1
  refine awp_skip <|
   sReg rfl <|
   rwp_op rfl rfl (ope_bslice rfl el30 zr48 rfl rfl rfl rfl) ?_
  rintro _ _ ⟨sv3, rfl, rfl⟩
  refine rMv rfl <|
   rwp_op rfl rfl (ope_append 0 rfl el30 rfl rfl rfl (by simp only [List.length_map, List.length_nil, Nat.zero_add]; omega) (by simp only [List.length_map, List.length_nil, Nat.zero_add]; omega)) ?_
  rintro _ _ ⟨sv4, rfl, rfl⟩
  refine rMv rfl <|
   rwp_nil <|
   awp_ret <|
   fin1 (rs_c rfl) ?_
  exact ⟨_, rfl, rfl⟩

theorem slices_Clone_i64 (l : List Int) (hl : l.length ≤ 1048576) :
    OwnR cfg 15 [vIs l] 2 1 (l.map (fun n => [cI n])) := by
 refine con_intro Tryd.func15 rfl Tryd.ntmps15 Tryd.results15 rfl ?_
 intro z hz
 refine sReg rfl <|
  rwp_det rfl rfl (det_assignN 1 rfl rfl) <|
  rwp_nil <|
  awp_seq <|
  sReg rfl <|
  rMv rfl <|
  rwp_op rfl rfl (ope_nileq rfl el42 rfl rfl) ?_
 rintro _ _ ⟨nb1, rfl, hnil1, rfl⟩
 refine rwp_nil <|
  awp_cond rfl (fun c1 => ?_) (fun c1 => ?_)
 ·try simp only [sx] at c1
  refine sReg rfl <|
   rMv rfl <|
   rwp_weak _ (weak_own 2 1) <|
   rwp_nil <|
   awp_ret <|
   fin1 (rs_c rfl) ?_
  exact ⟨_, rfl, by rw [hnil1 c1]⟩
 ·try simp only [sx] at c1
  refine awp_skip <|
   sReg rfl <|
   rwp_op rfl rfl (ope_bslice rfl el42 zr2 rfl rfl rfl rfl) ?_
  rintro _ _ ⟨sv3, rfl, rfl⟩
  refine rMv rfl <|
   rwp_op rfl rfl (ope_append 0 rfl el42 rfl rfl rfl (by simp only [List.length_map, List.length_nil, Nat.zero_add]; omega) (by simp only [List.length_map, List.length_nil, Nat.zero_add]; omega)) ?_
  rintro _ _ ⟨sv4, rfl, rfl⟩
  refine rMv rfl <|
   rwp_nil <|
   awp_ret <|
   fin1 (rs_c rfl) ?_
  exact ⟨_, rfl, rfl⟩

theorem bits_Mul64 (a b : Nat) (ha : a < 18446744073709551616) (hb : b < 18446744073709551616) :
    Pur cfg 40 [vUn a, vUn b] (.tup [vUn (hiN a b), vUn (a * b % 18446744073709551616)]) := by
 refine con_intro Tryd.func40 rfl Tryd.ntmps40 Tryd.results40 rfl ?_
 intro z hz
 obtain ⟨p1, p2, p3, p4⟩ := part_le ha hb
 obtain ⟨q1, q2, q3, q4⟩ := hi_bounds ha hb
 refine sReg rfl <|
  rMv rfl <|
  rMv rfl <|
  rwp_nil <|
  sReg rfl <|
  rMv rfl <|
  rwp_det rfl rfl (det_uand rfl rfl rfl ha) <|
  rMv rfl <|
  rwp_nil <|
  sReg rfl <|
  rMv rfl <|
  rwp_det rfl rfl (det_ushr rfl rfl rfl ) <|
  rMv rfl <|
  rwp_nil <|
  sReg rfl <|
  rMv rfl <|
  rwp_det rfl rfl (det_uand rfl rfl rfl hb) <|
  rMv rfl <|
  rwp_nil <|
  sReg rfl <|
  rMv rfl <|
  rwp_det rfl rfl (det_ushr rfl rfl rfl ) <|
  rMv rfl <|
  rwp_nil <|
  sReg rfl <|
  rMv rfl <|
  rMv rfl <|
  rwp_det rfl rfl (det_umul rfl rfl rfl (by omega)) <|
  rMv rfl <|
  rwp_nil <|
  sReg rfl <|
  rMv rfl <|
  rMv rfl <|
  rwp_det rfl rfl (det_umul rfl rfl rfl (by omega)) <|
  rMv rfl <|
  rwp_det rfl rfl (det_ushr rfl rfl rfl ) <|
  rwp_det rfl rfl (det_uadd rfl rfl rfl q1) <|
  rMv rfl <|
  rwp_nil <|
  sReg rfl <|
  rMv rfl <|
  rwp_det rfl rfl (det_uand rfl rfl rfl q1) <|
  rMv rfl <|
  rwp_nil <|
  sReg rfl <|
  rMv rfl <|
  rwp_det rfl rfl (det_ushr rfl rfl rfl ) <|
  rMv rfl <|
  rwp_nil <|
  sReg rfl <|
  rMv rfl <|
  rMv rfl <|
  rMv rfl <|
  rwp_det rfl rfl (det_umul rfl rfl rfl (by omega)) <|
  rwp_det rfl rfl (det_uadd rfl rfl rfl (by rw [Nat.add_comm]; exact q2)) <|
  rMv rfl <|
  rwp_nil <|
  sReg rfl <|
  rMv rfl <|
  rMv rfl <|
  rwp_det rfl rfl (det_umul rfl rfl rfl (by omega)) ?_
 refine rMv rfl <|
  rwp_det rfl rfl (det_uadd rfl rfl rfl q3) <|
  rMv rfl <|
  rwp_det rfl rfl (det_ushr rfl rfl rfl ) <|
  rwp_det rfl rfl (det_uadd rfl rfl rfl (by rw [Nat.add_comm (_ % 4294967296)]; exact q4)) <|
  rMv rfl <|
  rwp_nil <|
  sReg rfl <|
  rMv rfl <|
  rMv rfl <|
  rwp_det rfl rfl (det_umod rfl rfl rfl ) <|
  rMv rfl <|
  rwp_nil <|
  awp_ret <|
  fin2 (rs_c rfl) (rs_c rfl) ?_
 rw [Nat.add_comm (_ % 4294967296)]; rfl

theorem bits_Mul (a b : Nat) (ha : a * b < 18446744073709551616) (h1 : a < 18446744073709551616) (h2 : b < 18446744073709551616) :
    Pur cfg 30 [vUn a, vUn b] (.tup [vUn 0, vUn (a * b)]) := by
 refine con_intro Tryd.func30 rfl Tryd.ntmps30 Tryd.results30 rfl ?_
 intro z hz
 refine sReg rfl <|
  rMv rfl <|
  rMv rfl <|
  rwp_nil <|
  awp_seq <|
  awp_cond rfl (fun c1 => ?_) (fun c1 => ?_)
 ·exact absurd c1 (by decide)
 ·refine awp_skip <|
   sReg rfl <|
   rMv rfl <|
   rMv rfl <|
   rwp_det rfl rfl (det_call rfl ok40 (bits_Mul64 a b h1 h2) ⟨VLe.refl _, rfl, VLe.refl _, rfl, trivial⟩) <|
   rwp_det rfl rfl (det_move_tup rfl rfl) <|
   rwp_det rfl rfl (det_ex_c rfl rfl rfl) <|
   rwp_det rfl rfl (det_ex_c rfl rfl rfl) <|
   rMv rfl <|
   rMv rfl <|
   rwp_nil <|
   sReg rfl <|
   rMv rfl <|
   rMv rfl <|
   rMv rfl <|
   rMv rfl <|
   rwp_nil <|
   awp_ret <|
   fin2 (rs_c rfl) (rs_c rfl) ?_
  rw [hi_zero.2 ha, Nat.mod_eq_of_lt ha]

theorem vm_zero  :
    Pur cfg 20 [] (vVal ⟨0, 1⟩) := by
 refine con_intro Tryd.func20 rfl Tryd.ntmps20 Tryd.results20 rfl ?_
 intro z hz
 refine sReg rfl <|
  rwp_op rfl rfl (ope_alloc rfl zr33) ?_
 rintro _ _ ⟨b1, rfl, rfl⟩
 refine rwp_nil <|
  sReg rfl <|
  rwp_det rfl rfl (det_build rfl zr33 pl33 rfl) <|
  rwp_det0 rfl rfl (det_store rfl sz33 rfl rfl rfl (st_row 0 rfl rfl)) <|
  rwp_nil <|
  awp_ret <|
  fin1 (rs_cell_agg agg33 rfl (ptr_row 0 rfl) rfl) ?_
 exact rfl

theorem slices_Repeat_val (v : Vl) (n : Nat) (hn : n ≤ 1048576) :
    OwnR cfg 19 [vVals [v], vI n] 33 2 ((List.replicate n v).map Vl.cells) := by
 refine con_intro Tryd.func19 rfl Tryd.ntmps19 Tryd.results19 rfl ?_
 intro z hz
 refine sReg rfl <|
  rwp_det rfl rfl (det_assignN 2 rfl rfl) <|
  rwp_nil <|
  awp_seq <|
  sReg rfl <|
  rMv rfl <|
  rwp_det rfl rfl (det_lss rfl rfl rfl) <|
  rwp_nil <|
  awp_cond rfl (fun c1 => ?_) (fun c1 => ?_)
 ·try simp only [sx] at c1
  exact absurd c1 (by omega)
 ·try simp only [sx] at c1
  refine awp_skip <|
   sReg rfl <|
   rMv rfl <|
   rwp_det rfl rfl (det_len_slm rfl el22 rfl) <|
   rwp_det rfl rfl (det_convE rfl us3 ik75 rfl (show _ = ((1 : Nat) : Int) from rfl)) <|
   rMv rfl <|
   rwp_det rfl rfl (det_convE rfl us3 ik75 rfl (show _ = ((n : Nat) : Int) from wrap_u64 ⟨by omega, by omega⟩)) <|
   rwp_det rfl rfl (det_call rfl ok30 (bits_Mul 1 n (by omega) (by decide) (by omega)) ⟨VLe.refl _, rfl, VLe.refl _, rfl, trivial⟩) <|
   rwp_det rfl rfl (det_move_tup rfl rfl) <|
   rwp_det rfl rfl (det_ex_c rfl rfl rfl) <|
   rwp_det rfl rfl (det_ex_c rfl rfl rfl) <|
   rMv rfl <|
   rMv rfl <|
   rwp_nil <|
   awp_seq <|
   sReg rfl <|
   rMv rfl <|
   rwp_det rfl rfl (det_gtr rfl rfl rfl) <|
   rMv rfl <|
   rLz [] rfl gv1 trivial (fun g4_2 => det_move rfl rfl) rfl <|
   rLz [(24, _)] rfl gv1 ⟨rfl, rfl, trivial⟩ (fun g4_2 => det_gtr rfl rfl rfl) rfl <|
   rwp_det rfl rfl (det_or rfl rfl rfl rfl (fun h => (lzf h))) <|
   rwp_nil <|
   awp_cond rfl (fun c2 => ?_) (fun c2 => ?_)
  ·have c2 : (decide ((0 : Int) < ((0 : Nat) : Int)) || decide ((9223372036854775807 : Int) < ((1 * n : Nat) : Int))) = true := c2
   exact absurd c2 (by simp; omega)
  ·refine awp_skip <|
    sReg rfl <|
    rMv rfl <|
    rwp_det rfl rfl (det_convE rfl us75 ik3 rfl (show _ = ((n : Nat) : Int) from by rw [Nat.one_mul]; exact wrap_in ⟨by omega, by omega⟩)) <|
    rwp_op rfl rfl (ope_make n rfl el22 zr33 rfl rfl rfl rfl (by omega) (by omega)) ?_
   rintro _ _ ⟨sv1, rfl, rfl⟩
   refine rMv rfl <|
    rwp_nil <|
    sReg rfl <|
    rMv rfl <|
    rMv rfl <|
    rwp_det rfl rfl (det_copy 0 rfl el22 rfl (isCut_self (m := n) (by rw [List.length_replicate])) rfl rfl (by rw [List.length_replicate]; omega)) <|
    rMv rfl <|
    rwp_nil <|
    awp_seq <|
    awp_block <|
    awp_weak ⟨[(8, .c _), (7, .c _)], [_]⟩ (Weak.mk [true] ⟨VLe.of_eq rfl, VLe.of_eq rfl, trivial⟩ rfl) <|
    awp_loop_k 1 1 rfl rfl (Nat) (fun j => [(8, vI j)]) (fun j => [E.vec sv1 33 2 ((List.replicate j v).map Vl.cells ++ List.replicate (n - j) [cI 0, cI 0])]) (fun j => j ≤ n ∧ (j < n → 1 ≤ j)) (fun j => n - j) ⟨(min 1 n), ⟨by omega, fun h => by omega⟩, Weak.mk [true] ⟨VLe.of_eq (by rfl), VLe.refl _, trivial⟩ (by exact mem1_eq (rep_init _))⟩ ?_
   rintro j hj
   refine awp_seq <|
    sReg rfl <|
    rMv rfl <|
    rMv rfl <|
    rwp_det rfl rfl (det_len_vec 0 rfl el22 rfl rfl) <|
    rwp_det rfl rfl (det_lss rfl rfl rfl) <|
    rwp_nil <|
    awp_cond rfl (fun c3 => ?_) (fun c3 => ?_)
   ·try simp only [sx] at c3
    have c3 : j < n := by simp only [List.length_append, List.length_map, List.length_replicate] at c3; omega
    have hj1 := hj.2 c3
    refine awp_skip <|
     awp_block <|
     awp_draw_c 8 0 [⟨0, .q []⟩, ⟨1, .q []⟩, ⟨2, .q []⟩, ⟨3, .q [0]⟩, ⟨4, .q []⟩, ⟨5, .q []⟩, ⟨6, .q [0]⟩, ⟨7, .e 0 []⟩] mixed (by kernel_rfl) (by kernel_rfl) rfl rfl rfl <|
     fx_skip rfl <|
     fx_skip rfl <|
     fx_skip rfl <|
     fx_skip rfl <|
     fx_skip rfl <|
     fx_skip rfl <|
     fx_skip rfl <|
     fx_skip rfl <|
     fx_nil <|
     sq_det rfl (by decide) rfl rfl (det_move rfl rfl) <|
     sq_det rfl (by decide) rfl rfl (det_move rfl rfl) <|
     sq_det rfl (by decide) rfl rfl (det_move rfl rfl) <|
     sq_det rfl (by decide) rfl rfl (det_cutg (k := j) (m := (n - j)) 0 rfl el22 rfl rfl ⟨.i64, _, rfl, rfl⟩ (by show j + (n - j) = _; rw [List.length_append, List.length_map, List.length_replicate, List.length_replicate]) (by rw [List.length_append, List.length_map, List.length_replicate, List.length_replicate]; omega)) <|
     sq_det rfl (by decide) rfl rfl (det_move rfl rfl) <|
     sq_det rfl (by decide) rfl rfl (det_move rfl rfl) <|
     sq_det rfl (by decide) rfl rfl (det_cutg (k := 0) (m := j) 0 rfl el22 rfl rfl rfl ⟨.i64, _, rfl, by omega⟩ (by rw [List.length_append, List.length_map, List.length_replicate, List.length_replicate]; omega)) <|
     sq_op rfl rfl (by decide) rfl rfl (det_copy_in 0 rfl el22 rfl isCut_gh rfl rfl isCut_gh (by rw [List.length_append, List.length_map, List.length_replicate, List.length_replicate]; omega) (by rw [List.length_append, List.length_map, List.length_replicate, List.length_replicate]; omega) (by omega) (by omega) (k := j) (m := n - j) (l := j) (rows := (List.replicate j v).map Vl.cells ++ List.replicate (n - j) [cI 0, cI 0])) ?_
    rintro _ _ ⟨rfl, rfl⟩
    refine ⟨_, rfl, ?_⟩
    refine sq_nil rfl <|
     rwp_det rfl rfl (det_add_nw rfl rfl rfl ⟨by omega, by omega⟩) <|
     rMv rfl <|
     rwp_nil ?_
    refine ⟨j + min j (n - j), ⟨by omega, fun h => by omega⟩, (by omega), Weak.mk [true] ⟨VLe.of_eq (by rfl), VLe.refl _, trivial⟩ (by exact mem1_eq (rep_rows hj1 hj.1 _))⟩
   ·try simp only [sx] at c3
    have hjn : j = n := by simp only [List.length_append, List.length_map, List.length_replicate] at c3; omega
    subst hjn
    refine awp_exit <|
     sReg rfl <|
     rMv rfl <|
     rMv rfl <|
     rwp_nil <|
     awp_ret <|
     fin1 (rs_c rfl) ?_
    exact ⟨_, rfl, by show [E.vec sv1 _ 2 ((List.replicate j v).map Vl.cells ++ List.replicate (j - j) _)] = _; rw [Nat.sub_self, List.replicate_zero, List.append_nil]⟩

theorem vm_IntRegisters0 (b : Nat) (sv : Value) (s : Mc) (w : Int) (hs : s.Ok w)  :
    Con cfg 8 [vPt b] (mcE b sv s) fun r μ' => r = vIs s.X ∧ ∃ ν, μ' = ν ++ mcE b sv s := by
 refine con_intro Tryd.func8 rfl Tryd.ntmps8 Tryd.results8 rfl ?_
 intro z hz
 refine sReg rfl <|
  rwp_det rfl rfl (det_assignN 1 rfl rfl) <|
  rwp_nil <|
  awp_seq <|
  sReg rfl <|
  rMv rfl <|
  rwp_det rfl rfl (det_call_same [0, 0] rfl ok14 (vm_ready b sv s w hs) ⟨VLe.refl _, rfl, trivial⟩ rfl) <|
  rwp_det rfl rfl (det_not rfl rfl) <|
  rwp_nil <|
  awp_cond rfl (fun c1 => ?_) (fun c1 => ?_)
 ·try simp only [sx] at c1
  exact absurd c1 (by simp)
 ·try simp only [sx] at c1
  refine awp_skip <|
   sReg rfl <|
   rMv rfl <|
   rwp_det rfl rfl (det_nilcheck_ptr rfl rfl) <|
   rwp_det rfl rfl (det_field_lit rfl fd36_4 rfl) <|
   rwp_det rfl rfl (det_cut_arrp rfl ar31 rfl (by decide)) <|
   rwp_op rfl rfl (ope_call_lendO 0 [.c (.lit (.slice (some ⟨b, 0 + 4, none⟩) 256 256))] rfl ok15 rfl (.inl ⟨_, _, _, rfl⟩) (slices_Clone_i64 s.X (by rw [hs.hX]; decide)) (rows_lit _) ⟨.inl ⟨_, _, rfl, rfl, (by rw [← xs_rows]; exact lend_arr (mc_arr hs) (by rw [xsC_len]; exact hs.hX))⟩, trivial⟩ ⟨VLe.refl _, rfl, trivial⟩) ?_
  rintro _ _ ⟨sv1, rfl, rfl⟩
  refine rwp_weak _ (weak_freezeM 0 rfl (regs' := [(10, _)]) (μ' := [_, _]) ⟨FLe.sl, trivial⟩ ⟨EFle.refl _, EFle.refl _, trivial⟩) <|
   rMv rfl <|
   rwp_nil <|
   awp_ret <|
   fin1 (rs_c rfl) ?_
  exact ⟨rfl, [], rfl⟩

theorem vm_IntRegisters (b : Nat) (sv : Value) (s : Mc) (w : Int) (hs : s.Ok w)  : Con cfg 8 [vPt b] (mcE b sv s) fun r μ' => r = vIs s.X ∧ μ' = mcE b sv s := Con.drop (vm_IntRegisters0 b sv s w hs)
theorem vm_Run0 (b : Nat) (sv : Value) (s : Mc) (w : Int) (hs : s.Ok w) (f : Int) :
    Con cfg 10 [vPt b, vI f] (mcE b sv s) fun r μ' => r = .tup [vI (runX s f).2.1, vI (runX s f).2.2] ∧ ∃ ν, μ' = ν ++ mcE b sv (runX s f).1 := by
 refine con_intro Tryd.func10 rfl Tryd.ntmps10 Tryd.results10 rfl ?_
 intro z hz
 refine sReg rfl <|
  rMv rfl <|
  rMv rfl <|
  rwp_nil <|
  awp_seq <|
  sReg rfl <|
  rMv rfl <|
  rwp_det rfl rfl (det_call_same [0, 0] rfl ok14 (vm_ready b sv s w hs) ⟨VLe.refl _, rfl, trivial⟩ rfl) <|
  rwp_det rfl rfl (det_not rfl rfl) <|
  rMv rfl <|
  rLz [] rfl gv1 trivial (fun g1_3 => det_move rfl rfl) rfl <|
  rLz [(13, _)] rfl gv1 ⟨rfl, rfl, trivial⟩ (fun g1_3 => det_lss rfl rfl rfl) rfl <|
  rwp_det rfl rfl (det_or rfl rfl rfl rfl (fun h => (lzf h))) <|
  rMv rfl <|
  rLz [] rfl gv1 trivial (fun g1_7 => det_move rfl rfl) rfl <|
  rLz [(17, _)] rfl gv1 ⟨rfl, rfl, trivial⟩ (fun g1_7 => det_gtr rfl rfl rfl) rfl <|
  rwp_det rfl rfl (det_or rfl rfl rfl rfl (fun h => (lzf h))) <|
  rwp_nil <|
  awp_cond rfl (fun c1 => ?_) (fun c1 => ?_)
 ·have hf : f < 0 ∨ 16777216 < f := by simpa using c1
  refine sReg rfl <|
   rMv rfl <|
   rMv rfl <|
   rwp_nil <|
   awp_ret <|
   fin2 (rs_c rfl) (rs_c rfl) ?_
  rw [runX_no hf]
  exact ⟨rfl, [], rfl⟩
 ·have hf : ¬ (f < 0 ∨ 16777216 < f) := by simpa using c1
  refine awp_skip <|
   sReg rfl <|
   rMv rfl <|
   rwp_nil <|
   awp_block <|
   awp_weak ⟨[(6, .c _), (0, .c _), (1, .c _)], [_, _]⟩ (Weak.mk [true, true] ⟨VLe.of_eq rfl, VLe.of_eq rfl, VLe.of_eq rfl, trivial⟩ rfl) <|
   awp_loop_k 1 2 rfl rfl (Nat × Mc) (fun ⟨k, t⟩ => [(6, vI k)]) (fun ⟨k, t⟩ => [E.row b 36 (mcC sv t), E.vec sv 33 2 (t.M.map Vl.cells)]) (fun ⟨k, t⟩ => k ≤ f.toNat ∧ t.Ok w ∧ runM (f.toNat - k) t k = runM f.toNat s 0) (fun ⟨k, t⟩ => f.toNat - k) ⟨⟨0, s⟩, ⟨by omega, hs, rfl⟩, Weak.mk [true, true] ⟨VLe.refl _, VLe.refl _, VLe.refl _, trivial⟩ rfl⟩ ?_
  rintro ⟨k, t⟩ ⟨hk, hs, hr⟩
  show AWP _ _ _ _ _ ⟨[(6, vI k)] ++ _, [E.row b 36 (mcC sv t), E.vec sv 33 2 (t.M.map Vl.cells)] ++ _⟩
  refine awp_seq <|
   awp_block <|
   awp_seq <|
   sReg rfl <|
   rMv rfl <|
   rwp_det rfl rfl (det_nilcheck_ptr rfl rfl) <|
   rwp_det rfl rfl (det_field_lit rfl fd36_7 rfl) <|
   rwp_det rfl rfl (det_load_one rfl one4 rfl (ptr_row 0 rfl) (mc_hl hs)) <|
   rwp_nil <|
   awp_cond rfl (fun c2 => ?_) (fun c2 => ?_)
  ·try simp only [sx] at c2
   refine sReg rfl <|
    rMv rfl <|
    rMv rfl <|
    rMv rfl <|
    rwp_nil <|
    awp_ret <|
    fin2 (rs_c rfl) (rs_c rfl) ?_
   rw [runX_yes hf, ← hr, runM_hl c2]
   exact ⟨rfl, [], rfl⟩
  ·try simp only [sx] at c2
   have hl0 : t.hl = false := by simpa using c2
   refine awp_skip <|
    awp_seq <|
    sReg rfl <|
    rMv rfl <|
    rMv rfl <|
    rwp_det rfl rfl (det_eql rfl rfl rfl) <|
    rwp_nil <|
    awp_cond rfl (fun c3 => ?_) (fun c3 => ?_)
   ·try simp only [sx] at c3
    have hz0 : f.toNat - k = 0 := by omega
    refine sReg rfl <|
     rMv rfl <|
     rMv rfl <|
     rwp_nil <|
     awp_ret <|
     fin2 (rs_c rfl) (rs_c rfl) ?_
    rw [runX_yes hf, ← hr, hz0, runM_0 hl0]
    exact ⟨rfl, [], rfl⟩
   ·try simp only [sx] at c3
    have hz1 : f.toNat - k = (f.toNat - (k + 1)) + 1 := by omega
    refine awp_skip <|
     sReg rfl <|
     rMv rfl <|
     rwp_det rfl rfl (det_call_mem [0, 0] rfl ok11 (vm_Step b sv t w hs) ⟨VLe.refl _, rfl, trivial⟩ rfl) <|
     rwp_det rfl rfl (det_move_tup rfl rfl) <|
     rwp_det rfl rfl (det_ex_c rfl rfl rfl) <|
     rwp_det rfl rfl (det_ex_c rfl rfl rfl) <|
     rMv rfl <|
     rMv rfl <|
     rwp_nil <|
     sReg rfl <|
     rMv rfl <|
     rwp_det rfl rfl (det_neq rfl rfl rfl) <|
     rwp_nil <|
     awp_cond rfl (fun c4 => ?_) (fun c4 => ?_)
    ·try simp only [sx] at c4
     refine sReg rfl <|
      rMv rfl <|
      rMv rfl <|
      rMv rfl <|
      rwp_nil <|
      awp_ret <|
      fin2 (rs_c rfl) (rs_c rfl) ?_
     rw [runX_yes hf, ← hr, hz1, runM_e hl0 c4]
     exact ⟨rfl, [], by rw [stepM_err c4]; rfl⟩
    ·try simp only [sx] at c4
     refine awp_skip <|
      awp_region rfl <|
      rMv rfl <|
      rwp_det rfl rfl (det_add_nw rfl rfl rfl ⟨by omega, by omega⟩) <|
      rMv rfl <|
      rwp_nil ?_
     refine ⟨⟨k + 1, (stepM t).1⟩, ⟨by omega, stepM_ok hs, by rw [← hr, hz1, runM_s hl0 c4]; rfl⟩, (by show f.toNat - (k + 1) < f.toNat - k; omega), Weak.mk [true, true] ⟨VLe.refl _, VLe.refl _, VLe.refl _, trivial⟩ rfl⟩

theorem vm_Run (b : Nat) (sv : Value) (s : Mc) (w : Int) (hs : s.Ok w) (f : Int) : Con cfg 10 [vPt b, vI f] (mcE b sv s) fun r μ' => r = .tup [vI (runX s f).2.1, vI (runX s f).2.2] ∧ μ' = mcE b sv (runX s f).1 := Con.drop (vm_Run0 b sv s w hs f)
end Go.W
