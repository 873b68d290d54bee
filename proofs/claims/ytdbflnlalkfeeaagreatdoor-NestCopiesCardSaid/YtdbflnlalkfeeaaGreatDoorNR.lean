/-
  Walks: what functions of the program compute. Printed by wip/gen/mk2.py.
  Conditions: none.
-/
import Derived.Test.YtdbflnlalkfeeaaGreatDoorNQ
import Derived.Test.YtdbflnlalkfeeaaGreatDoorEngZ
set_option linter.unusedSimpArgs false
set_option linter.unusedVariables false
set_option maxRecDepth 10000
namespace Go.W
open Go Go.Eng Go.Proofs Go.L41 Go.Br
attribute [local irreducible] AWP RWP TD finQ
/-- Two values. -/
structure P2 where
  (a0 a1 : Value)
def P2.vals (p : P2) : List Value := [p.a0, p.a1]
abbrev P2.v (p : P2) : V := .agg [.lit p.a0, .lit p.a1]
theorem few_name {l : List Bf} {b : Bf} (h : l.all fewBf = true) (hb : b ∈ l) : b.Name.size ≤ 1000000 := by
  have h1 := List.all_eq_true.1 h b hb
  unfold fewBf at h1
  simp only [Bool.and_eq_true, decide_eq_true_eq] at h1
  omega
theorem list2 {vs : List Value} (h : vs.length = 2) : ∃ p : P2, vs = p.vals := by
  match vs, h with
  | [a0, a1], _ => exact ⟨⟨a0, a1⟩, rfl⟩
theorem ok43 : callOk Tryz.prog 43 = true := by kernel_rfl
theorem ok52 : callOk Tryz.prog 52 = true := by kernel_rfl
theorem ok53 : callOk Tryz.prog 53 = true := by kernel_rfl
theorem ref30_TwinP (n : Ns) (hn : n.Ok) (hl : stsWt n.Body ≤ 1000000) :
    Pur cfg 51 [vNs n] (vNs n) := by
 refine con_intro Tryz.func51 rfl Tryz.ntmps51 Tryz.results51 rfl ?_
 intro z hz
 have hnb := hn.bufs
 refine sReg rfl <|
  rwp_op rfl rfl (ope_box rfl rfl) ?_
 rintro _ _ ⟨b1, rfl, rfl⟩
 refine rwp_op rfl rfl (ope_allocN [some 8, some 20] rfl zr25 rfl) ?_
 rintro _ _ ⟨b2, rfl, rfl⟩
 refine rwp_nil <|
  sReg rfl <|
  rwp_det rfl rfl (det_field_lit rfl fd25_1 rfl) <|
  rwp_det rfl rfl (det_load_one rfl one23 rfl (ptr_row 1 rfl) rfl) <|
  rwp_det rfl rfl (det_call rfl ok104 (ref30_twins n.Body hl) ⟨VLe.refl _, rfl, trivial⟩) <|
  rwp_det rfl rfl (det_build rfl zr25 pl25 rfl) <|
  rwp_op rfl rfl (ope_allocN [some 8, some 20] rfl zr25 rfl) ?_
 rintro _ _ ⟨b3, rfl, rfl⟩
 refine rwp_det0 rfl rfl (det_store rfl sz25 rfl rfl rfl (st_row 0 rfl rfl)) <|
  rwp_nil <|
  awp_seq <|
  sReg rfl <|
  rwp_weak _ (weak_own 42 8) <|
  rMv rfl <|
  rwp_nil <|
  awp_block <|
  awp_weak ⟨[(4, .c _), (1, .c _), (2, .c _), (3, .c _)], [_, _, _, _]⟩ (Weak.mk [true, true, true, true] ⟨VLe.of_eq rfl, VLe.of_eq rfl, VLe.of_eq rfl, VLe.of_eq rfl, trivial⟩ rfl) <|
  awp_loop_k 1 2 rfl rfl (Nat × Value) (fun ⟨k, sv⟩ => [(4, vI k)]) (fun ⟨k, sv⟩ => [E.vec sv 42 8 ((n.Bufs.take k).map Bf.cells), E.row b3 25 [.lit sv, .sl 20 (n.Body.map St.cells)]]) (fun ⟨k, sv⟩ => k ≤ n.Bufs.length) (fun ⟨k, sv⟩ => n.Bufs.length - k) ⟨⟨0, (.slice none 0 0)⟩, (by omega), Weak.mk [true, true, true, true] ⟨VLe.refl _, VLe.refl _, VLe.refl _, VLe.refl _, trivial⟩ rfl⟩ ?_
 rintro ⟨k, sv⟩ hk
 show AWP _ _ _ _ _ ⟨[(4, vI k)] ++ _, [E.vec sv 42 8 ((n.Bufs.take k).map Bf.cells), E.row b3 25 [.lit sv, .sl 20 (n.Body.map St.cells)]] ++ _⟩
 refine awp_seq <|
  sReg rfl <|
  rMv rfl <|
  rwp_det rfl rfl (det_field_lit rfl fd25_0 rfl) <|
  rwp_det rfl rfl (det_load_one rfl one22 rfl (ptr_row 3 rfl) rfl) <|
  rwp_det rfl rfl (det_len_slm rfl el22 rfl) <|
  rwp_det rfl rfl (det_lss rfl rfl rfl) <|
  rwp_nil <|
  awp_cond rfl (fun c1 => ?_) (fun c1 => ?_)
 ·try simp only [sx] at c1
  obtain ⟨b, hb⟩ := ex_get n.Bufs k (by omega)
  have hbd := hn.dims b (mem_of_get hb)
  refine awp_skip <|
   awp_seq <|
   awp_block <|
   sReg rfl <|
   rwp_det rfl rfl (det_field_lit rfl fd25_0 rfl) <|
   rwp_det rfl rfl (det_load_one rfl one22 rfl (ptr_row 3 rfl) rfl) <|
   rMv rfl <|
   rwp_det rfl rfl (det_index_sl rfl el22 rfl rfl (by omega) (getm (by assumption))) <|
   rwp_det rfl rfl (det_load_agg rfl agg42 rfl ptr_imm rfl) <|
   rwp_op rfl rfl (ope_allocN [none, none, none, none, none, none, some 1, none] rfl zr42 rfl) ?_
  rintro _ _ ⟨b4, rfl, rfl⟩
  refine rwp_det0 rfl rfl (det_store rfl sz42 rfl rfl rfl (st_row 0 rfl rfl)) <|
   rwp_nil <|
   sReg rfl <|
   rwp_det rfl rfl (det_bslice0 rfl el33 zr3) <|
   rwp_det rfl rfl (det_field_lit rfl fd42_2 rfl) <|
   rwp_det rfl rfl (det_load_one rfl one33 rfl (ptr_row 0 rfl) rfl) <|
   rwp_op rfl rfl (ope_append0 rfl el33 rfl rfl (by simp only [List.length_map, List.length_append, List.length_cons, List.length_nil, List.length_take, List.length_drop]; omega) (by simp only [List.length_map, List.length_append, List.length_cons, List.length_nil, List.length_take, List.length_drop]; omega)) ?_
  rintro _ _ ⟨sv5, rfl, rfl⟩
  refine rwp_weak _ (weak_freezeM 0 rfl (regs' := [(25, _)]) (μ' := [_, _, _, _, _]) ⟨FLe.sl, trivial⟩ ⟨EFle.refl _, EFle.refl _, EFle.refl _, EFle.refl _, EFle.refl _, trivial⟩) <|
   rwp_det rfl rfl (det_field_lit rfl fd42_2 rfl) <|
   rwp_det0 rfl rfl (det_store rfl sz33 rfl rfl rfl (st_row 0 rfl rfl)) <|
   rwp_nil <|
   awp_region rfl <|
   rwp_det rfl rfl (det_field_lit rfl fd25_0 rfl) <|
   rwp_det rfl rfl (det_load_one rfl one22 rfl (ptr_row 2 rfl) rfl) <|
   rwp_det rfl rfl (det_load_agg rfl agg42 rfl (ptr_row 0 rfl) rfl) <|
   rwp_det rfl rfl (det_bslice rfl el22 zr42 rfl rfl rfl rfl) <|
   rwp_op rfl rfl (ope_append 1 rfl el22 rfl rfl rfl (by simp only [List.length_map, List.length_append, List.length_cons, List.length_nil, List.length_take, List.length_drop]; omega) (by simp only [List.length_map, List.length_append, List.length_cons, List.length_nil, List.length_take, List.length_drop]; omega)) ?_
  rintro _ _ ⟨sv6, rfl, rfl⟩
  refine rwp_det rfl rfl (det_field_lit rfl fd25_0 rfl) <|
   rwp_det0 rfl rfl (det_store rfl sz22 rfl rfl rfl (st_row 2 rfl rfl)) <|
   rwp_nil <|
   awp_region rfl <|
   rMv rfl <|
   rwp_det rfl rfl (det_add_nw rfl rfl rfl ⟨by omega, by omega⟩) <|
   rMv rfl <|
   rwp_nil ?_
  refine ⟨⟨k + 1, sv6⟩, (by omega), (by show n.Bufs.length - (k + 1) < n.Bufs.length - k; omega), Weak.mk [false, true, true, true, true] ⟨VLe.refl _, VLe.refl _, VLe.refl _, VLe.refl _, trivial⟩ (by exact mem2_eq' (by rw [take_next hb, List.map_append]; rfl))⟩
 ·try simp only [sx] at c1
  rw [take_all (l := n.Bufs) (k := k) (by omega)]
  refine awp_weak _ (weak_freezeM 0 rfl (regs' := []) (μ' := [_, _, _]) trivial ⟨EFle.row (ds := [_, _]) ⟨.inr ⟨rfl, rfl⟩, .inl rfl, trivial⟩, EFle.refl _, EFle.refl _, trivial⟩) <|
   awp_exit <|
   sReg rfl <|
   rwp_det rfl rfl (det_load_agg rfl agg25 rfl (ptr_row 0 rfl) rfl) <|
   rwp_det0 rfl rfl (det_store rfl sz25 rfl rfl rfl (st_row 1 rfl rfl)) <|
   rwp_nil <|
   awp_ret <|
   fin1 (rs_cell_agg agg25 rfl (ptr_row 1 rfl) rfl) ?_
  rfl

theorem loopnest_CopyP (n : Ns) (hn : n.Ok) : Con cfg 52 [vNs n] [] fun r μ' => ∃ q : List Nat × P2, r = q.2.v ∧ μ' = [E.reg q.1 (RegR q.1 n.cells q.2.vals)] :=
  (loopnest_CopyN n hn).mono fun r μ' ⟨bs, vs, h1, h2, h3⟩ => by
    obtain ⟨p, rfl⟩ := list2 h2
    exact ⟨(bs, p), h1, h3⟩

theorem law_NestCopies (a b : Ns) (hf : a.Fit) (hf2 : b.Fit) :
    Pur cfgI 11 [vNs a, vNs b] (vB true) := by
 refine con_intro Tryz.func11 rfl Tryz.ntmps11 Tryz.results11 rfl ?_
 intro z hz
 refine sReg rfl <|
  rwp_op rfl rfl (ope_box rfl rfl) ?_
 rintro _ _ ⟨b1, rfl, rfl⟩
 refine rwp_op rfl rfl (ope_box rfl rfl) ?_
 rintro _ _ ⟨b2, rfl, rfl⟩
 refine rMv rfl <|
  rwp_nil <|
  awp_seq <|
  sReg rfl <|
  rwp_det rfl rfl (det_load_agg rfl agg25 rfl (ptr_row 1 rfl) rfl) <|
  rwp_det rfl rfl (det_call rfl ok20 (upI (law30_Few a 300 300 hf (by omega) rfl)) ⟨VLe.refl _, rfl, VLe.refl _, rfl, trivial⟩) <|
  rwp_det rfl rfl (det_not rfl rfl) <|
  rMv rfl <|
  rLz [] rfl gv1 trivial (fun g1_3 => det_load_agg rfl agg25 rfl (ptr_row 0 rfl) rfl) rfl <|
  rLz [(13, _)] rfl gv1 ⟨rfl, rfl, trivial⟩ (fun g1_3 => det_call rfl ok20 (upI (law30_Few b 300 300 hf2 (by omega) rfl)) ⟨VLe.refl _, rfl, VLe.refl _, rfl, trivial⟩) rfl <|
  rLz [(14, _)] rfl gv1 ⟨rfl, rfl, trivial⟩ (fun g1_3 => det_not rfl rfl) rfl <|
  rwp_det rfl rfl (det_or rfl rfl rfl rfl (fun h => (lzf h))) <|
  rwp_nil <|
  awp_cond rfl (fun c1 => ?_) (fun c1 => ?_)
 ·try simp only [sx] at c1
  refine sReg rfl <|
   rwp_det rfl rfl (det_call rfl ok21 law30_live trivial) <|
   rMv rfl <|
   rwp_nil <|
   awp_ret <|
   fin1 (rs_c rfl) ?_
  rfl
 ·try simp only [sx] at c1
  obtain ⟨c1, c1b⟩ := c1
  obtain ⟨k1, k2, k3, k4⟩ := few_parts c1
  obtain ⟨j1, j2, j3, j4⟩ := few_parts c1b
  have hok := hf.ok (m := 300) (by omega) k1 k3
  have hok2 := hf2.ok (m := 300) (by omega) j1 j3
  have hw := weighB_wt k3
  have hN := stsN_wt a.Body
  refine awp_skip <|
   awp_seq <|
   awp_draw_c 6 3 [⟨0, .q [4]⟩, ⟨1, .q []⟩, ⟨2, .q [4]⟩, ⟨3, .e 2 []⟩, ⟨4, .f 1⟩, ⟨5, .f 0⟩] mixed (by kernel_rfl) (by kernel_rfl) rfl rfl rfl <|
   fx_skip rfl <|
   fx_skip rfl <|
   fx_skip rfl <|
   fx_skip rfl <|
   fx_fresh rfl rfl (fresh_alloc' (ope_allocN [some 8, some 20] rfl zr25 rfl)) ⟨_, _, 0, rfl, rfl⟩ <|
   fx_fresh rfl rfl (fresh_alloc' (ope_allocN [some 8, some 20] rfl zr25 rfl)) ⟨_, _, 0, rfl, rfl⟩ <|
   fx_nil <|
   sq_det rfl (by decide) rfl rfl (det_load_agg rfl agg25 rfl (ptr_row 0 rfl) rfl) <|
   sq_det rfl (by decide) rfl rfl (det_call rfl ok51 (upI (ref30_TwinP a hok (by omega))) ⟨VLe.refl _, rfl, trivial⟩) <|
   sq_det rfl (by decide) rfl rfl (det_load_agg rfl agg25 rfl (ptr_row 0 rfl) rfl) <|
   sq_op rfl rfl (by decide) rfl rfl (ope_call_newE rfl ok52 (upI (loopnest_CopyP a hok)) ⟨VLe.refl _, rfl, trivial⟩) ?_
  rintro _ _ ⟨q, rfl, rfl⟩
  refine ⟨_, rfl, ?_⟩
  refine sq_fresh rfl rfl ?_
  rintro _ _ ⟨b3, rfl, rfl⟩
  refine sq_fresh rfl rfl ?_
  rintro _ _ ⟨b4, rfl, rfl⟩
  refine sq_nil rfl <|
   rwp_det0 rfl rfl (det_store rfl sz25 rfl rfl rfl (st_row 1 rfl rfl)) <|
   rwp_det0 rfl rfl (det_store rfl sz25 rfl rfl rfl (st_row 0 rfl rfl)) <|
   rwp_nil <|
   awp_seq <|
   awp_seq <|
   awp_draw 19 mixed (by kernel_rfl) rfl rfl <|
   td_det rfl rfl (det_load_agg rfl agg25 rfl (ptr_row 0 rfl) rfl) <|
   td_det rfl rfl (det_load_agg rfl agg25 rfl (ptr_row 1 rfl) rfl) <|
   td_det rfl rfl (det_call_regd 2 rfl rfl ok43 (Con.lendReg (args' := [q.2.v, vNs a]) (cs := a.cells) (us := q.2.vals) (upI (base_Nest a a hok)) rfl ⟨.inr ⟨rfl, rfl⟩, .inl rfl, trivial⟩) ⟨VLe.refl _, rfl, VLe.refl _, rfl, trivial⟩) <|
   td_det rfl rfl (det_not rfl rfl) <|
   td_det rfl rfl (det_move rfl rfl) <|
   td_lazy [] rfl rfl rfl rfl gv1 trivial (fun g4_4 => det_load_agg rfl agg25 rfl (ptr_row 4 rfl) rfl) rfl <|
   td_lazy [] rfl rfl rfl rfl gv1 trivial (fun g4_4 => det_load_agg rfl agg25 rfl (ptr_row 3 rfl) rfl) rfl <|
   td_lazy [(27, _), (28, _)] rfl rfl rfl rfl gv1 ⟨rfl, rfl, rfl, rfl, trivial⟩ (fun g4_4 => det_call rfl ok53 (upI (loopnest_Same a b hok hok2)) ⟨VLe.refl _, rfl, VLe.refl _, rfl, trivial⟩) rfl <|
   td_lazy [] rfl rfl rfl rfl gv1 trivial (fun g4_4 => det_load_agg rfl agg25 rfl (ptr_row 4 rfl) rfl) rfl <|
   td_lazy [] rfl rfl rfl rfl gv1 trivial (fun g4_4 => det_load_agg rfl agg25 rfl (ptr_row 3 rfl) rfl) rfl <|
   td_lazy [(30, _), (31, _)] rfl rfl rfl rfl gv1 ⟨rfl, rfl, rfl, rfl, trivial⟩ (fun g4_4 => det_call rfl ok43 (upI (base_Nest a b hok)) ⟨VLe.refl _, rfl, VLe.refl _, rfl, trivial⟩) rfl <|
   td_lazy [(29, _), (32, _)] rfl rfl rfl rfl gv1 ⟨rfl, rfl, rfl, rfl, trivial⟩ (fun g4_4 => det_bneq rfl un4 rfl rfl) rfl <|
   td_det rfl rfl (det_or rfl rfl rfl rfl (fun h => (lzf h))) <|
   td_det rfl rfl (det_move rfl rfl) <|
   td_lazy [] rfl rfl rfl rfl gv1 trivial (fun g4_13 => det_load_agg rfl agg25 rfl (ptr_row 4 rfl) rfl) rfl <|
   td_lazy [] rfl rfl rfl rfl gv1 trivial (fun g4_13 => det_load_agg rfl agg25 rfl (ptr_row 0 rfl) rfl) rfl <|
   td_lazy [(36, _), (37, _)] rfl rfl rfl rfl gv1 ⟨rfl, rfl, rfl, rfl, trivial⟩ (fun g4_13 => det_call_regd 2 rfl rfl ok53 (Con.lendReg (args' := [vNs a, q.2.v]) (cs := a.cells) (us := q.2.vals) (upI (loopnest_Same a a hok hok)) rfl ⟨.inl rfl, .inr ⟨rfl, rfl⟩, trivial⟩) ⟨VLe.refl _, rfl, VLe.refl _, rfl, trivial⟩) rfl <|
   td_lazy [(38, _)] rfl rfl rfl rfl gv1 ⟨rfl, rfl, trivial⟩ (fun g4_13 => det_not rfl rfl) rfl <|
   td_det rfl rfl (det_or rfl rfl rfl rfl (fun h => (lzf h))) <|
   td_nil <|
   rwp_nil <|
   awp_cond rfl (fun c2 => ?_) (fun c2 => ?_)
  ·try simp only [sx] at c2
   refine sReg rfl <|
    rMv rfl <|
    rwp_nil <|
    awp_ret <|
    fin1 (rs_c rfl) ?_
   simp at c2
  ·try simp only [sx] at c2
   refine awp_kp (cs := a.cells) (vs := q.2.vals) 2 rfl fun w0 => ⟨[_, _, _, _, _], ⟨.inr (.inr ⟨_, _, rfl, rfl⟩), .inl rfl, .inr (.inl ⟨rfl, rfl⟩), .inl rfl, .inl rfl, trivial⟩, ?_⟩
   refine awp_skip <|
    awp_seq <|
    sReg rfl <|
    rMv rfl <|
    rwp_nil <|
    awp_block <|
    awp_weak ⟨[(7, .c _), (2, .c _), (5, .c _), (6, .c _)], [_, _, _, _]⟩ (Weak.mk [true, true, true, false, true] ⟨VLe.of_eq rfl, VLe.of_eq rfl, VLe.of_eq rfl, VLe.of_eq rfl, trivial⟩ rfl) <|
    awp_loop_k 1 3 rfl rfl (Nat) (fun k => [(7, vI k)]) (fun k => [E.row b4 25 (a.cells.map (Gc w0 q.1 0)), E.row b3 25 a.cells, E.reg q.1 (Kp w0 q.1 k)]) (fun k => k ≤ a.Bufs.length) (fun k => a.Bufs.length - k) ⟨0, (by omega), Weak.mk [true, true, true, true] ⟨VLe.refl _, VLe.refl _, VLe.refl _, VLe.refl _, trivial⟩ rfl⟩ ?_
   rintro k hk
   refine awp_seq <|
    sReg rfl <|
    rMv rfl <|
    rwp_det rfl rfl (det_field_lit rfl fd25_0 rfl) <|
    rwp_det rfl rfl (det_load_one rfl one22 rfl (ptr_row 0 rfl) rfl) <|
    rwp_det rfl rfl (det_len_gm rfl el22 rfl) <|
    rwp_det rfl rfl (det_lss rfl rfl rfl) <|
    rwp_nil <|
    awp_cond rfl (fun c3 => ?_) (fun c3 => ?_)
   ·try simp only [sx] at c3
    obtain ⟨x, hx⟩ := ex_get a.Bufs k (by omega)
    have hxd := hok.dims x (mem_of_get hx)
    have hxs := few_name k2 (mem_of_get hx)
    refine awp_skip <|
     awp_seq <|
     awp_block <|
     awp_seq <|
     sReg rfl <|
     rMv rfl <|
     rwp_nil <|
     awp_block <|
     awp_weak ⟨[(8, .c _), (2, .c _), (5, .c _), (6, .c _), (7, .c _)], [_, _, _, _]⟩ (Weak.mk [true, true, true, true] ⟨VLe.of_eq rfl, VLe.of_eq rfl, VLe.of_eq rfl, VLe.of_eq rfl, VLe.of_eq rfl, trivial⟩ rfl) <|
     awp_loop_k 1 0 rfl rfl (Nat) (fun j => [(8, vI j)]) (fun j => []) (fun j => j ≤ x.Dims.length) (fun j => x.Dims.length - j) ⟨0, (by omega), Weak.mk [true, true, true, true] ⟨VLe.refl _, VLe.refl _, VLe.refl _, VLe.refl _, VLe.refl _, trivial⟩ rfl⟩ ?_
    rintro j hj
    refine awp_seq <|
     sReg rfl <|
     rMv rfl <|
     rwp_det rfl rfl (det_field_lit rfl fd25_0 rfl) <|
     rwp_det rfl rfl (det_load_one rfl one22 rfl (ptr_row 0 rfl) rfl) <|
     rMv rfl <|
     rwp_det rfl rfl (det_index_g rfl el22 rfl rfl (by omega) (getm (by assumption))) <|
     rwp_det rfl rfl (det_field_g rfl fd42_2 rfl) <|
     rwp_det rfl rfl (det_load_one rfl one33 rfl (ptr_g 2 rfl) rfl) <|
     rwp_det rfl rfl (det_len_gm rfl el33 rfl) <|
     rwp_det rfl rfl (det_lss rfl rfl rfl) <|
     rwp_nil <|
     awp_cond rfl (fun c4 => ?_) (fun c4 => ?_)
    ·try simp only [sx] at c4
     obtain ⟨y, hy⟩ := ex_get x.Dims j (by omega)
     refine awp_skip <|
      awp_seq <|
      awp_block <|
      awp_region rfl <|
      rwp_det rfl rfl (det_field_lit rfl fd25_0 rfl) <|
      rwp_det rfl rfl (det_load_one rfl one22 rfl (ptr_row 0 rfl) rfl) <|
      rMv rfl <|
      rwp_det rfl rfl (det_index_g rfl el22 rfl rfl (by omega) (getm (by assumption))) <|
      rwp_det rfl rfl (det_field_g rfl fd42_2 rfl) <|
      rwp_det rfl rfl (det_load_one rfl one33 rfl (ptr_g 2 rfl) rfl) <|
      rMv rfl <|
      rwp_det rfl rfl (det_index_g rfl el33 rfl rfl (by omega) (getm (by assumption))) <|
      rwp_det rfl rfl (det_load_one rfl one3 rfl (ptr_g 2 rfl) rfl) <|
      rwp_det rfl rfl (det_add_g rfl rfl rfl) <|
      rwp_det rfl rfl (det_index_g rfl el33 rfl rfl (by omega) (getm (by assumption))) <|
      rwp_det0 rfl rfl (det_store rfl sz3 rfl rfl rfl (st_g 2 rfl (Nat.le_refl _))) <|
      rwp_nil <|
      awp_region rfl <|
      rMv rfl <|
      rwp_det rfl rfl (det_add_nw rfl rfl rfl ⟨by omega, by omega⟩) <|
      rMv rfl <|
      rwp_nil ?_
     refine ⟨j + 1, (by omega), (by omega), Weak.mk [true, true, true, true] ⟨VLe.refl _, VLe.refl _, VLe.refl _, VLe.refl _, VLe.refl _, trivial⟩ rfl⟩
    ·try simp only [sx] at c4
     refine awp_exit <|
      awp_draw 12 mixed (by kernel_rfl) rfl rfl <|
      td_det rfl rfl (det_field_lit rfl fd25_0 rfl) <|
      td_det rfl rfl (det_load_one rfl one22 rfl (ptr_row 0 rfl) rfl) <|
      td_det rfl rfl (det_move rfl rfl) <|
      td_det rfl rfl (det_field_lit rfl fd25_0 rfl) <|
      td_det rfl rfl (det_load_one rfl one22 rfl (ptr_row 0 rfl) rfl) <|
      td_det rfl rfl (det_move rfl rfl) <|
      td_det rfl rfl (det_index_g rfl el22 rfl rfl (by omega) (getm (by assumption))) <|
      td_det rfl rfl (det_field_g rfl fd42_0 rfl) <|
      td_det rfl rfl (det_load_one rfl one9 rfl (ptr_g 2 rfl) rfl) <|
      td_det rfl rfl (det_sadd_g rfl rfl rfl (by have h1 : (ByteArray.mk #[120]).size = 1 := rfl; rw [h1]; omega)) <|
      td_det rfl rfl (det_index_g rfl el22 rfl rfl (by omega) (getm (by assumption))) <|
      td_det rfl rfl (det_field_g rfl fd42_0 rfl) <|
      td_nil <|
      rwp_det0 rfl rfl (det_store rfl sz9 rfl rfl rfl (st_g 2 rfl (Nat.le_add_right _ _))) <|
      rwp_nil <|
      awp_region rfl <|
      rMv rfl <|
      rwp_det rfl rfl (det_add_nw rfl rfl rfl ⟨by omega, by omega⟩) <|
      rMv rfl <|
      rwp_nil ?_
     refine ⟨k + 1, (by omega), (by omega), Weak.mk [true, true, true, true] ⟨VLe.refl _, VLe.refl _, VLe.refl _, VLe.refl _, trivial⟩ rfl⟩
   ·try simp only [sx] at c3
    have hke : k = a.Bufs.length := by omega
    subst hke
    refine awp_exit <|
     sReg rfl <|
     rwp_det rfl rfl (det_field_lit rfl fd25_1 rfl) <|
     rwp_det rfl rfl (det_load_one rfl one23 rfl (ptr_row 0 rfl) rfl) <|
     rwp_op rfl rfl (ope_call_reg 2 rfl rfl ok54 (upI (law30_spoil w0 q.1 0 a.Bufs.length a.Body (by omega))) ⟨VLe.refl _, rfl, trivial⟩) ?_
    rintro _ _ ⟨rfl, rfl⟩
    refine rwp_nil <|
     sReg rfl <|
     rwp_det rfl rfl (det_load_agg rfl agg25 rfl (ptr_row 3 rfl) rfl) <|
     rwp_det rfl rfl (det_load_agg rfl agg25 rfl (ptr_row 1 rfl) rfl) <|
     rwp_det rfl rfl (det_call rfl ok43 (upI (base_Nest a a hok)) ⟨VLe.refl _, rfl, VLe.refl _, rfl, trivial⟩) <|
     rMv rfl <|
     rLz [] rfl gv1 trivial (fun g15_3 => det_call rfl ok21 law30_live trivial) rfl <|
     rwp_det rfl rfl (det_and rfl rfl rfl (fun h => h) rfl) <|
     rMv rfl <|
     rwp_nil <|
     awp_ret <|
     fin1 (rs_c rfl) ?_
    exact congrArg vB (by simp)

end Go.W
