/-
  Walks: what functions of the program compute. Printed by wip/gen/mk2.py.
  Conditions: none.
-/
import Derived.Test.YtdbflnlalkfeeaaGreatDoorNB
import Derived.Test.YtdbflnlalkfeeaaGreatDoorPlain2
import Derived.Test.YtdbflnlalkfeeaaGreatDoorEngZ
set_option linter.unusedSimpArgs false
set_option linter.unusedVariables false
set_option maxRecDepth 10000
namespace Go.W
open Go Go.Eng Go.Proofs Go.L41 Go.Br
attribute [local irreducible] AWP RWP TD finQ

abbrev vBds (l : List Bd) : V := .c (.sl 2 (l.map Bd.cells))
abbrev ckC (x : Ck) : V := .agg [.sl 1 (x.U.map fun s => [cS s]), .sl 1 (x.W.map fun i => [cI i]), cI x.E]
theorem bd_get {l : List Bd} {k : Nat} {x : Bd} (h : l[k]? = some x) : (l.map Bd.cells)[k]? = some [cS x.Name, cI x.Val] := by rw [getm h]; rfl
theorem agg106 : aggT Tryz.prog 106 = some 3 := by kernel_rfl
theorem el67 : elemT Tryz.prog 67 = some (70, 2, 24) := by kernel_rfl
theorem fd70_0 : fieldT Tryz.prog 70 0 = some (0, 9) := by kernel_rfl
theorem fd106_0 : fieldT Tryz.prog 106 0 = some (0, 72) := by kernel_rfl
theorem fd106_1 : fieldT Tryz.prog 106 1 = some (1, 33) := by kernel_rfl
theorem fd106_2 : fieldT Tryz.prog 106 2 = some (2, 29) := by kernel_rfl
theorem ok30 : callOk Tryz.prog 30 = true := by kernel_rfl
theorem ok64 : callOk Tryz.prog 64 = true := by kernel_rfl
theorem ok65 : callOk Tryz.prog 65 = true := by kernel_rfl
theorem ok114 : callOk Tryz.prog 114 = true := by kernel_rfl
theorem ok151 : callOk Tryz.prog 151 = true := by kernel_rfl
theorem ok152 : callOk Tryz.prog 152 = true := by kernel_rfl
theorem ok154 : callOk Tryz.prog 154 = true := by kernel_rfl
theorem ok186 : callOk Tryz.prog 186 = true := by kernel_rfl
theorem ok187 : callOk Tryz.prog 187 = true := by kernel_rfl
theorem ok188 : callOk Tryz.prog 188 = true := by kernel_rfl
theorem ok216 : callOk Tryz.prog 216 = true := by kernel_rfl
theorem ok217 : callOk Tryz.prog 217 = true := by kernel_rfl
theorem pl70 : placesT Tryz.prog 70 = some [(0, 1), (1, 1)] := by kernel_rfl
theorem pl106 : placesT Tryz.prog 106 = some [(0, 1), (1, 1), (2, 1)] := by kernel_rfl
theorem sz106 : (Tryz.prog.info? 106).map (·.size) = some 3 := by kernel_rfl
theorem zr70 : zeroT Tryz.prog 70 = some [(Value.string (ByteArray.mk #[])), (Value.int IntKind.i64 0)] := by kernel_rfl
theorem zr106 : zeroT Tryz.prog 106 = some [(Value.slice none 0 0), (Value.slice none 0 0), (Value.int IntKind.i64 0)] := by kernel_rfl
theorem ref30_bound (l : List Lf) (bd : List Bd) (hl : l.length ≤ 4294967296) (hx : ∀ x, x ∈ l → x.L.length ≤ 4294967296) (hb : bd.length ≤ 4294967296) :
    Pur cfg 216 [vLins l, vBds bd] (vB (l.all (inSc (bd.map Bd.Name)))) := by
 refine con_intro Tryz.func216 rfl Tryz.ntmps216 Tryz.results216 rfl ?_
 intro z hz
 have hl0 := hx
 clear hx
 refine sReg rfl <|
  rMv rfl <|
  rwp_nil <|
  awp_seq <|
  sReg rfl <|
  rMv rfl <|
  rwp_nil <|
  awp_block <|
  awp_weak ⟨[(5, .c _), (0, .c _), (1, .c _)], []⟩ (Weak.mk [] ⟨VLe.of_eq rfl, VLe.of_eq rfl, VLe.of_eq rfl, trivial⟩ rfl) <|
  awp_loop_k 1 0 rfl rfl (Nat) (fun k => [(5, vI k)]) (fun k => []) (fun k => k ≤ l.length ∧ ((l.take k).all (inSc (bd.map Bd.Name)) = true)) (fun k => l.length - k) ⟨0, ⟨by omega, rfl⟩, Weak.mk [] ⟨VLe.refl _, VLe.refl _, VLe.refl _, trivial⟩ rfl⟩ ?_
 rintro k ⟨hk, hp⟩
 refine awp_seq <|
  sReg rfl <|
  rMv rfl <|
  rMv rfl <|
  rwp_det rfl rfl (det_len_slm rfl el112 rfl) <|
  rwp_det rfl rfl (det_lss rfl rfl rfl) <|
  rwp_nil <|
  awp_cond rfl (fun c1 => ?_) (fun c1 => ?_)
 ·try simp only [sx] at c1
  obtain ⟨x, hx⟩ := ex_get l k (by omega)
  have hxl := hl0 x (mem_of_get hx)
  refine awp_skip <|
   awp_seq <|
   awp_block <|
   sReg rfl <|
   rMv rfl <|
   rwp_nil <|
   awp_block <|
   awp_weak ⟨[(6, .c _), (0, .c _), (1, .c _), (5, .c _)], []⟩ (Weak.mk [] ⟨VLe.of_eq rfl, VLe.of_eq rfl, VLe.of_eq rfl, VLe.of_eq rfl, trivial⟩ rfl) <|
   awp_loop_k 1 0 rfl rfl (Nat) (fun j => [(6, vI j)]) (fun j => []) (fun j => j ≤ x.L.length ∧ (x.L.take j).all (fun m => hasB (bd.map Bd.Name) m.Name) = true) (fun j => x.L.length - j) ⟨0, ⟨by omega, rfl⟩, Weak.mk [] ⟨VLe.refl _, VLe.refl _, VLe.refl _, VLe.refl _, trivial⟩ rfl⟩ ?_
  rintro j ⟨hj, hq⟩
  refine awp_seq <|
   sReg rfl <|
   rMv rfl <|
   rMv rfl <|
   rMv rfl <|
   rwp_det rfl rfl (det_index_sl rfl el112 rfl rfl (by omega) (getm hx)) <|
   rwp_det rfl rfl (det_field_imm rfl fd49_1 rfl) <|
   rwp_det rfl rfl (det_load_one rfl one47 rfl ptr_imm rfl) <|
   rwp_det rfl rfl (det_len_slm rfl el47 rfl) <|
   rwp_det rfl rfl (det_lss rfl rfl rfl) <|
   rwp_nil <|
   awp_cond rfl (fun c2 => ?_) (fun c2 => ?_)
  ·try simp only [sx] at c2
   obtain ⟨m, hm⟩ := ex_get x.L j (by omega)
   refine awp_skip <|
    awp_seq <|
    awp_block <|
    sReg rfl <|
    rMv rfl <|
    rwp_nil <|
    awp_seq <|
    sReg rfl <|
    rMv rfl <|
    rwp_nil <|
    awp_block <|
    awp_weak ⟨[(8, .c _), (7, .c _), (0, .c _), (1, .c _), (5, .c _), (6, .c _)], []⟩ (Weak.mk [] ⟨VLe.of_eq rfl, VLe.of_eq rfl, VLe.of_eq rfl, VLe.of_eq rfl, VLe.of_eq rfl, VLe.of_eq rfl, trivial⟩ rfl) <|
    awp_loop_k 2 0 rfl rfl (Nat) (fun i => [(8, vI i), (7, vB ((bd.take i).any fun d => decide (d.Name = m.Name)))]) (fun i => []) (fun i => i ≤ bd.length) (fun i => bd.length - i) ⟨0, (by omega), Weak.mk [] ⟨VLe.refl _, VLe.of_eq (rfl), VLe.refl _, VLe.refl _, VLe.refl _, VLe.refl _, trivial⟩ rfl⟩ ?_
   rintro i hi
   refine awp_seq <|
    sReg rfl <|
    rMv rfl <|
    rMv rfl <|
    rwp_det rfl rfl (det_len_slm rfl el67 rfl) <|
    rwp_det rfl rfl (det_lss rfl rfl rfl) <|
    rwp_nil <|
    awp_cond rfl (fun c3 => ?_) (fun c3 => ?_)
   ·try simp only [sx] at c3
    obtain ⟨d, hd⟩ := ex_get bd i (by omega)
    refine awp_skip <|
     awp_seq <|
     awp_block <|
     awp_draw 19 mixed (by kernel_rfl) rfl rfl <|
     td_det rfl rfl (det_move rfl rfl) <|
     td_det rfl rfl (det_move rfl rfl) <|
     td_lazy [] rfl rfl rfl rfl gv1 trivial (fun g11_1 => det_move rfl rfl) rfl <|
     td_lazy [] rfl rfl rfl rfl gv1 trivial (fun g11_1 => det_move rfl rfl) rfl <|
     td_lazy [(33, _), (34, _)] rfl rfl rfl rfl gv1 ⟨rfl, rfl, rfl, rfl, trivial⟩ (fun g11_1 => det_index_sl rfl el67 rfl rfl (by omega) (bd_get hd)) rfl <|
     td_lazy [(35, _)] rfl rfl rfl rfl gv1 ⟨rfl, rfl, trivial⟩ (fun g11_1 => det_field_imm rfl fd70_0 rfl) rfl <|
     td_lazy [(36, _)] rfl rfl rfl rfl gv1 ⟨rfl, rfl, trivial⟩ (fun g11_1 => det_load_one rfl one9 rfl ptr_imm rfl) rfl <|
     td_lazy [] rfl rfl rfl rfl gv1 trivial (fun g11_1 => det_move rfl rfl) rfl <|
     td_lazy [] rfl rfl rfl rfl gv1 trivial (fun g11_1 => det_move rfl rfl) rfl <|
     td_lazy [(38, _), (39, _)] rfl rfl rfl rfl gv1 ⟨rfl, rfl, rfl, rfl, trivial⟩ (fun g11_1 => det_index_sl rfl el112 rfl rfl (by omega) (getm hx)) rfl <|
     td_lazy [(40, _)] rfl rfl rfl rfl gv1 ⟨rfl, rfl, trivial⟩ (fun g11_1 => det_field_imm rfl fd49_1 rfl) rfl <|
     td_lazy [(41, _)] rfl rfl rfl rfl gv1 ⟨rfl, rfl, trivial⟩ (fun g11_1 => det_load_one rfl one47 rfl ptr_imm rfl) rfl <|
     td_lazy [] rfl rfl rfl rfl gv1 trivial (fun g11_1 => det_move rfl rfl) rfl <|
     td_lazy [(42, _), (43, _)] rfl rfl rfl rfl gv1 ⟨rfl, rfl, rfl, rfl, trivial⟩ (fun g11_1 => det_index_sl rfl el47 rfl rfl (by omega) (getm hm)) rfl <|
     td_lazy [(44, _)] rfl rfl rfl rfl gv1 ⟨rfl, rfl, trivial⟩ (fun g11_1 => det_field_imm rfl fd111_0 rfl) rfl <|
     td_lazy [(45, _)] rfl rfl rfl rfl gv1 ⟨rfl, rfl, trivial⟩ (fun g11_1 => det_load_one rfl one9 rfl ptr_imm rfl) rfl <|
     td_lazy [(37, _), (46, _)] rfl rfl rfl rfl gv1 ⟨rfl, rfl, rfl, rfl, trivial⟩ (fun g11_1 => det_seql rfl rfl rfl) rfl <|
     td_det rfl rfl (det_or rfl rfl rfl rfl (fun h => (lzf h))) <|
     td_det rfl rfl (det_assign rfl rfl) <|
     td_nil <|
     rwp_nil <|
     awp_region rfl <|
     rMv rfl <|
     rwp_det rfl rfl (det_add_nw rfl rfl rfl ⟨by omega, by omega⟩) <|
     rMv rfl <|
     rwp_nil ?_
    refine ⟨i + 1, (by omega), (by omega), Weak.mk [] ⟨VLe.refl _, VLe.of_eq (congrArg vB (any_step hd)), VLe.refl _, VLe.refl _, VLe.refl _, VLe.refl _, trivial⟩ rfl⟩
   ·try simp only [sx] at c3
    rw [take_all (l := bd) (k := i) (by omega), any_hasB]
    refine awp_exit <|
     sReg rfl <|
     rMv rfl <|
     rwp_det rfl rfl (det_not rfl rfl) <|
     rwp_nil <|
     awp_cond rfl (fun c4 => ?_) (fun c4 => ?_)
    ·try simp only [sx] at c4
     have hno := bound_no hx hm c4
     refine sReg rfl <|
      rMv rfl <|
      rwp_nil <|
      awp_ret <|
      fin1 (rs_c rfl) ?_
     rw [hno]
    ·try simp only [sx] at c4
     refine awp_skip <|
      awp_region rfl <|
      rMv rfl <|
      rwp_det rfl rfl (det_add_nw rfl rfl rfl ⟨by omega, by omega⟩) <|
      rMv rfl <|
      rwp_nil ?_
     refine ⟨j + 1, ⟨by omega, allP_next hm hq c4⟩, (by omega), Weak.mk [] ⟨VLe.refl _, VLe.refl _, VLe.refl _, VLe.refl _, trivial⟩ rfl⟩
  ·try simp only [sx] at c2
   rw [take_all (l := x.L) (k := j) (by omega)] at hq
   refine awp_exit <|
    awp_region rfl <|
    rMv rfl <|
    rwp_det rfl rfl (det_add_nw rfl rfl rfl ⟨by omega, by omega⟩) <|
    rMv rfl <|
    rwp_nil ?_
   refine ⟨k + 1, ⟨by omega, allP_next hx hp (show inSc _ x = true from hq)⟩, (by omega), Weak.mk [] ⟨VLe.refl _, VLe.refl _, VLe.refl _, trivial⟩ rfl⟩
 ·try simp only [sx] at c1
  refine awp_exit <|
   sReg rfl <|
   rMv rfl <|
   rwp_nil <|
   awp_ret <|
   fin1 (rs_c rfl) ?_
  rw [take_all (by omega)] at hp; rw [hp]

theorem ref30_lins (l : List Ix) (hl : l.length ≤ 4294967296) (hw : idxWt l ≤ 4294967296) :
    OwnR cfg 217 [vIndices l] 49 2 ((l.flatMap ixF).map Lf.cells) := by
 refine con_intro Tryz.func217 rfl Tryz.ntmps217 Tryz.results217 rfl ?_
 intro z hz
 refine sReg rfl <|
  rMv rfl <|
  rwp_nil <|
  sReg rfl <|
  rMv rfl <|
  rwp_weak _ (weak_own 49 2) <|
  rwp_nil <|
  awp_seq <|
  sReg rfl <|
  rMv rfl <|
  rwp_nil <|
  awp_block <|
  awp_weak ⟨[(4, .c _), (3, .c _), (0, .c _)], [_]⟩ (Weak.mk [true] ⟨VLe.of_eq rfl, VLe.of_eq rfl, VLe.of_eq rfl, trivial⟩ rfl) <|
  awp_loop_k 2 1 rfl rfl (Nat × Value) (fun ⟨k, sv⟩ => [(4, vI k), (3, .c (.lit sv))]) (fun ⟨k, sv⟩ => [E.vec sv 49 2 (((l.take k).flatMap ixF).map Lf.cells)]) (fun ⟨k, sv⟩ => k ≤ l.length) (fun ⟨k, sv⟩ => l.length - k) ⟨⟨0, (.slice none 0 0)⟩, (by omega), Weak.mk [true] ⟨VLe.refl _, VLe.refl _, VLe.refl _, trivial⟩ rfl⟩ ?_
 rintro ⟨k, sv⟩ hk
 show AWP _ _ _ _ _ ⟨[(4, vI k), (3, .c (.lit sv))] ++ _, [E.vec sv 49 2 (((l.take k).flatMap ixF).map Lf.cells)] ++ _⟩
 refine awp_seq <|
  sReg rfl <|
  rMv rfl <|
  rMv rfl <|
  rwp_det rfl rfl (det_len_slm rfl el44 rfl) <|
  rwp_det rfl rfl (det_lss rfl rfl rfl) <|
  rwp_nil <|
  awp_cond rfl (fun c1 => ?_) (fun c1 => ?_)
 ·try simp only [sx] at c1
  obtain ⟨x, hx⟩ := ex_get l k (by omega)
  have hfl := ixs_len l k
  have hxw := idxWt_mem (mem_of_get hx)
  unfold Ix.wt at hxw
  refine awp_skip <|
   awp_seq <|
   awp_block <|
   sReg rfl <|
   rMv rfl <|
   rMv rfl <|
   rMv rfl <|
   rwp_det rfl rfl (det_index_sl rfl el44 rfl rfl (by omega) (getm (by assumption))) <|
   rwp_det rfl rfl (det_field_imm rfl fd114_0 rfl) <|
   rwp_det rfl rfl (det_load_agg rfl agg49 rfl ptr_imm rfl) <|
   rwp_det rfl rfl (det_bslice rfl el112 zr49 rfl rfl rfl rfl) <|
   rwp_op rfl rfl (ope_append 0 rfl el112 rfl rfl rfl (by simp only [List.length_map, List.length_append, List.length_cons, List.length_nil]; omega) (by simp only [List.length_map, List.length_append, List.length_cons, List.length_nil]; omega)) ?_
  rintro _ _ ⟨sv2, rfl, rfl⟩
  refine rMv rfl <|
   rwp_nil <|
   awp_region rfl <|
   rMv rfl <|
   rMv rfl <|
   rMv rfl <|
   rwp_det rfl rfl (det_index_sl rfl el44 rfl rfl (by omega) (getm (by assumption))) <|
   rwp_det rfl rfl (det_field_imm rfl fd114_2 rfl) <|
   rwp_det rfl rfl (det_load_one rfl one112 rfl ptr_imm rfl) <|
   rwp_op rfl rfl (ope_append 0 rfl el112 rfl rfl rfl (by simp only [List.length_map, List.length_append, List.length_cons, List.length_nil]; omega) (by simp only [List.length_map, List.length_append, List.length_cons, List.length_nil]; omega)) ?_
  rintro _ _ ⟨sv3, rfl, rfl⟩
  refine rMv rfl <|
   rwp_nil <|
   awp_region rfl <|
   rMv rfl <|
   rwp_det rfl rfl (det_add_nw rfl rfl rfl ⟨by omega, by omega⟩) <|
   rMv rfl <|
   rwp_nil ?_
  refine ⟨⟨k + 1, sv3⟩, (by omega), (by show l.length - (k + 1) < l.length - k; omega), Weak.mk [true] ⟨VLe.refl _, VLe.refl _, VLe.refl _, trivial⟩ (by exact mem1_eq (by rw [take_next hx, List.flatMap_append, List.map_append]; simp [ixF]; rfl))⟩
 ·try simp only [sx] at c1
  refine awp_exit <|
   sReg rfl <|
   rMv rfl <|
   rMv rfl <|
   rwp_nil <|
   awp_ret <|
   fin1 (rs_c rfl) ?_
  exact ⟨_, rfl, by rw [take_all (by omega)]; rfl⟩

theorem ref30_node (n : Ns) (bd : List Bd) (e : Ex) (hn : n.Ok) (hb : bd.length ≤ 1000000) (he : e.wt ≤ 1073741824) :
    Pur cfg 187 [vNs n, vBds bd, vE e] (vI (nodeN n.Bufs (bd.map Bd.Name) e)) := by
 refine con_intro Tryz.func187 rfl Tryz.ntmps187 Tryz.results187 rfl ?_
 intro z hz
 obtain ⟨hL, hI, hA⟩ := e.parts he
 have hwt := Ex.wt_eq e
 refine sReg rfl <|
  rwp_op rfl rfl (ope_box rfl rfl) ?_
 rintro _ _ ⟨b1, rfl, rfl⟩
 refine rwp_op rfl rfl (ope_box rfl rfl) ?_
 rintro _ _ ⟨b2, rfl, rfl⟩
 refine rMv rfl <|
  rwp_nil <|
  awp_seq <|
  sReg rfl <|
  rwp_det rfl rfl (det_field_lit rfl fd52_4 rfl) <|
  rwp_det rfl rfl (det_load_agg rfl agg49 rfl (ptr_row 0 rfl) rfl) <|
  rwp_det rfl rfl (det_bslice rfl el112 zr49 rfl rfl rfl rfl) <|
  rMv rfl <|
  rwp_det rfl rfl (det_call rfl ok216 (ref30_bound [e.Lin] bd (by simp) (by simp; omega) (by omega)) ⟨VLe.refl _, rfl, VLe.refl _, rfl, trivial⟩) <|
  rwp_det rfl rfl (det_not rfl rfl) <|
  rMv rfl <|
  rLz [] rfl gv1 trivial (fun g1_6 => det_field_lit rfl fd52_5 rfl) rfl <|
  rLz [(19, _)] rfl gv1 ⟨rfl, rfl, trivial⟩ (fun g1_6 => det_load_one rfl one44 rfl (ptr_row 0 rfl) rfl) rfl <|
  rLz [(20, _)] rfl gv1 ⟨rfl, rfl, trivial⟩ (fun g1_6 => det_call rfl ok217 (OwnR.pur (ref30_lins e.Idx (by omega) (by omega))) ⟨VLe.refl _, rfl, trivial⟩) rfl <|
  rLz [] rfl gv1 trivial (fun g1_6 => det_move rfl rfl) rfl <|
  rLz [(21, _), (22, _)] rfl gv1 ⟨rfl, rfl, rfl, rfl, trivial⟩ (fun g1_6 => det_call rfl ok216 (ref30_bound (e.Idx.flatMap ixF) bd (by have := ixs_len e.Idx e.Idx.length; rw [List.take_length] at this; omega) (fun x hx => by have := forms_wt he (show x ∈ formsL e by unfold formsL; exact List.mem_cons_of_mem _ hx); omega) (by omega)) ⟨VLe.refl _, rfl, VLe.refl _, rfl, trivial⟩) rfl <|
  rLz [(23, _)] rfl gv1 ⟨rfl, rfl, trivial⟩ (fun g1_6 => det_not rfl rfl) rfl <|
  rwp_det rfl rfl (det_or rfl rfl rfl rfl (fun h => (lzf h))) <|
  rwp_nil <|
  awp_cond rfl (fun c1 => ?_) (fun c1 => ?_)
 ·have h9 := node_sc_f c1
  refine sReg rfl <|
   rMv rfl <|
   rwp_nil <|
   awp_ret <|
   fin1 (rs_c rfl) ?_
  rw [nodeN_9 h9]
 ·have h9 := node_sc_t c1
  refine awp_skip <|
   awp_seq <|
   sReg rfl <|
   rwp_det rfl rfl (det_field_lit rfl fd52_0 rfl) <|
   rwp_det rfl rfl (det_load_one rfl one3 rfl (ptr_row 0 rfl) rfl) <|
   rwp_det rfl rfl (det_neq rfl rfl rfl) <|
   rwp_nil <|
   awp_cond rfl (fun c2 => ?_) (fun c2 => ?_)
  ·try simp only [sx] at c2
   refine sReg rfl <|
    rMv rfl <|
    rwp_nil <|
    awp_ret <|
    fin1 (rs_c rfl) ?_
   rw [nodeN_o h9 c2]
  ·try simp only [sx] at c2
   refine awp_skip <|
    sReg rfl <|
    rwp_det rfl rfl (det_load_agg rfl agg25 rfl (ptr_row 1 rfl) rfl) <|
    rwp_det rfl rfl (det_field_lit rfl fd52_1 rfl) <|
    rwp_det rfl rfl (det_load_one rfl one9 rfl (ptr_row 0 rfl) rfl) <|
    rwp_det rfl rfl (det_call rfl ok30 (ref30_Buffer n e.Name hn) ⟨VLe.refl _, rfl, VLe.refl _, rfl, trivial⟩) <|
    rwp_det rfl rfl (det_move_tup rfl rfl) <|
    rwp_det rfl rfl (det_ex_agg rfl rfl rfl) <|
    rwp_det rfl rfl (det_ex_c rfl rfl rfl) <|
    rwp_op rfl rfl (ope_allocN [none, none, none, none, none, none, some 1, none] rfl zr42 rfl) ?_
   rintro _ _ ⟨b3, rfl, rfl⟩
   refine rwp_det0 rfl rfl (det_store rfl sz42 rfl rfl rfl (st_row 0 rfl rfl)) <|
    rMv rfl <|
    rwp_nil <|
    awp_seq <|
    sReg rfl <|
    rMv rfl <|
    rwp_det rfl rfl (det_not rfl rfl) <|
    rwp_nil <|
    awp_cond rfl (fun c3 => ?_) (fun c3 => ?_)
   ·try simp only [sx] at c3
    refine sReg rfl <|
     rMv rfl <|
     rwp_nil <|
     awp_ret <|
     fin1 (rs_c rfl) ?_
    rw [nodeN_n h9 (by omega) c3]
   ·try simp only [sx] at c3
    refine awp_skip <|
     awp_seq <|
     sReg rfl <|
     rwp_det rfl rfl (det_field_lit rfl fd42_2 rfl) <|
     rwp_det rfl rfl (det_load_one rfl one33 rfl (ptr_row 0 rfl) rfl) <|
     rwp_det rfl rfl (det_len_slm rfl el33 rfl) <|
     rwp_det rfl rfl (det_field_lit rfl fd52_5 rfl) <|
     rwp_det rfl rfl (det_load_one rfl one44 rfl (ptr_row 1 rfl) rfl) <|
     rwp_det rfl rfl (det_len_slm rfl el44 rfl) <|
     rwp_det rfl rfl (det_neq rfl rfl rfl) <|
     rwp_nil <|
     awp_cond rfl (fun c4 => ?_) (fun c4 => ?_)
    ·try simp only [sx] at c4
     refine sReg rfl <|
      rMv rfl <|
      rwp_nil <|
      awp_ret <|
      fin1 (rs_c rfl) ?_
     rw [nodeN_r h9 (by omega) c3 (by omega)]
    ·try simp only [sx] at c4
     refine awp_skip <|
      awp_seq <|
      sReg rfl <|
      rMv rfl <|
      rwp_nil <|
      awp_block <|
      awp_weak ⟨[(9, .c _), (3, .c _), (5, .c _)], [_, _]⟩ (Weak.mk [false, true, true] ⟨VLe.of_eq rfl, VLe.of_eq rfl, VLe.of_eq rfl, trivial⟩ rfl) <|
      awp_loop_k 1 0 rfl rfl (Nat) (fun j => [(9, vI j)]) (fun j => []) (fun j => j ≤ e.Idx.length ∧ (gathL n.Bufs e.Idx = gathL n.Bufs (e.Idx.drop j))) (fun j => e.Idx.length - j) ⟨0, ⟨by omega, rfl⟩, Weak.mk [true, true] ⟨VLe.refl _, VLe.refl _, VLe.refl _, trivial⟩ rfl⟩ ?_
     rintro j ⟨hk, hq⟩
     refine awp_seq <|
      sReg rfl <|
      rMv rfl <|
      rwp_det rfl rfl (det_field_lit rfl fd52_5 rfl) <|
      rwp_det rfl rfl (det_load_one rfl one44 rfl (ptr_row 0 rfl) rfl) <|
      rwp_det rfl rfl (det_len_slm rfl el44 rfl) <|
      rwp_det rfl rfl (det_lss rfl rfl rfl) <|
      rwp_nil <|
      awp_cond rfl (fun c5 => ?_) (fun c5 => ?_)
     ·try simp only [sx] at c5
      obtain ⟨y, hy⟩ := ex_get e.Idx j (by omega)
      refine awp_skip <|
       awp_seq <|
       awp_block <|
       awp_seq <|
       sReg rfl <|
       rwp_det rfl rfl (det_field_lit rfl fd52_5 rfl) <|
       rwp_det rfl rfl (det_load_one rfl one44 rfl (ptr_row 0 rfl) rfl) <|
       rMv rfl <|
       rwp_det rfl rfl (det_index_sl rfl el44 rfl rfl (by omega) (getm (by assumption))) <|
       rwp_det rfl rfl (det_field_imm rfl fd114_1 rfl) <|
       rwp_det rfl rfl (det_load_one rfl one9 rfl ptr_imm rfl) <|
       rwp_det rfl rfl (det_seql rfl rfl rfl) <|
       rwp_nil <|
       awp_cond rfl (fun c6 => ?_) (fun c6 => ?_)
      ·try simp only [sx] at c6
       refine awp_exit <|
        awp_region rfl <|
        rMv rfl <|
        rwp_det rfl rfl (det_add_nw rfl rfl rfl ⟨by omega, by omega⟩) <|
        rMv rfl <|
        rwp_nil ?_
       refine ⟨j + 1, ⟨by omega, hq.trans (gathL_next hy (by first | exact gathE_0 c6 | exact gathE_ok c6 c7 (by omega) (by omega)))⟩, (by omega), Weak.mk [true, true] ⟨VLe.refl _, VLe.refl _, VLe.refl _, trivial⟩ rfl⟩
      ·try simp only [sx] at c6
       refine awp_skip <|
        awp_seq <|
        awp_draw_c 13 1 [⟨0, .q [2]⟩, ⟨1, .q []⟩, ⟨2, .q [1]⟩, ⟨3, .q []⟩, ⟨4, .q []⟩, ⟨5, .q []⟩, ⟨6, .q []⟩, ⟨7, .q []⟩, ⟨8, .q []⟩, ⟨9, .q []⟩, ⟨10, .q []⟩, ⟨11, .e 0 []⟩, ⟨12, .e 0 []⟩] mixed (by kernel_rfl) (by kernel_rfl) rfl rfl rfl <|
        fx_skip rfl <|
        fx_skip rfl <|
        fx_skip rfl <|
        fx_skip rfl <|
        fx_skip rfl <|
        fx_skip rfl <|
        fx_skip rfl <|
        fx_skip rfl <|
        fx_skip rfl <|
        fx_skip rfl <|
        fx_skip rfl <|
        fx_skip rfl <|
        fx_skip rfl <|
        fx_nil <|
        sq_det rfl (by decide) rfl rfl (det_load_agg rfl agg25 rfl (ptr_row 0 rfl) rfl) <|
        sq_det rfl (by decide) rfl rfl (det_field_lit rfl fd52_5 rfl) <|
        sq_det rfl (by decide) rfl rfl (det_load_one rfl one44 rfl (ptr_row 0 rfl) rfl) <|
        sq_det rfl (by decide) rfl rfl (det_move rfl rfl) <|
        sq_det rfl (by decide) rfl rfl (det_index_sl rfl el44 rfl rfl (by omega) (getm (by assumption))) <|
        sq_det rfl (by decide) rfl rfl (det_field_imm rfl fd114_1 rfl) <|
        sq_det rfl (by decide) rfl rfl (det_load_one rfl one9 rfl ptr_imm rfl) <|
        sq_det rfl (by decide) rfl rfl (det_call rfl ok30 (ref30_Buffer n y.From hn) ⟨VLe.refl _, rfl, VLe.refl _, rfl, trivial⟩) <|
        sq_det rfl (by decide) rfl rfl (det_move_tup rfl rfl) <|
        sq_det rfl (by decide) rfl rfl (det_ex_agg rfl rfl rfl) <|
        sq_det rfl (by decide) rfl rfl (det_ex_c rfl rfl rfl) <|
        sq_op rfl rfl (by decide) rfl rfl (ope_allocN [none, none, none, none, none, none, some 1, none] rfl zr42 rfl) ?_
       rintro _ _ ⟨b4, rfl, rfl⟩
       refine ⟨_, rfl, ?_⟩
       refine sq_op0 rfl rfl (by decide) rfl rfl (det_store rfl sz42 rfl rfl rfl (st_row 0 rfl rfl)) ?_
       rintro _ _ ⟨rfl, rfl⟩
       refine ⟨_, rfl, ?_⟩
       refine sq_nil rfl <|
        rMv rfl <|
        rwp_nil <|
        awp_block <|
        sReg rfl <|
        rMv rfl <|
        rwp_det rfl rfl (det_not rfl rfl) <|
        rMv rfl <|
        rwp_nil <|
        awp_cond rfl (fun c7 => ?_) (fun c7 => ?_)
       ·try simp only [sx] at c7
        refine sReg rfl <|
         rMv rfl <|
         rwp_nil <|
         awp_ret <|
         fin1 (rs_c rfl) ?_
        rw [nodeN_g h9 (by omega) c3 (by omega), hq, gathL_no hy (by rw [gathE_9 c6 c7]; decide), gathE_9 c6 c7]
       ·try simp only [sx] at c7
        refine sReg rfl <|
         rwp_det rfl rfl (det_field_lit rfl fd42_1 rfl) <|
         rwp_det rfl rfl (det_field_lit rfl fd40_0 rfl) <|
         rwp_det rfl rfl (det_load_one rfl one3 rfl (ptr_row 0 rfl) rfl) <|
         rwp_det rfl rfl (det_neq rfl rfl rfl) <|
         rMv rfl <|
         rwp_nil <|
         awp_cond rfl (fun c8 => ?_) (fun c8 => ?_)
        ·try simp only [sx] at c8
         refine sReg rfl <|
          rMv rfl <|
          rwp_nil <|
          awp_ret <|
          fin1 (rs_c rfl) ?_
         rw [nodeN_g h9 (by omega) c3 (by omega), hq, gathL_no hy (by rw [gathE_10 c6 c7 c8]; decide), gathE_10 c6 c7 c8]
        ·try simp only [sx] at c8
         refine awp_seq <|
          awp_draw 12 mixed (by kernel_rfl) rfl rfl <|
          td_det rfl rfl (det_field_lit rfl fd42_2 rfl) <|
          td_det rfl rfl (det_load_one rfl one33 rfl (ptr_row 0 rfl) rfl) <|
          td_det rfl rfl (det_len_slm rfl el33 rfl) <|
          td_det rfl rfl (det_field_lit rfl fd52_5 rfl) <|
          td_det rfl rfl (det_load_one rfl one44 rfl (ptr_row 1 rfl) rfl) <|
          td_det rfl rfl (det_move rfl rfl) <|
          td_det rfl rfl (det_index_sl rfl el44 rfl rfl (by omega) (getm (by assumption))) <|
          td_det rfl rfl (det_field_imm rfl fd114_2 rfl) <|
          td_det rfl rfl (det_load_one rfl one112 rfl ptr_imm rfl) <|
          td_det rfl rfl (det_len_slm rfl el112 rfl) <|
          td_det rfl rfl (det_neq rfl rfl rfl) <|
          td_det rfl rfl (det_assign rfl rfl) <|
          td_nil <|
          rwp_nil <|
          awp_cond rfl (fun c9 => ?_) (fun c9 => ?_)
         ·try simp only [sx] at c9
          refine sReg rfl <|
           rMv rfl <|
           rwp_nil <|
           awp_ret <|
           fin1 (rs_c rfl) ?_
          rw [nodeN_g h9 (by omega) c3 (by omega), hq, gathL_no hy (by rw [gathE_11 c6 c7 c8 (by omega)]; decide), gathE_11 c6 c7 c8 (by omega)]
         ·try simp only [sx] at c9
          refine awp_skip <|
           awp_region rfl <|
           rMv rfl <|
           rwp_det rfl rfl (det_add_nw rfl rfl rfl ⟨by omega, by omega⟩) <|
           rMv rfl <|
           rwp_nil ?_
          refine ⟨j + 1, ⟨by omega, hq.trans (gathL_next hy (by first | exact gathE_0 c6 | exact gathE_ok c6 c7 (by omega) (by omega)))⟩, (by omega), Weak.mk [false, true, true] ⟨VLe.refl _, VLe.refl _, VLe.refl _, trivial⟩ rfl⟩
     ·try simp only [sx] at c5
      refine awp_exit <|
       sReg rfl <|
       rMv rfl <|
       rwp_nil <|
       awp_ret <|
       fin1 (rs_c rfl) ?_
      rw [nodeN_g h9 (by omega) c3 (by omega), hq, drop_end (by omega)]; rfl

theorem ref30_Kind_step (n : Ns) (hn : n.Ok) (e : Ex) (ih : ∀ a, a ∈ e.Args → partE a = 0 → a.wt ≤ 1073741824 → Pur cfg 188 [vNs n, vE a] (.tup [vTy (nodeT (kiN n.Bufs) a).1, vI (nodeT (kiN n.Bufs) a).2])) (hpart : partE e = 0) (he : e.wt ≤ 1073741824) :
    Pur cfg 188 [vNs n, vE e] (.tup [vTy (nodeT (kiN n.Bufs) e).1, vI (nodeT (kiN n.Bufs) e).2]) := by
 refine con_intro Tryz.func188 rfl Tryz.ntmps188 Tryz.results188 rfl ?_
 intro z hz
 obtain ⟨hLl, hIl, hAl⟩ := e.parts he
 have hwt := Ex.wt_eq e
 refine sReg rfl <|
  rwp_op rfl rfl (ope_box rfl rfl) ?_
 rintro _ _ ⟨b1, rfl, rfl⟩
 refine rwp_op rfl rfl (ope_box rfl rfl) ?_
 rintro _ _ ⟨b2, rfl, rfl⟩
 refine rwp_op rfl rfl (ope_alloc rfl zr40) ?_
 rintro _ _ ⟨b3, rfl, rfl⟩
 refine rMv rfl <|
  rwp_nil <|
  sReg rfl <|
  rMv rfl <|
  rwp_weak _ (weak_own 40 5) <|
  rwp_nil <|
  awp_seq <|
  sReg rfl <|
  rMv rfl <|
  rwp_nil <|
  awp_block <|
  awp_weak ⟨[(7, .c _), (6, .c _), (2, .c _), (3, .c _), (4, .c _)], [_, _, _, _]⟩ (Weak.mk [true, true, true, true] ⟨VLe.of_eq rfl, VLe.of_eq rfl, VLe.of_eq rfl, VLe.of_eq rfl, VLe.of_eq rfl, trivial⟩ rfl) <|
  awp_loop_k 2 1 rfl rfl (Nat × Value) (fun ⟨k, sv⟩ => [(7, vI k), (6, .c (.lit sv))]) (fun ⟨k, sv⟩ => [E.vec sv 40 5 ((nonC (e.Args.take k) (nodeL (kiN n.Bufs) (e.Args.take k)).1).map tyC)]) (fun ⟨k, sv⟩ => k ≤ e.Args.length ∧ ((nodeL (kiN n.Bufs) (e.Args.take k)).2 = 0)) (fun ⟨k, sv⟩ => e.Args.length - k) ⟨⟨0, (.slice none 0 0)⟩, ⟨by omega, rfl⟩, Weak.mk [true, true, true, true] ⟨VLe.refl _, VLe.refl _, VLe.refl _, VLe.refl _, VLe.refl _, trivial⟩ rfl⟩ ?_
 rintro ⟨k, sv⟩ ⟨hk, hp⟩
 show AWP _ _ _ _ _ ⟨[(7, vI k), (6, .c (.lit sv))] ++ _, [E.vec sv 40 5 ((nonC (e.Args.take k) (nodeL (kiN n.Bufs) (e.Args.take k)).1).map tyC)] ++ _⟩
 refine awp_seq <|
  sReg rfl <|
  rMv rfl <|
  rwp_det rfl rfl (det_field_lit rfl fd52_6 rfl) <|
  rwp_det rfl rfl (det_load_one rfl one50 rfl (ptr_row 2 rfl) rfl) <|
  rwp_det rfl rfl (det_len_slm rfl el50 rfl) <|
  rwp_det rfl rfl (det_lss rfl rfl rfl) <|
  rwp_nil <|
  awp_cond rfl (fun c1 => ?_) (fun c1 => ?_)
 ·try simp only [sx] at c1
  obtain ⟨x, hx⟩ := ex_get e.Args k (by omega)
  have hll := nodeL_len _ _ hp
  have hcl := nonC_len (e.Args.take k) (nodeL (kiN n.Bufs) (e.Args.take k)).1
  have htk := List.length_take_le' k e.Args
  refine awp_skip <|
   awp_seq <|
   awp_block <|
   awp_seq <|
   awp_draw_c 12 1 [⟨0, .q [4]⟩, ⟨1, .q []⟩, ⟨2, .q [3]⟩, ⟨3, .q []⟩, ⟨4, .q []⟩, ⟨5, .q []⟩, ⟨6, .q []⟩, ⟨7, .q []⟩, ⟨8, .q []⟩, ⟨9, .q []⟩, ⟨10, .e 0 []⟩, ⟨11, .e 0 []⟩] mixed (by kernel_rfl) (by kernel_rfl) rfl rfl rfl <|
   fx_skip rfl <|
   fx_skip rfl <|
   fx_skip rfl <|
   fx_skip rfl <|
   fx_skip rfl <|
   fx_skip rfl <|
   fx_skip rfl <|
   fx_skip rfl <|
   fx_skip rfl <|
   fx_skip rfl <|
   fx_skip rfl <|
   fx_skip rfl <|
   fx_nil <|
   sq_det rfl (by decide) rfl rfl (det_load_agg rfl agg25 rfl (ptr_row 0 rfl) rfl) <|
   sq_det rfl (by decide) rfl rfl (det_field_lit rfl fd52_6 rfl) <|
   sq_det rfl (by decide) rfl rfl (det_load_one rfl one50 rfl (ptr_row 0 rfl) rfl) <|
   sq_det rfl (by decide) rfl rfl (det_move rfl rfl) <|
   sq_det rfl (by decide) rfl rfl (det_index_sl rfl el50 rfl rfl (by omega) (getmE (by assumption))) <|
   sq_det rfl (by decide) rfl rfl (det_load_agg rfl agg52 rfl ptr_imm rfl) <|
   sq_det rfl (by decide) rfl rfl (det_call rfl ok188 (ih x (mem_of_get hx) (partE_arg hpart (mem_of_get hx)) (by have := Ex.arg_wt (mem_of_get hx); omega)) ⟨VLe.refl _, rfl, VLe.refl _, rfl, trivial⟩) <|
   sq_det rfl (by decide) rfl rfl (det_move_tup rfl rfl) <|
   sq_det rfl (by decide) rfl rfl (det_ex_agg rfl rfl rfl) <|
   sq_det rfl (by decide) rfl rfl (det_ex_c rfl rfl rfl) <|
   sq_op rfl rfl (by decide) rfl rfl (ope_alloc rfl zr40) ?_
  rintro _ _ ⟨b5, rfl, rfl⟩
  refine ⟨_, rfl, ?_⟩
  refine sq_op0 rfl rfl (by decide) rfl rfl (det_store rfl sz40 rfl rfl rfl (st_row 0 rfl rfl)) ?_
  rintro _ _ ⟨rfl, rfl⟩
  refine ⟨_, rfl, ?_⟩
  refine sq_nil rfl <|
   rMv rfl <|
   rwp_nil <|
   awp_seq <|
   sReg rfl <|
   rMv rfl <|
   rwp_det rfl rfl (det_neq rfl rfl rfl) <|
   rwp_nil <|
   awp_cond rfl (fun c2 => ?_) (fun c2 => ?_)
  ·try simp only [sx] at c2
   refine sReg rfl <|
    rwp_det rfl rfl (det_build rfl zr40 pl40 rfl) <|
    rMv rfl <|
    rwp_det0 rfl rfl (det_store rfl sz40 rfl rfl rfl (st_row 2 rfl rfl)) <|
    rMv rfl <|
    rwp_nil <|
    awp_ret <|
    fin2 (rs_cell_agg agg40 rfl (ptr_row 2 rfl) rfl) (rs_c rfl) ?_
   rw [nodeT_no hx hp c2]; rfl
  ·try simp only [sx] at c2
   refine awp_skip <|
    sReg rfl <|
    rwp_det rfl rfl (det_field_lit rfl fd52_6 rfl) <|
    rwp_det rfl rfl (det_load_one rfl one50 rfl (ptr_row 3 rfl) rfl) <|
    rMv rfl <|
    rwp_det rfl rfl (det_index_sl rfl el50 rfl rfl (by omega) (getmE (by assumption))) <|
    rwp_det rfl rfl (det_load_agg rfl agg52 rfl ptr_imm rfl) <|
    rwp_det rfl rfl (det_call rfl ok153 (brocaderef14_IsCondition x) ⟨VLe.refl _, rfl, trivial⟩) <|
    rwp_det rfl rfl (det_not rfl rfl) <|
    rwp_nil <|
    awp_cond rfl (fun c3 => ?_) (fun c3 => ?_)
   ·try simp only [sx] at c3
    refine awp_region rfl <|
     rMv rfl <|
     rwp_det rfl rfl (det_load_agg rfl agg40 rfl (ptr_row 0 rfl) rfl) <|
     rwp_det rfl rfl (det_bslice rfl el236 zr40 rfl rfl rfl rfl) <|
     rwp_op rfl rfl (ope_append 1 rfl el236 rfl rfl rfl (by simp only [List.length_map, List.length_append, List.length_cons, List.length_nil, hll, List.length_take]; omega) (by simp only [List.length_map, List.length_append, List.length_cons, List.length_nil, hll, List.length_take]; omega)) ?_
    rintro _ _ ⟨sv6, rfl, rfl⟩
    refine rMv rfl <|
     rwp_nil <|
     awp_region rfl <|
     rMv rfl <|
     rwp_det rfl rfl (det_add_nw rfl rfl rfl ⟨by omega, by omega⟩) <|
     rMv rfl <|
     rwp_nil ?_
    refine ⟨⟨k + 1, _⟩, ⟨by omega, by rw [nodeL_next hx hp c2]⟩, (by show e.Args.length - (k + 1) < e.Args.length - k; omega), Weak.mk [false, true, true, true, true] ⟨VLe.refl _, VLe.refl _, VLe.refl _, VLe.refl _, VLe.refl _, trivial⟩ (by exact mem1_eq (by rw [nodeL_next hx hp c2, take_next hx, nonC_next hll.symm]; first | (rw [if_pos c3, List.append_nil]) | (rw [if_neg (by rw [c3]; simp), List.map_append]; rfl)))⟩
   ·try simp only [sx] at c3
    refine awp_skip <|
     awp_region rfl <|
     rMv rfl <|
     rwp_det rfl rfl (det_add_nw rfl rfl rfl ⟨by omega, by omega⟩) <|
     rMv rfl <|
     rwp_nil ?_
    refine ⟨⟨k + 1, _⟩, ⟨by omega, by rw [nodeL_next hx hp c2]⟩, (by show e.Args.length - (k + 1) < e.Args.length - k; omega), Weak.mk [false, true, true, true, true] ⟨VLe.refl _, VLe.refl _, VLe.refl _, VLe.refl _, VLe.refl _, trivial⟩ (by exact mem1_eq (by rw [nodeL_next hx hp c2, take_next hx, nonC_next hll.symm]; first | (rw [if_pos c3, List.append_nil]) | (rw [if_neg (by rw [c3]; simp), List.map_append]; rfl)))⟩
 ·try simp only [sx] at c1
  have hll := nodeL_len _ _ hp
  have hta : e.Args.take k = e.Args := take_all (by omega)
  have hT : nodeT (kiN n.Bufs) e = kiF n.Bufs e (nonC (e.Args.take k) (nodeL (kiN n.Bufs) (e.Args.take k)).1) := by have h := nodeT_ok (N := kiN n.Bufs) hta hp; rw [h]; show kiF n.Bufs e (nonC e.Args _) = _; rw [hta]
  refine awp_exit <|
   awp_seq <|
   awp_seq <|
   awp_draw 12 mixed (by kernel_rfl) rfl rfl <|
   td_det rfl rfl (det_move rfl rfl) <|
   td_det rfl rfl (det_len_vec 0 rfl el236 rfl rfl) <|
   td_det rfl rfl (det_eql rfl rfl rfl) <|
   td_det rfl rfl (det_move rfl rfl) <|
   td_lazy [] rfl rfl rfl rfl gv1 trivial (fun g10_3 => det_move rfl rfl) rfl <|
   td_lazy [(48, _)] rfl rfl rfl rfl gv1 ⟨rfl, rfl, trivial⟩ (fun g10_3 => det_index_vec 0 rfl el236 rfl rfl rfl (by omega) (by simp only [Lz, cond_true, decide_eq_true_eq, List.length_map] at g10_3 ⊢; omega)) rfl <|
   td_lazy [(49, _)] rfl rfl rfl rfl gv1 ⟨rfl, rfl, trivial⟩ (fun g10_3 => det_load_agg rfl agg40 rfl (ptr_vec 0 rfl (tyAt_get (by simp only [Lz, cond_true, decide_eq_true_eq, List.length_map] at g10_3 ⊢; omega))) rfl) rfl <|
   td_lazy [] rfl rfl rfl rfl gv1 trivial (fun g10_3 => det_move rfl rfl) rfl <|
   td_lazy [(51, _)] rfl rfl rfl rfl gv1 ⟨rfl, rfl, trivial⟩ (fun g10_3 => det_index_vec 0 rfl el236 rfl rfl rfl (by omega) (by simp only [Lz, cond_true, decide_eq_true_eq, List.length_map] at g10_3 ⊢; omega)) rfl <|
   td_lazy [(52, _)] rfl rfl rfl rfl gv1 ⟨rfl, rfl, trivial⟩ (fun g10_3 => det_load_agg rfl agg40 rfl (ptr_vec 0 rfl (tyAt_get (by simp only [Lz, cond_true, decide_eq_true_eq, List.length_map] at g10_3 ⊢; omega))) rfl) rfl <|
   td_lazy [(50, _), (53, _)] rfl rfl rfl rfl gv1 ⟨rfl, rfl, rfl, rfl, trivial⟩ (fun g10_3 => det_aneq rfl fl40 rfl rfl rfl) rfl <|
   td_det rfl rfl (det_and rfl rfl rfl (fun h => h) rfl) <|
   td_nil <|
   rwp_nil <|
   awp_cond rfl (fun c4 => ?_) (fun c4 => ?_)
  ·obtain ⟨q1, q2⟩ := ki10_t c4
   refine sReg rfl <|
    rwp_det rfl rfl (det_build rfl zr40 pl40 rfl) <|
    rwp_det0 rfl rfl (det_store rfl sz40 rfl rfl rfl (st_row 1 rfl rfl)) <|
    rMv rfl <|
    rwp_nil <|
    awp_ret <|
    fin2 (rs_cell_agg agg40 rfl (ptr_row 1 rfl) rfl) (rs_c rfl) ?_
   rw [hT]; first | (rw [kiF_10 q1 q2]; rfl) | (rw [kiF_1 hq (by omega)]; rfl) | (rw [kiF_2 hq (by omega)]; rfl) | (rw [kiF_3 hq (by omega)]; rfl) | (rw [kiF_c hq c9]; rfl) | (rw [kiF_e hq (by omega) c9]; rfl)
  ·have hq := ki10_f c4
   refine awp_skip <|
    awp_seq <|
    sReg rfl <|
    rwp_det rfl rfl (det_field_lit rfl fd52_0 rfl) <|
    rwp_det rfl rfl (det_load_one rfl one3 rfl (ptr_row 2 rfl) rfl) <|
    rwp_nil <|
    awp_block <|
    awp_seq <|
    sReg rfl <|
    rwp_det rfl rfl (det_eql rfl rfl rfl) <|
    rMv rfl <|
    rwp_nil <|
    awp_cond rfl (fun c5 => ?_) (fun c5 => ?_)
   ·try simp only [sx] at c5
    refine awp_skip <|
     awp_cond rfl (fun c6 => ?_) (fun c6 => ?_)
    ·try simp only [sx] at c6
     refine sReg rfl <|
      rwp_det rfl rfl (det_field_lit rfl fd52_3 rfl) <|
      rwp_det rfl rfl (det_load_agg rfl agg40 rfl (ptr_row 2 rfl) rfl) <|
      rwp_det0 rfl rfl (det_store rfl sz40 rfl rfl rfl (st_row 1 rfl rfl)) <|
      rMv rfl <|
      rwp_nil <|
      awp_ret <|
      fin2 (rs_cell_agg agg40 rfl (ptr_row 1 rfl) rfl) (rs_c rfl) ?_
     rw [hT]; first | (rw [kiF_10 q1 q2]; rfl) | (rw [kiF_1 hq (by omega)]; rfl) | (rw [kiF_2 hq (by omega)]; rfl) | (rw [kiF_3 hq (by omega)]; rfl) | (rw [kiF_c hq c9]; rfl) | (rw [kiF_e hq (by omega) c9]; rfl)
    ·try simp only [sx] at c6
     refine sReg rfl <|
      rwp_det rfl rfl (det_eql rfl rfl rfl) <|
      rMv rfl <|
      rwp_nil <|
      awp_cond rfl (fun c7 => ?_) (fun c7 => ?_)
     ·try simp only [sx] at c7
      refine sReg rfl <|
       rwp_det rfl rfl (det_build rfl zr40 pl40 rfl) <|
       rwp_det0 rfl rfl (det_store rfl sz40 rfl rfl rfl (st_row 1 rfl rfl)) <|
       rMv rfl <|
       rwp_nil <|
       awp_ret <|
       fin2 (rs_cell_agg agg40 rfl (ptr_row 1 rfl) rfl) (rs_c rfl) ?_
      rw [hT]; first | (rw [kiF_10 q1 q2]; rfl) | (rw [kiF_1 hq (by omega)]; rfl) | (rw [kiF_2 hq (by omega)]; rfl) | (rw [kiF_3 hq (by omega)]; rfl) | (rw [kiF_c hq c9]; rfl) | (rw [kiF_e hq (by omega) c9]; rfl)
     ·try simp only [sx] at c7
      refine sReg rfl <|
       rwp_det rfl rfl (det_eql rfl rfl rfl) <|
       rMv rfl <|
       rwp_nil <|
       awp_cond rfl (fun c8 => ?_) (fun c8 => ?_)
      ·try simp only [sx] at c8
       refine sReg rfl <|
        rwp_det rfl rfl (det_load_agg rfl agg25 rfl (ptr_row 3 rfl) rfl) <|
        rwp_det rfl rfl (det_field_lit rfl fd52_1 rfl) <|
        rwp_det rfl rfl (det_load_one rfl one9 rfl (ptr_row 2 rfl) rfl) <|
        rwp_det rfl rfl (det_call rfl ok30 (ref30_Buffer n e.Name hn) ⟨VLe.refl _, rfl, VLe.refl _, rfl, trivial⟩) <|
        rwp_det rfl rfl (det_move_tup rfl rfl) <|
        rwp_det rfl rfl (det_ex_agg rfl rfl rfl) <|
        rwp_det rfl rfl (det_ex_c rfl rfl rfl) <|
        rwp_op rfl rfl (ope_allocN [none, none, none, none, none, none, some 1, none] rfl zr42 rfl) ?_
       rintro _ _ ⟨b7, rfl, rfl⟩
       refine rwp_det0 rfl rfl (det_store rfl sz42 rfl rfl rfl (st_row 0 rfl rfl)) <|
        rMv rfl <|
        rwp_nil <|
        sReg rfl <|
        rwp_det rfl rfl (det_field_lit rfl fd42_1 rfl) <|
        rwp_det rfl rfl (det_load_agg rfl agg40 rfl (ptr_row 0 rfl) rfl) <|
        rwp_det0 rfl rfl (det_store rfl sz40 rfl rfl rfl (st_row 2 rfl rfl)) <|
        rMv rfl <|
        rwp_nil <|
        awp_ret <|
        fin2 (rs_cell_agg agg40 rfl (ptr_row 2 rfl) rfl) (rs_c rfl) ?_
       rw [hT]; first | (rw [kiF_10 q1 q2]; rfl) | (rw [kiF_1 hq (by omega)]; rfl) | (rw [kiF_2 hq (by omega)]; rfl) | (rw [kiF_3 hq (by omega)]; rfl) | (rw [kiF_c hq c9]; rfl) | (rw [kiF_e hq (by omega) c9]; rfl)
      ·try simp only [sx] at c8
       refine awp_skip <|
        awp_seq <|
        sReg rfl <|
        rwp_det rfl rfl (det_load_agg rfl agg52 rfl (ptr_row 2 rfl) rfl) <|
        rwp_det rfl rfl (det_call rfl ok153 (brocaderef14_IsCondition e) ⟨VLe.refl _, rfl, trivial⟩) <|
        rwp_nil <|
        awp_cond rfl (fun c9 => ?_) (fun c9 => ?_)
       ·try simp only [sx] at c9
        refine sReg rfl <|
         rwp_det rfl rfl (det_build rfl zr40 pl40 rfl) <|
         rwp_det0 rfl rfl (det_store rfl sz40 rfl rfl rfl (st_row 1 rfl rfl)) <|
         rMv rfl <|
         rwp_nil <|
         awp_ret <|
         fin2 (rs_cell_agg agg40 rfl (ptr_row 1 rfl) rfl) (rs_c rfl) ?_
        rw [hT]; first | (rw [kiF_10 q1 q2]; rfl) | (rw [kiF_1 hq (by omega)]; rfl) | (rw [kiF_2 hq (by omega)]; rfl) | (rw [kiF_3 hq (by omega)]; rfl) | (rw [kiF_c hq c9]; rfl) | (rw [kiF_e hq (by omega) c9]; rfl)
       ·try simp only [sx] at c9
        have hq1 : 1 ≤ (nonC (e.Args.take k) (nodeL (kiN n.Bufs) (e.Args.take k)).1).length := by have h := ki_one hpart (l := (nodeL (kiN n.Bufs) (e.Args.take k)).1) (by rw [hll, hta]) (by omega) c9; rw [hta]; rw [hta] at h; exact h
        refine awp_skip <|
         sReg rfl <|
         rMv rfl <|
         rwp_det rfl rfl (det_index_vec 0 rfl el236 rfl rfl rfl (by omega) (by simp only [List.length_map]; omega)) <|
         rwp_det rfl rfl (det_load_agg rfl agg40 rfl (ptr_vec 0 rfl (tyAt_get (by omega))) rfl) <|
         rwp_det0 rfl rfl (det_store rfl sz40 rfl rfl rfl (st_row 1 rfl rfl)) <|
         rMv rfl <|
         rwp_nil <|
         awp_ret <|
         fin2 (rs_cell_agg agg40 rfl (ptr_row 1 rfl) rfl) (rs_c rfl) ?_
        rw [hT]; first | (rw [kiF_10 q1 q2]; rfl) | (rw [kiF_1 hq (by omega)]; rfl) | (rw [kiF_2 hq (by omega)]; rfl) | (rw [kiF_3 hq (by omega)]; rfl) | (rw [kiF_c hq c9]; rfl) | (rw [kiF_e hq (by omega) c9]; rfl)
   ·try simp only [sx] at c5
    refine awp_region rfl <|
     rwp_det rfl rfl (det_eql rfl rfl rfl) <|
     rMv rfl <|
     rwp_nil <|
     awp_cond rfl (fun c6 => ?_) (fun c6 => ?_)
    ·try simp only [sx] at c6
     refine sReg rfl <|
      rwp_det rfl rfl (det_field_lit rfl fd52_3 rfl) <|
      rwp_det rfl rfl (det_load_agg rfl agg40 rfl (ptr_row 2 rfl) rfl) <|
      rwp_det0 rfl rfl (det_store rfl sz40 rfl rfl rfl (st_row 1 rfl rfl)) <|
      rMv rfl <|
      rwp_nil <|
      awp_ret <|
      fin2 (rs_cell_agg agg40 rfl (ptr_row 1 rfl) rfl) (rs_c rfl) ?_
     rw [hT]; first | (rw [kiF_10 q1 q2]; rfl) | (rw [kiF_1 hq (by omega)]; rfl) | (rw [kiF_2 hq (by omega)]; rfl) | (rw [kiF_3 hq (by omega)]; rfl) | (rw [kiF_c hq c9]; rfl) | (rw [kiF_e hq (by omega) c9]; rfl)
    ·try simp only [sx] at c6
     refine sReg rfl <|
      rwp_det rfl rfl (det_eql rfl rfl rfl) <|
      rMv rfl <|
      rwp_nil <|
      awp_cond rfl (fun c7 => ?_) (fun c7 => ?_)
     ·try simp only [sx] at c7
      refine sReg rfl <|
       rwp_det rfl rfl (det_build rfl zr40 pl40 rfl) <|
       rwp_det0 rfl rfl (det_store rfl sz40 rfl rfl rfl (st_row 1 rfl rfl)) <|
       rMv rfl <|
       rwp_nil <|
       awp_ret <|
       fin2 (rs_cell_agg agg40 rfl (ptr_row 1 rfl) rfl) (rs_c rfl) ?_
      rw [hT]; first | (rw [kiF_10 q1 q2]; rfl) | (rw [kiF_1 hq (by omega)]; rfl) | (rw [kiF_2 hq (by omega)]; rfl) | (rw [kiF_3 hq (by omega)]; rfl) | (rw [kiF_c hq c9]; rfl) | (rw [kiF_e hq (by omega) c9]; rfl)
     ·try simp only [sx] at c7
      refine sReg rfl <|
       rwp_det rfl rfl (det_eql rfl rfl rfl) <|
       rMv rfl <|
       rwp_nil <|
       awp_cond rfl (fun c8 => ?_) (fun c8 => ?_)
      ·try simp only [sx] at c8
       refine sReg rfl <|
        rwp_det rfl rfl (det_load_agg rfl agg25 rfl (ptr_row 3 rfl) rfl) <|
        rwp_det rfl rfl (det_field_lit rfl fd52_1 rfl) <|
        rwp_det rfl rfl (det_load_one rfl one9 rfl (ptr_row 2 rfl) rfl) <|
        rwp_det rfl rfl (det_call rfl ok30 (ref30_Buffer n e.Name hn) ⟨VLe.refl _, rfl, VLe.refl _, rfl, trivial⟩) <|
        rwp_det rfl rfl (det_move_tup rfl rfl) <|
        rwp_det rfl rfl (det_ex_agg rfl rfl rfl) <|
        rwp_det rfl rfl (det_ex_c rfl rfl rfl) <|
        rwp_op rfl rfl (ope_allocN [none, none, none, none, none, none, some 1, none] rfl zr42 rfl) ?_
       rintro _ _ ⟨b8, rfl, rfl⟩
       refine rwp_det0 rfl rfl (det_store rfl sz42 rfl rfl rfl (st_row 0 rfl rfl)) <|
        rMv rfl <|
        rwp_nil <|
        sReg rfl <|
        rwp_det rfl rfl (det_field_lit rfl fd42_1 rfl) <|
        rwp_det rfl rfl (det_load_agg rfl agg40 rfl (ptr_row 0 rfl) rfl) <|
        rwp_det0 rfl rfl (det_store rfl sz40 rfl rfl rfl (st_row 2 rfl rfl)) <|
        rMv rfl <|
        rwp_nil <|
        awp_ret <|
        fin2 (rs_cell_agg agg40 rfl (ptr_row 2 rfl) rfl) (rs_c rfl) ?_
       rw [hT]; first | (rw [kiF_10 q1 q2]; rfl) | (rw [kiF_1 hq (by omega)]; rfl) | (rw [kiF_2 hq (by omega)]; rfl) | (rw [kiF_3 hq (by omega)]; rfl) | (rw [kiF_c hq c9]; rfl) | (rw [kiF_e hq (by omega) c9]; rfl)
      ·try simp only [sx] at c8
       refine awp_skip <|
        awp_seq <|
        sReg rfl <|
        rwp_det rfl rfl (det_load_agg rfl agg52 rfl (ptr_row 2 rfl) rfl) <|
        rwp_det rfl rfl (det_call rfl ok153 (brocaderef14_IsCondition e) ⟨VLe.refl _, rfl, trivial⟩) <|
        rwp_nil <|
        awp_cond rfl (fun c9 => ?_) (fun c9 => ?_)
       ·try simp only [sx] at c9
        refine sReg rfl <|
         rwp_det rfl rfl (det_build rfl zr40 pl40 rfl) <|
         rwp_det0 rfl rfl (det_store rfl sz40 rfl rfl rfl (st_row 1 rfl rfl)) <|
         rMv rfl <|
         rwp_nil <|
         awp_ret <|
         fin2 (rs_cell_agg agg40 rfl (ptr_row 1 rfl) rfl) (rs_c rfl) ?_
        rw [hT]; first | (rw [kiF_10 q1 q2]; rfl) | (rw [kiF_1 hq (by omega)]; rfl) | (rw [kiF_2 hq (by omega)]; rfl) | (rw [kiF_3 hq (by omega)]; rfl) | (rw [kiF_c hq c9]; rfl) | (rw [kiF_e hq (by omega) c9]; rfl)
       ·try simp only [sx] at c9
        have hq1 : 1 ≤ (nonC (e.Args.take k) (nodeL (kiN n.Bufs) (e.Args.take k)).1).length := by have h := ki_one hpart (l := (nodeL (kiN n.Bufs) (e.Args.take k)).1) (by rw [hll, hta]) (by omega) c9; rw [hta]; rw [hta] at h; exact h
        refine awp_skip <|
         sReg rfl <|
         rMv rfl <|
         rwp_det rfl rfl (det_index_vec 0 rfl el236 rfl rfl rfl (by omega) (by simp only [List.length_map]; omega)) <|
         rwp_det rfl rfl (det_load_agg rfl agg40 rfl (ptr_vec 0 rfl (tyAt_get (by omega))) rfl) <|
         rwp_det0 rfl rfl (det_store rfl sz40 rfl rfl rfl (st_row 1 rfl rfl)) <|
         rMv rfl <|
         rwp_nil <|
         awp_ret <|
         fin2 (rs_cell_agg agg40 rfl (ptr_row 1 rfl) rfl) (rs_c rfl) ?_
        rw [hT]; first | (rw [kiF_10 q1 q2]; rfl) | (rw [kiF_1 hq (by omega)]; rfl) | (rw [kiF_2 hq (by omega)]; rfl) | (rw [kiF_3 hq (by omega)]; rfl) | (rw [kiF_c hq c9]; rfl) | (rw [kiF_e hq (by omega) c9]; rfl)

theorem ref30_Kind (n : Ns) (e : Ex) (hn : n.Ok) (hpart : partE e = 0) (he : e.wt ≤ 1073741824) : Pur cfg 188 [vNs n, vE e] (.tup [vTy (nodeT (kiN n.Bufs) e).1, vI (nodeT (kiN n.Bufs) e).2]) := by
  induction e using Ex.ind with
  | _ e ih => exact ref30_Kind_step n hn e (fun a ha h1 h2 => ih a ha h1 h2) hpart he

theorem ref30_Checked (n : Ns) (bd : List Bd) (e : Ex) (hn : n.Ok) (hb : bd.length ≤ 1000000) (he : e.wt ≤ 1000000) :
    Pur cfg 152 [vNs n, vBds bd, vE e] (.tup [vTy (exprT n.Bufs (bd.map Bd.Name) e).1, vI (exprT n.Bufs (bd.map Bd.Name) e).2]) := by
 refine con_intro Tryz.func152 rfl Tryz.ntmps152 Tryz.results152 rfl ?_
 intro z hz
 have hnl := nodes_wt e
 refine sReg rfl <|
  rwp_op rfl rfl (ope_box rfl rfl) ?_
 rintro _ _ ⟨b1, rfl, rfl⟩
 refine rwp_op rfl rfl (ope_box rfl rfl) ?_
 rintro _ _ ⟨b2, rfl, rfl⟩
 refine rwp_op rfl rfl (ope_alloc rfl zr40) ?_
 rintro _ _ ⟨b3, rfl, rfl⟩
 refine rMv rfl <|
  rwp_nil <|
  awp_seq <|
  sReg rfl <|
  rwp_det rfl rfl (det_load_agg rfl agg52 rfl (ptr_row 1 rfl) rfl) <|
  rwp_det rfl rfl (det_call rfl ok186 (ref14_Validate e (by omega)) ⟨VLe.refl _, rfl, trivial⟩) <|
  rMv rfl <|
  rwp_nil <|
  sReg rfl <|
  rMv rfl <|
  rwp_det rfl rfl (det_neq rfl rfl rfl) <|
  rwp_nil <|
  awp_cond rfl (fun c1 => ?_) (fun c1 => ?_)
 ·try simp only [sx] at c1
  refine sReg rfl <|
   rwp_det rfl rfl (det_build rfl zr40 pl40 rfl) <|
   rMv rfl <|
   rwp_det0 rfl rfl (det_store rfl sz40 rfl rfl rfl (st_row 0 rfl rfl)) <|
   rMv rfl <|
   rwp_nil <|
   awp_ret <|
   fin2 (rs_cell_agg agg40 rfl (ptr_row 0 rfl) rfl) (rs_c rfl) ?_
  rw [exprT_1 c1]; rfl
 ·try simp only [sx] at c1
  refine awp_skip <|
   sReg rfl <|
   rwp_det rfl rfl (det_load_agg rfl agg52 rfl (ptr_row 1 rfl) rfl) <|
   rwp_det rfl rfl (det_call rfl ok119 (OwnR.pur (ref14_All e (by omega))) ⟨VLe.refl _, rfl, trivial⟩) <|
   rMv rfl <|
   rwp_nil <|
   awp_seq <|
   sReg rfl <|
   rMv rfl <|
   rwp_nil <|
   awp_block <|
   awp_weak ⟨[(10, .c _), (1, .c _), (3, .c _), (5, .c _), (6, .c _), (9, .c _)], [_, _, _]⟩ (Weak.mk [true, true, true] ⟨VLe.of_eq rfl, VLe.of_eq rfl, VLe.of_eq rfl, VLe.of_eq rfl, VLe.of_eq rfl, VLe.of_eq rfl, trivial⟩ rfl) <|
   awp_loop_k 1 0 rfl rfl (Nat) (fun k => [(10, vI k)]) (fun k => []) (fun k => k ≤ (nodes e).length ∧ (nodesN n.Bufs (bd.map Bd.Name) (nodes e) = nodesN n.Bufs (bd.map Bd.Name) ((nodes e).drop k))) (fun k => (nodes e).length - k) ⟨0, ⟨by omega, rfl⟩, Weak.mk [true, true, true] ⟨VLe.refl _, VLe.refl _, VLe.refl _, VLe.refl _, VLe.refl _, VLe.refl _, trivial⟩ rfl⟩ ?_
  rintro k ⟨hk, hp⟩
  refine awp_seq <|
   sReg rfl <|
   rMv rfl <|
   rMv rfl <|
   rwp_det rfl rfl (det_len_slm rfl el50 rfl) <|
   rwp_det rfl rfl (det_lss rfl rfl rfl) <|
   rwp_nil <|
   awp_cond rfl (fun c2 => ?_) (fun c2 => ?_)
  ·try simp only [sx] at c2
   obtain ⟨x, hx⟩ := ex_get (nodes e) k (by omega)
   refine awp_skip <|
    awp_seq <|
    awp_block <|
    awp_seq <|
    awp_draw 8 mixed (by kernel_rfl) rfl rfl <|
    td_det rfl rfl (det_load_agg rfl agg25 rfl (ptr_row 2 rfl) rfl) <|
    td_det rfl rfl (det_move rfl rfl) <|
    td_det rfl rfl (det_move rfl rfl) <|
    td_det rfl rfl (det_move rfl rfl) <|
    td_det rfl rfl (det_index_sl rfl el50 rfl rfl (by omega) (getmE (by assumption))) <|
    td_det rfl rfl (det_load_agg rfl agg52 rfl ptr_imm rfl) <|
    td_det rfl rfl (det_call rfl ok187 (ref30_node n bd x hn hb (by have := node_mem_wt e x (mem_of_get hx); omega)) ⟨VLe.refl _, rfl, VLe.refl _, rfl, VLe.refl _, rfl, trivial⟩) <|
    td_det rfl rfl (det_assign rfl rfl) <|
    td_nil <|
    rwp_nil <|
    sReg rfl <|
    rMv rfl <|
    rwp_det rfl rfl (det_neq rfl rfl rfl) <|
    rwp_nil <|
    awp_cond rfl (fun c3 => ?_) (fun c3 => ?_)
   ·try simp only [sx] at c3
    refine sReg rfl <|
     rwp_det rfl rfl (det_build rfl zr40 pl40 rfl) <|
     rMv rfl <|
     rwp_det0 rfl rfl (det_store rfl sz40 rfl rfl rfl (st_row 0 rfl rfl)) <|
     rMv rfl <|
     rwp_nil <|
     awp_ret <|
     fin2 (rs_cell_agg agg40 rfl (ptr_row 0 rfl) rfl) (rs_c rfl) ?_
    rw [exprT_2 c1 (by rw [hp, nodesN_no hx c3]; exact c3), hp, nodesN_no hx c3]; rfl
   ·try simp only [sx] at c3
    refine awp_skip <|
     awp_region rfl <|
     rMv rfl <|
     rwp_det rfl rfl (det_add_nw rfl rfl rfl ⟨by omega, by omega⟩) <|
     rMv rfl <|
     rwp_nil ?_
    refine ⟨k + 1, ⟨by omega, hp.trans (nodesN_at hx c3)⟩, (by omega), Weak.mk [true, true, true] ⟨VLe.refl _, VLe.refl _, VLe.refl _, VLe.refl _, VLe.refl _, VLe.refl _, trivial⟩ rfl⟩
  ·try simp only [sx] at c2
   refine awp_exit <|
    sReg rfl <|
    rwp_det rfl rfl (det_load_agg rfl agg25 rfl (ptr_row 2 rfl) rfl) <|
    rwp_det rfl rfl (det_load_agg rfl agg52 rfl (ptr_row 1 rfl) rfl) <|
    rwp_det rfl rfl (det_call rfl ok188 (ref30_Kind n e hn (valid_part c1) (by omega)) ⟨VLe.refl _, rfl, VLe.refl _, rfl, trivial⟩) <|
    rwp_det rfl rfl (det_ex_agg rfl rfl rfl) <|
    rwp_det rfl rfl (det_ex_c rfl rfl rfl) <|
    rwp_det0 rfl rfl (det_store rfl sz40 rfl rfl rfl (st_row 0 rfl rfl)) <|
    rMv rfl <|
    rwp_nil <|
    awp_ret <|
    fin2 (rs_cell_agg agg40 rfl (ptr_row 0 rfl) rfl) (rs_c rfl) ?_
   rw [exprT_k c1 (by rw [hp, drop_end (by omega)]; rfl)]; rfl

theorem ref30_plain (s : St) (hs : s.wt ≤ 900000000) :
    Pur cfg 151 [vSt s] (vB (synSt s)) := by
 refine con_intro Tryz.func151 rfl Tryz.ntmps151 Tryz.results151 rfl ?_
 intro z hz
 obtain ⟨hE, hI, hIw, hB, hBw⟩ := St.parts hs
 refine sReg rfl <|
  rwp_op rfl rfl (ope_box rfl rfl) ?_
 rintro _ _ ⟨b1, rfl, rfl⟩
 refine rMv rfl <|
  rwp_nil <|
  awp_seq <|
  awp_draw 8 mixed (by kernel_rfl) rfl rfl <|
  td_det rfl rfl (det_field_lit rfl fd54_0 rfl) <|
  td_det rfl rfl (det_load_one rfl one3 rfl (ptr_row 0 rfl) rfl) <|
  td_det rfl rfl (det_eql rfl rfl rfl) <|
  td_det rfl rfl (det_field_lit rfl fd54_0 rfl) <|
  td_det rfl rfl (det_load_one rfl one3 rfl (ptr_row 0 rfl) rfl) <|
  td_det rfl rfl (det_eql rfl rfl rfl) <|
  td_det rfl rfl (det_assign rfl rfl) <|
  td_det rfl rfl (det_assign rfl rfl) <|
  td_nil <|
  rwp_nil <|
  sReg rfl <|
  rwp_det rfl rfl (det_field_lit rfl fd54_0 rfl) <|
  rwp_det rfl rfl (det_load_one rfl one3 rfl (ptr_row 0 rfl) rfl) <|
  rwp_det rfl rfl (det_eql rfl rfl rfl) <|
  rMv rfl <|
  rLz [] rfl gv1 trivial (fun g2_3 => det_field_lit rfl fd54_0 rfl) rfl <|
  rLz [(16, _)] rfl gv1 ⟨rfl, rfl, trivial⟩ (fun g2_3 => det_load_one rfl one3 rfl (ptr_row 0 rfl) rfl) rfl <|
  rLz [(17, _)] rfl gv1 ⟨rfl, rfl, trivial⟩ (fun g2_3 => det_eql rfl rfl rfl) rfl <|
  rwp_det rfl rfl (det_or rfl rfl rfl rfl (fun h => (lzf h))) <|
  rMv rfl <|
  rwp_nil <|
  awp_seq <|
  sReg rfl <|
  rMv rfl <|
  rwp_det rfl rfl (det_not rfl rfl) <|
  rMv rfl <|
  rLz [] rfl gv1 trivial (fun g3_2 => det_move rfl rfl) rfl <|
  rLz [(23, _)] rfl gv1 ⟨rfl, rfl, trivial⟩ (fun g3_2 => det_not rfl rfl) rfl <|
  rwp_det rfl rfl (det_and rfl rfl rfl (fun h => h) rfl) <|
  rMv rfl <|
  rLz [] rfl gv1 trivial (fun g3_6 => det_move rfl rfl) rfl <|
  rLz [(27, _)] rfl gv1 ⟨rfl, rfl, trivial⟩ (fun g3_6 => det_not rfl rfl) rfl <|
  rwp_det rfl rfl (det_and rfl rfl rfl (fun h => h) rfl) <|
  rwp_nil <|
  awp_cond rfl (fun c1 => ?_) (fun c1 => ?_)
 ·refine sReg rfl <|
   rMv rfl <|
   rwp_nil <|
   awp_ret <|
   fin1 (rs_c rfl) ?_
  exact congrArg vB (pln_1 c1)
 ·refine awp_skip <|
   awp_seq <|
   sReg rfl <|
   rMv rfl <|
   rwp_det rfl rfl (det_not rfl rfl) <|
   rMv rfl <|
   rLz [] rfl gv1 trivial (fun g5_2 => det_field_lit rfl fd54_2 rfl) rfl <|
   rLz [(33, _)] rfl gv1 ⟨rfl, rfl, trivial⟩ (fun g5_2 => det_load_one rfl one3 rfl (ptr_row 0 rfl) rfl) rfl <|
   rLz [(34, _)] rfl gv1 ⟨rfl, rfl, trivial⟩ (fun g5_2 => det_neq rfl rfl rfl) rfl <|
   rLz [(35, _)] rfl gv1 ⟨rfl, rfl, trivial⟩ (fun g5_2 => det_move rfl rfl) rfl <|
   rLz [] rfl gv2 trivial (fun g5_6 => det_field_lit rfl fd54_3 rfl) rfl <|
   rLz [(37, _)] rfl gv2 ⟨rfl, rfl, trivial⟩ (fun g5_6 => det_load_one rfl one3 rfl (ptr_row 0 rfl) rfl) rfl <|
   rLz [(38, _)] rfl gv2 ⟨rfl, rfl, trivial⟩ (fun g5_6 => det_neq rfl rfl rfl) rfl <|
   rLz [(36, _)] rfl gv1 ⟨rfl, rfl, trivial⟩ (fun g5_2 => det_or rfl rfl rfl rfl (fun h => and_mk (by assumption) (lzf h))) rfl <|
   rwp_det rfl rfl (det_and rfl rfl rfl (fun h => h) rfl) <|
   rMv rfl <|
   rLz [] rfl gv1 trivial (fun g5_12 => det_field_lit rfl fd54_0 rfl) rfl <|
   rLz [(43, _)] rfl gv1 ⟨rfl, rfl, trivial⟩ (fun g5_12 => det_load_one rfl one3 rfl (ptr_row 0 rfl) rfl) rfl <|
   rLz [(44, _)] rfl gv1 ⟨rfl, rfl, trivial⟩ (fun g5_12 => det_neq rfl rfl rfl) rfl <|
   rLz [(45, _)] rfl gv1 ⟨rfl, rfl, trivial⟩ (fun g5_12 => det_move rfl rfl) rfl <|
   rLz [] rfl gv2 trivial (fun g5_16 => det_field_lit rfl fd54_4 rfl) rfl <|
   rLz [(47, _)] rfl gv2 ⟨rfl, rfl, trivial⟩ (fun g5_16 => det_load_one rfl one3 rfl (ptr_row 0 rfl) rfl) rfl <|
   rLz [(48, _)] rfl gv2 ⟨rfl, rfl, trivial⟩ (fun g5_16 => det_neq rfl rfl rfl) rfl <|
   rLz [(46, _)] rfl gv1 ⟨rfl, rfl, trivial⟩ (fun g5_12 => det_and rfl rfl rfl (fun h => and_mk (by assumption) h) rfl) rfl <|
   rwp_det rfl rfl (det_or rfl rfl rfl rfl (fun h => (lzf h))) <|
   rMv rfl <|
   rLz [] rfl gv1 trivial (fun g5_22 => det_move rfl rfl) rfl <|
   rLz [(53, _)] rfl gv1 ⟨rfl, rfl, trivial⟩ (fun g5_22 => det_move rfl rfl) rfl <|
   rLz [] rfl gv2 trivial (fun g5_24 => det_field_lit rfl fd54_1 rfl) rfl <|
   rLz [(55, _)] rfl gv2 ⟨rfl, rfl, trivial⟩ (fun g5_24 => det_load_one rfl one9 rfl (ptr_row 0 rfl) rfl) rfl <|
   rLz [(56, _)] rfl gv2 ⟨rfl, rfl, trivial⟩ (fun g5_24 => det_sneq rfl rfl rfl) rfl <|
   rLz [(54, _)] rfl gv1 ⟨rfl, rfl, trivial⟩ (fun g5_22 => det_and rfl rfl rfl (fun h => and_mk (by assumption) h) rfl) rfl <|
   rwp_det rfl rfl (det_or rfl rfl rfl rfl (fun h => (lzf h))) <|
   rwp_nil <|
   awp_cond rfl (fun c2 => ?_) (fun c2 => ?_)
  ·refine sReg rfl <|
    rMv rfl <|
    rwp_nil <|
    awp_ret <|
    fin1 (rs_c rfl) ?_
   exact congrArg vB (pln_2 c2)
  ·refine awp_skip <|
    awp_seq <|
    sReg rfl <|
    rMv rfl <|
    rwp_det rfl rfl (det_not rfl rfl) <|
    rMv rfl <|
    rLz [] rfl gv1 trivial (fun g7_2 => det_field_lit rfl fd54_5 rfl) rfl <|
    rLz [(63, _)] rfl gv1 ⟨rfl, rfl, trivial⟩ (fun g7_2 => det_load_one rfl one44 rfl (ptr_row 0 rfl) rfl) rfl <|
    rLz [(64, _)] rfl gv1 ⟨rfl, rfl, trivial⟩ (fun g7_2 => det_len_slm rfl el44 rfl) rfl <|
    rLz [(65, _)] rfl gv1 ⟨rfl, rfl, trivial⟩ (fun g7_2 => det_gtr rfl rfl rfl) rfl <|
    rwp_det rfl rfl (det_and rfl rfl rfl (fun h => h) rfl) <|
    rMv rfl <|
    rLz [] rfl gv1 trivial (fun g7_8 => det_move rfl rfl) rfl <|
    rLz [(69, _)] rfl gv1 ⟨rfl, rfl, trivial⟩ (fun g7_8 => det_move rfl rfl) rfl <|
    rLz [] rfl gv2 trivial (fun g7_10 => det_field_lit rfl fd54_7 rfl) rfl <|
    rLz [(71, _)] rfl gv2 ⟨rfl, rfl, trivial⟩ (fun g7_10 => det_load_one rfl one23 rfl (ptr_row 0 rfl) rfl) rfl <|
    rLz [(72, _)] rfl gv2 ⟨rfl, rfl, trivial⟩ (fun g7_10 => det_len_slm rfl el23 rfl) rfl <|
    rLz [(73, _)] rfl gv2 ⟨rfl, rfl, trivial⟩ (fun g7_10 => det_gtr rfl rfl rfl) rfl <|
    rLz [(70, _)] rfl gv1 ⟨rfl, rfl, trivial⟩ (fun g7_8 => det_and rfl rfl rfl (fun h => and_mk (by assumption) h) rfl) rfl <|
    rwp_det rfl rfl (det_or rfl rfl rfl rfl (fun h => (lzf h))) <|
    rwp_nil <|
    awp_cond rfl (fun c3 => ?_) (fun c3 => ?_)
   ·refine sReg rfl <|
     rMv rfl <|
     rwp_nil <|
     awp_ret <|
     fin1 (rs_c rfl) ?_
    exact congrArg vB (pln_3 c3)
   ·refine awp_skip <|
     sReg rfl <|
     rMv rfl <|
     rwp_det rfl rfl (det_not rfl rfl) <|
     rMv rfl <|
     rLz [] rfl gv1 trivial (fun g9_2 => det_field_lit rfl fd54_6 rfl) rfl <|
     rLz [(80, _)] rfl gv1 ⟨rfl, rfl, trivial⟩ (fun g9_2 => det_load_agg rfl agg52 rfl (ptr_row 0 rfl) rfl) rfl <|
     rLz [] rfl gv1 trivial (fun g9_2 => det_buildN [none, none, none, none, none, none, none, none, none, none, some 2, some 4, some 13] rfl zr52 pl52 rfl rfl) rfl <|
     rLz [(81, _), (82, _)] rfl gv1 ⟨rfl, rfl, rfl, rfl, trivial⟩ (fun g9_2 => det_call rfl ok82 (base_Expr s.E zEx (by omega)) ⟨VLe.refl _, rfl, VLe.refl _, rfl, trivial⟩) rfl <|
     rwp_det rfl rfl (det_or rfl rfl rfl rfl (fun h => (lzf h))) <|
     rMv rfl <|
     rwp_nil <|
     awp_ret <|
     fin1 (rs_c rfl) ?_
    exact congrArg vB (pln_4 c1 c2 c3)

theorem ref30_store (n : Ns) (bd : List Bd) (s : St) (hn : n.Ok) (hb : bd.length ≤ 1000000) (hs : s.wt ≤ 900000) :
    Pur cfg 154 [vNs n, vBds bd, vSt s] (vI (storeE n.Bufs (bd.map Bd.Name) s)) := by
 refine con_intro Tryz.func154 rfl Tryz.ntmps154 Tryz.results154 rfl ?_
 intro z hz
 obtain ⟨hE, hI, hIw, hB, hBw⟩ := St.parts hs
 have hrd := rdE_wt s
 refine sReg rfl <|
  rwp_op rfl rfl (ope_box rfl rfl) ?_
 rintro _ _ ⟨b1, rfl, rfl⟩
 refine rwp_op rfl rfl (ope_box rfl rfl) ?_
 rintro _ _ ⟨b2, rfl, rfl⟩
 refine rMv rfl <|
  rwp_nil <|
  awp_seq <|
  sReg rfl <|
  rwp_det rfl rfl (det_load_agg rfl agg25 rfl (ptr_row 1 rfl) rfl) <|
  rMv rfl <|
  rwp_det rfl rfl (det_field_lit rfl fd54_1 rfl) <|
  rwp_det rfl rfl (det_load_one rfl one9 rfl (ptr_row 0 rfl) rfl) <|
  rwp_det rfl rfl (det_field_lit rfl fd54_5 rfl) <|
  rwp_det rfl rfl (det_load_one rfl one44 rfl (ptr_row 0 rfl) rfl) <|
  rwp_det rfl rfl (det_buildN [none, none, none, none, none, none, none, none, none, none, some 2, none, some 13] rfl zr52 pl52 rfl rfl) <|
  rwp_det rfl rfl (det_call rfl ok152 (ref30_Checked n bd (rdE s) hn hb (by omega)) ⟨VLe.refl _, rfl, VLe.refl _, rfl, VLe.refl _, rfl, trivial⟩) <|
  rwp_det rfl rfl (det_move_tup rfl rfl) <|
  rwp_det rfl rfl (det_ex_agg rfl rfl rfl) <|
  rwp_det rfl rfl (det_ex_c rfl rfl rfl) <|
  rwp_op rfl rfl (ope_alloc rfl zr40) ?_
 rintro _ _ ⟨b3, rfl, rfl⟩
 refine rwp_det0 rfl rfl (det_store rfl sz40 rfl rfl rfl (st_row 0 rfl rfl)) <|
  rMv rfl <|
  rwp_nil <|
  sReg rfl <|
  rMv rfl <|
  rwp_det rfl rfl (det_neq rfl rfl rfl) <|
  rwp_nil <|
  awp_cond rfl (fun c1 => ?_) (fun c1 => ?_)
 ·try simp only [sx] at c1
  refine sReg rfl <|
   rMv rfl <|
   rMv rfl <|
   rwp_nil <|
   awp_ret <|
   fin1 (rs_c rfl) ?_
  rw [storeE_1 c1]
 ·try simp only [sx] at c1
  refine awp_skip <|
   sReg rfl <|
   rwp_det rfl rfl (det_load_agg rfl agg25 rfl (ptr_row 2 rfl) rfl) <|
   rwp_det rfl rfl (det_field_lit rfl fd54_1 rfl) <|
   rwp_det rfl rfl (det_load_one rfl one9 rfl (ptr_row 1 rfl) rfl) <|
   rwp_det rfl rfl (det_call rfl ok30 (ref30_Buffer n s.Name hn) ⟨VLe.refl _, rfl, VLe.refl _, rfl, trivial⟩) <|
   rwp_det rfl rfl (det_move_tup rfl rfl) <|
   rwp_det rfl rfl (det_ex_agg rfl rfl rfl) <|
   rwp_det rfl rfl (det_ex_c rfl rfl rfl) <|
   rwp_op rfl rfl (ope_allocN [none, none, none, none, none, none, some 1, none] rfl zr42 rfl) ?_
  rintro _ _ ⟨b4, rfl, rfl⟩
  refine rwp_det0 rfl rfl (det_store rfl sz42 rfl rfl rfl (st_row 0 rfl rfl)) <|
   rMv rfl <|
   rwp_nil <|
   awp_seq <|
   sReg rfl <|
   rwp_det rfl rfl (det_field_lit rfl fd42_3 rfl) <|
   rwp_det rfl rfl (det_load_one rfl one3 rfl (ptr_row 0 rfl) rfl) <|
   rwp_det rfl rfl (det_eql rfl rfl rfl) <|
   rMv rfl <|
   rLz [] rfl gv1 trivial (fun g5_3 => det_field_lit rfl fd54_0 rfl) rfl <|
   rLz [(38, _)] rfl gv1 ⟨rfl, rfl, trivial⟩ (fun g5_3 => det_load_one rfl one3 rfl (ptr_row 2 rfl) rfl) rfl <|
   rLz [(39, _)] rfl gv1 ⟨rfl, rfl, trivial⟩ (fun g5_3 => det_eql rfl rfl rfl) rfl <|
   rLz [(40, _)] rfl gv1 ⟨rfl, rfl, trivial⟩ (fun g5_3 => det_move rfl rfl) rfl <|
   rLz [] rfl gv2 trivial (fun g5_7 => det_field_lit rfl fd54_4 rfl) rfl <|
   rLz [(42, _)] rfl gv2 ⟨rfl, rfl, trivial⟩ (fun g5_7 => det_load_one rfl one3 rfl (ptr_row 2 rfl) rfl) rfl <|
   rLz [(43, _)] rfl gv2 ⟨rfl, rfl, trivial⟩ (fun g5_7 => det_lss rfl rfl rfl) rfl <|
   rLz [(44, _)] rfl gv2 ⟨rfl, rfl, trivial⟩ (fun g5_7 => det_move rfl rfl) rfl <|
   rLz [] rfl gv2 trivial (fun g5_11 => det_field_lit rfl fd54_4 rfl) rfl <|
   rLz [(46, _)] rfl gv2 ⟨rfl, rfl, trivial⟩ (fun g5_11 => det_load_one rfl one3 rfl (ptr_row 2 rfl) rfl) rfl <|
   rLz [(47, _)] rfl gv2 ⟨rfl, rfl, trivial⟩ (fun g5_11 => det_gtr rfl rfl rfl) rfl <|
   rLz [(45, _)] rfl gv2 ⟨rfl, rfl, trivial⟩ (fun g5_7 => det_or rfl rfl rfl rfl (fun h => and_mk (by assumption) (lzf h))) rfl <|
   rLz [(41, _)] rfl gv1 ⟨rfl, rfl, trivial⟩ (fun g5_3 => det_and rfl rfl rfl (fun h => and_mk (by assumption) h) rfl) rfl <|
   rwp_det rfl rfl (det_or rfl rfl rfl rfl (fun h => (lzf h))) <|
   rwp_nil <|
   awp_cond rfl (fun c2 => ?_) (fun c2 => ?_)
  ·try simp only [sx] at c2
   refine sReg rfl <|
    rMv rfl <|
    rwp_nil <|
    awp_ret <|
    fin1 (rs_c rfl) ?_
   rw [storeE_u c1 c2]
  ·try simp only [sx] at c2
   refine awp_skip <|
    sReg rfl <|
    rwp_det rfl rfl (det_load_agg rfl agg25 rfl (ptr_row 3 rfl) rfl) <|
    rMv rfl <|
    rwp_det rfl rfl (det_field_lit rfl fd54_6 rfl) <|
    rwp_det rfl rfl (det_load_agg rfl agg52 rfl (ptr_row 2 rfl) rfl) <|
    rwp_det rfl rfl (det_call rfl ok152 (ref30_Checked n bd s.E hn hb (by omega)) ⟨VLe.refl _, rfl, VLe.refl _, rfl, VLe.refl _, rfl, trivial⟩) <|
    rwp_det rfl rfl (det_move_tup rfl rfl) <|
    rwp_det rfl rfl (det_ex_agg rfl rfl rfl) <|
    rwp_det rfl rfl (det_ex_c rfl rfl rfl) <|
    rwp_op rfl rfl (ope_alloc rfl zr40) ?_
   rintro _ _ ⟨b5, rfl, rfl⟩
   refine rwp_det0 rfl rfl (det_store rfl sz40 rfl rfl rfl (st_row 0 rfl rfl)) <|
    rMv rfl <|
    rwp_nil <|
    awp_seq <|
    sReg rfl <|
    rMv rfl <|
    rwp_det rfl rfl (det_eql rfl rfl rfl) <|
    rMv rfl <|
    rLz [] rfl gv1 trivial (fun g8_2 => det_field_lit rfl fd54_6 rfl) rfl <|
    rLz [(63, _)] rfl gv1 ⟨rfl, rfl, trivial⟩ (fun g8_2 => det_load_agg rfl agg52 rfl (ptr_row 3 rfl) rfl) rfl <|
    rLz [(64, _)] rfl gv1 ⟨rfl, rfl, trivial⟩ (fun g8_2 => det_call rfl ok153 (brocaderef14_IsCondition _) ⟨VLe.refl _, rfl, trivial⟩) rfl <|
    rLz [(65, _)] rfl gv1 ⟨rfl, rfl, trivial⟩ (fun g8_2 => det_move rfl rfl) rfl <|
    rLz [] rfl gv2 trivial (fun g8_6 => det_load_agg rfl agg40 rfl (ptr_row 0 rfl) rfl) rfl <|
    rLz [] rfl gv2 trivial (fun g8_6 => det_field_lit rfl fd42_1 rfl) rfl <|
    rLz [(68, _)] rfl gv2 ⟨rfl, rfl, trivial⟩ (fun g8_6 => det_load_agg rfl agg40 rfl (ptr_row 1 rfl) rfl) rfl <|
    rLz [(67, _), (69, _)] rfl gv2 ⟨rfl, rfl, rfl, rfl, trivial⟩ (fun g8_6 => det_aneq rfl fl40 rfl rfl rfl) rfl <|
    rLz [(66, _)] rfl gv1 ⟨rfl, rfl, trivial⟩ (fun g8_2 => det_or rfl rfl rfl rfl (fun h => and_mk (by assumption) (lzf h))) rfl <|
    rwp_det rfl rfl (det_and rfl rfl rfl (fun h => h) rfl) <|
    rwp_nil <|
    awp_cond rfl (fun c3 => ?_) (fun c3 => ?_)
   ·obtain ⟨h0, h10⟩ := st3_t c3
    refine sReg rfl <|
     rMv rfl <|
     rwp_nil <|
     awp_ret <|
     fin1 (rs_c rfl) ?_
    rw [storeE_10 c1 (by omega) h0 h10]
   ·have h3 := st3_f c3
    refine awp_skip <|
     sReg rfl <|
     rMv rfl <|
     rMv rfl <|
     rwp_nil <|
     awp_ret <|
     fin1 (rs_c rfl) ?_
    rw [st_fin c1 (by omega) h3]

theorem ref30_one (n : Ns) (bd : List Bd) (U : List ByteArray) (s : St) (hn : n.Ok) (hb : bd.length ≤ 1000000) (hs : s.wt ≤ 900000) (hU : U.length ≤ 1000000) :
    Pur cfg 114 [vNs n, vBds bd, vSs U, vSt s] (vI (stE n.Bufs U (bd.map Bd.Name) s)) := by
 refine con_intro Tryz.func114 rfl Tryz.ntmps114 Tryz.results114 rfl ?_
 intro z hz
 obtain ⟨hE, hI, hIw, hB, hBw⟩ := St.parts hs
 refine sReg rfl <|
  rwp_op rfl rfl (ope_box rfl rfl) ?_
 rintro _ _ ⟨b1, rfl, rfl⟩
 refine rwp_op rfl rfl (ope_box rfl rfl) ?_
 rintro _ _ ⟨b2, rfl, rfl⟩
 refine rMv rfl <|
  rwp_nil <|
  awp_seq <|
  sReg rfl <|
  rwp_det rfl rfl (det_load_agg rfl agg54 rfl (ptr_row 0 rfl) rfl) <|
  rwp_det rfl rfl (det_call rfl ok151 (ref30_plain s (by omega)) ⟨VLe.refl _, rfl, trivial⟩) <|
  rwp_det rfl rfl (det_not rfl rfl) <|
  rwp_nil <|
  awp_cond rfl (fun c1 => ?_) (fun c1 => ?_)
 ·try simp only [sx] at c1
  refine sReg rfl <|
   rMv rfl <|
   rwp_nil <|
   awp_ret <|
   fin1 (rs_c rfl) ?_
  rw [stE_5 c1]
 ·try simp only [sx] at c1
  refine awp_skip <|
   awp_seq <|
   sReg rfl <|
   rwp_det rfl rfl (det_field_lit rfl fd54_0 rfl) <|
   rwp_det rfl rfl (det_load_one rfl one3 rfl (ptr_row 0 rfl) rfl) <|
   rwp_nil <|
   awp_block <|
   sReg rfl <|
   rwp_det rfl rfl (det_eql rfl rfl rfl) <|
   rMv rfl <|
   rwp_nil <|
   awp_cond rfl (fun c2 => ?_) (fun c2 => ?_)
  ·try simp only [sx] at c2
   refine sReg rfl <|
    rwp_det rfl rfl (det_load_agg rfl agg25 rfl (ptr_row 1 rfl) rfl) <|
    rwp_det rfl rfl (det_field_lit rfl fd54_1 rfl) <|
    rwp_det rfl rfl (det_load_one rfl one9 rfl (ptr_row 0 rfl) rfl) <|
    rwp_det rfl rfl (det_call rfl ok30 (ref30_Buffer n s.Name hn) ⟨VLe.refl _, rfl, VLe.refl _, rfl, trivial⟩) <|
    rwp_det rfl rfl (det_move_tup rfl rfl) <|
    rwp_det rfl rfl (det_ex_agg rfl rfl rfl) <|
    rwp_det rfl rfl (det_ex_c rfl rfl rfl) <|
    rwp_op rfl rfl (ope_allocN [none, none, none, none, none, none, some 1, none] rfl zr42 rfl) ?_
   rintro _ _ ⟨b3, rfl, rfl⟩
   refine rwp_det0 rfl rfl (det_store rfl sz42 rfl rfl rfl (st_row 0 rfl rfl)) <|
    rMv rfl <|
    rwp_nil <|
    awp_seq <|
    awp_block <|
    sReg rfl <|
    rwp_det rfl rfl (det_field_lit rfl fd54_1 rfl) <|
    rwp_det rfl rfl (det_load_one rfl one9 rfl (ptr_row 1 rfl) rfl) <|
    rwp_det rfl rfl (det_call rfl ok50 (base_Name s.Name) ⟨VLe.refl _, rfl, trivial⟩) <|
    rwp_det rfl rfl (det_not rfl rfl) <|
    rMv rfl <|
    rwp_nil <|
    awp_cond rfl (fun c3 => ?_) (fun c3 => ?_)
   ·try simp only [sx] at c3
    refine sReg rfl <|
     rMv rfl <|
     rwp_nil <|
     awp_ret <|
     fin1 (rs_c rfl) ?_
    rw [stE_l c1 c2, loopE_7 c3]
   ·try simp only [sx] at c3
    refine sReg rfl <|
     rMv rfl <|
     rMv rfl <|
     rLz [] rfl gv1 trivial (fun g8_1 => det_move rfl rfl) rfl <|
     rLz [] rfl gv1 trivial (fun g8_1 => det_field_lit rfl fd54_1 rfl) rfl <|
     rLz [(36, _)] rfl gv1 ⟨rfl, rfl, trivial⟩ (fun g8_1 => det_load_one rfl one9 rfl (ptr_row 1 rfl) rfl) rfl <|
     rLz [(35, _), (37, _)] rfl gv1 ⟨rfl, rfl, rfl, rfl, trivial⟩ (fun g8_1 => det_call rfl ok49 (base_Has U s.Name (by omega)) ⟨VLe.refl _, rfl, VLe.refl _, rfl, trivial⟩) rfl <|
     rwp_det rfl rfl (det_or rfl rfl rfl rfl (fun h => (lzf h))) <|
     rMv rfl <|
     rwp_nil <|
     awp_cond rfl (fun c4 => ?_) (fun c4 => ?_)
    ·try simp only [sx] at c4
     refine sReg rfl <|
      rMv rfl <|
      rwp_nil <|
      awp_ret <|
      fin1 (rs_c rfl) ?_
     rw [stE_l c1 c2, loopE_8 c3 c4]
    ·try simp only [sx] at c4
     have h8 : ¬ (hasBf n.Bufs s.Name = true ∨ hasB U s.Name = true) := by rw [c4.1, c4.2]; simp
     refine sReg rfl <|
      rwp_det rfl rfl (det_field_lit rfl fd54_2 rfl) <|
      rwp_det rfl rfl (det_load_one rfl one3 rfl (ptr_row 1 rfl) rfl) <|
      rwp_det rfl rfl (det_lss rfl rfl rfl) <|
      rMv rfl <|
      rLz [] rfl gv1 trivial (fun g10_3 => det_field_lit rfl fd54_2 rfl) rfl <|
      rLz [(45, _)] rfl gv1 ⟨rfl, rfl, trivial⟩ (fun g10_3 => det_load_one rfl one3 rfl (ptr_row 1 rfl) rfl) rfl <|
      rLz [(46, _)] rfl gv1 ⟨rfl, rfl, trivial⟩ (fun g10_3 => det_gtr rfl rfl rfl) rfl <|
      rwp_det rfl rfl (det_or rfl rfl rfl rfl (fun h => (lzf h))) <|
      rMv rfl <|
      rLz [] rfl gv1 trivial (fun g10_8 => det_field_lit rfl fd54_3 rfl) rfl <|
      rLz [(50, _)] rfl gv1 ⟨rfl, rfl, trivial⟩ (fun g10_8 => det_load_one rfl one3 rfl (ptr_row 1 rfl) rfl) rfl <|
      rLz [(51, _)] rfl gv1 ⟨rfl, rfl, trivial⟩ (fun g10_8 => det_lss rfl rfl rfl) rfl <|
      rwp_det rfl rfl (det_or rfl rfl rfl rfl (fun h => (lzf h))) <|
      rMv rfl <|
      rLz [] rfl gv1 trivial (fun g10_13 => det_field_lit rfl fd54_3 rfl) rfl <|
      rLz [(55, _)] rfl gv1 ⟨rfl, rfl, trivial⟩ (fun g10_13 => det_load_one rfl one3 rfl (ptr_row 1 rfl) rfl) rfl <|
      rLz [(56, _)] rfl gv1 ⟨rfl, rfl, trivial⟩ (fun g10_13 => det_gtr rfl rfl rfl) rfl <|
      rwp_det rfl rfl (det_or rfl rfl rfl rfl (fun h => (lzf h))) <|
      rMv rfl <|
      rwp_nil <|
      awp_cond rfl (fun c5 => ?_) (fun c5 => ?_)
     ·try simp only [sx] at c5
      refine sReg rfl <|
       rMv rfl <|
       rwp_nil <|
       awp_ret <|
       fin1 (rs_c rfl) ?_
      rw [stE_l c1 c2, loopE_1 c3 h8 (by omega)]
     ·try simp only [sx] at c5
      refine awp_skip <|
       sReg rfl <|
       rMv rfl <|
       rwp_nil <|
       awp_ret <|
       fin1 (rs_c rfl) ?_
      rw [stE_l c1 c2, loopE_0 c3 h8 (by omega)]
  ·try simp only [sx] at c2
   refine sReg rfl <|
    rwp_det rfl rfl (det_eql rfl rfl rfl) <|
    rMv rfl <|
    rwp_nil <|
    awp_cond rfl (fun c6 => ?_) (fun c6 => ?_)
   ·try simp only [sx] at c6
    refine sReg rfl <|
     rwp_det rfl rfl (det_load_agg rfl agg25 rfl (ptr_row 1 rfl) rfl) <|
     rMv rfl <|
     rwp_det rfl rfl (det_field_lit rfl fd54_6 rfl) <|
     rwp_det rfl rfl (det_load_agg rfl agg52 rfl (ptr_row 0 rfl) rfl) <|
     rwp_det rfl rfl (det_call rfl ok152 (ref30_Checked n bd s.E hn hb (by omega)) ⟨VLe.refl _, rfl, VLe.refl _, rfl, VLe.refl _, rfl, trivial⟩) <|
     rwp_det rfl rfl (det_move_tup rfl rfl) <|
     rwp_det rfl rfl (det_ex_agg rfl rfl rfl) <|
     rwp_det rfl rfl (det_ex_c rfl rfl rfl) <|
     rwp_op rfl rfl (ope_alloc rfl zr40) ?_
    rintro _ _ ⟨b4, rfl, rfl⟩
    refine rwp_det0 rfl rfl (det_store rfl sz40 rfl rfl rfl (st_row 0 rfl rfl)) <|
     rMv rfl <|
     rwp_nil <|
     awp_seq <|
     sReg rfl <|
     rMv rfl <|
     rwp_det rfl rfl (det_eql rfl rfl rfl) <|
     rMv rfl <|
     rLz [] rfl gv1 trivial (fun g15_2 => det_field_lit rfl fd54_6 rfl) rfl <|
     rLz [(72, _)] rfl gv1 ⟨rfl, rfl, trivial⟩ (fun g15_2 => det_load_agg rfl agg52 rfl (ptr_row 1 rfl) rfl) rfl <|
     rLz [(73, _)] rfl gv1 ⟨rfl, rfl, trivial⟩ (fun g15_2 => det_call rfl ok153 (brocaderef14_IsCondition _) ⟨VLe.refl _, rfl, trivial⟩) rfl <|
     rLz [(74, _)] rfl gv1 ⟨rfl, rfl, trivial⟩ (fun g15_2 => det_not rfl rfl) rfl <|
     rwp_det rfl rfl (det_and rfl rfl rfl (fun h => h) rfl) <|
     rwp_nil <|
     awp_cond rfl (fun c7 => ?_) (fun c7 => ?_)
    ·refine sReg rfl <|
      rMv rfl <|
      rwp_nil <|
      awp_ret <|
      fin1 (rs_c rfl) ?_
     rw [stE_i c1 c6, if_t c7]
    ·refine awp_skip <|
      sReg rfl <|
      rMv rfl <|
      rMv rfl <|
      rwp_nil <|
      awp_ret <|
      fin1 (rs_c rfl) ?_
     rw [stE_i c1 c6, if_fin c7]
   ·try simp only [sx] at c6
    refine awp_skip <|
     sReg rfl <|
     rwp_det rfl rfl (det_load_agg rfl agg25 rfl (ptr_row 1 rfl) rfl) <|
     rMv rfl <|
     rwp_det rfl rfl (det_load_agg rfl agg54 rfl (ptr_row 0 rfl) rfl) <|
     rwp_det rfl rfl (det_call rfl ok154 (ref30_store n bd s hn hb hs) ⟨VLe.refl _, rfl, VLe.refl _, rfl, VLe.refl _, rfl, trivial⟩) <|
     rMv rfl <|
     rwp_nil <|
     awp_ret <|
     fin1 (rs_c rfl) ?_
    rw [stE_s c1 c2 c6]

set_option maxHeartbeats 2000000 in
theorem ref30_body_step (n : Ns) (bd : List Bd) (U : List ByteArray) (l : List St) (W : List Int) (hn : n.Ok) (hU : U.length + stsN l ≤ 1000000) (hb : bd.length + stsN l ≤ 1000000) (hW : W.length + stsN l ≤ 1000000) (hl : stsWt l ≤ 900000) (ih : ∀ s, s ∈ l → ∀ (bd : List Bd) (U : List ByteArray) (W : List Int), U.length + stsN s.Body ≤ 1000000 → bd.length + stsN s.Body ≤ 1000000 → W.length + stsN s.Body ≤ 1000000 → Pur cfg 65 [vNs n, vBds bd, vSs U, vSts s.Body, vIs W] (ckC (chkL n.Bufs U (bd.map Bd.Name) W 0 s.Body))) :
    Pur cfg 65 [vNs n, vBds bd, vSs U, vSts l, vIs W] (ckC (chkL n.Bufs U (bd.map Bd.Name) W 0 l)) := by
 refine con_intro Tryz.func65 rfl Tryz.ntmps65 Tryz.results65 rfl ?_
 intro z hz
 have hll := stsWt_len l
 have hlN := stsN_len l
 refine sReg rfl <|
  rwp_op rfl rfl (ope_box rfl rfl) ?_
 rintro _ _ ⟨b1, rfl, rfl⟩
 refine rwp_op rfl rfl (ope_allocN [some 1, some 1, none] rfl zr106 rfl) ?_
 rintro _ _ ⟨b2, rfl, rfl⟩
 refine rwp_nil <|
  awp_seq <|
  sReg rfl <|
  rMv rfl <|
  rwp_nil <|
  awp_block <|
  awp_weak ⟨[(11, .c _), (2, .c _), (1, .c _), (3, .c _), (4, .c _), (5, .c _), (10, .c _)], [_, _]⟩ (Weak.mk [true, true] ⟨VLe.of_eq rfl, VLe.of_eq rfl, VLe.of_eq rfl, VLe.of_eq rfl, VLe.of_eq rfl, VLe.of_eq rfl, VLe.of_eq rfl, trivial⟩ rfl) <|
  awp_loop_k 2 0 rfl rfl (Nat × List ByteArray) (fun ⟨k, u⟩ => [(11, vI k), (2, vSs u)]) (fun ⟨k, u⟩ => []) (fun ⟨k, u⟩ => k ≤ l.length ∧ (u.length + stsN (l.drop k) ≤ 1000000) ∧ ((chkL n.Bufs U (bd.map Bd.Name) W 0 l) = chkL n.Bufs u (bd.map Bd.Name) W k (l.drop k))) (fun ⟨k, u⟩ => l.length - k) ⟨⟨0, U⟩, ⟨by omega, by simpa using hU, rfl⟩, Weak.mk [true, true] ⟨VLe.refl _, VLe.of_eq (rfl), VLe.refl _, VLe.refl _, VLe.refl _, VLe.refl _, VLe.refl _, trivial⟩ rfl⟩ ?_
 rintro ⟨k, u⟩ ⟨hk, hub, hp⟩
 show AWP _ _ _ _ _ ⟨[(11, vI k), (2, vSs u)] ++ _, [] ++ _⟩
 refine awp_seq <|
  sReg rfl <|
  rMv rfl <|
  rMv rfl <|
  rwp_det rfl rfl (det_len_slm rfl el23 rfl) <|
  rwp_det rfl rfl (det_lss rfl rfl rfl) <|
  rwp_nil <|
  awp_cond rfl (fun c1 => ?_) (fun c1 => ?_)
 ·try simp only [sx] at c1
  obtain ⟨s, hs⟩ := ex_get l k (by omega)
  have hsw := stsWt_mem (mem_of_get hs)
  have hsb := St.body_wt s
  have hsn := stsN_drop hs
  have hse := stN_eq s
  have hsm := stsN_mem (mem_of_get hs)
  have hcl := chkS_len n.Bufs s u (bd.map Bd.Name) (W ++ [(k : Int)])
  refine awp_skip <|
   awp_seq <|
   awp_block <|
   sReg rfl <|
   rwp_det rfl rfl (det_bslice0 rfl el33 zr3) <|
   rMv rfl <|
   rwp_op rfl rfl (ope_append0 rfl el33 rfl rfl (by simp only [List.length_map, List.length_append, List.length_cons, List.length_nil]; omega) (by simp only [List.length_map, List.length_append, List.length_cons, List.length_nil]; omega)) ?_
  rintro _ _ ⟨sv3, rfl, rfl⟩
  refine rMv rfl <|
   rwp_det rfl rfl (det_bslice rfl el33 zr3 rfl rfl rfl rfl) <|
   rwp_op rfl rfl (ope_append 0 rfl el33 rfl rfl rfl (by simp only [List.length_map, List.length_append, List.length_cons, List.length_nil]; omega) (by simp only [List.length_map, List.length_append, List.length_cons, List.length_nil]; omega)) ?_
  rintro _ _ ⟨sv4, rfl, rfl⟩
  refine rMv rfl <|
   rwp_nil <|
   awp_seq <|
   awp_seq <|
   awp_weak _ (Weak.vecEq 0 rfl (rows' := (W ++ [(k : Int)]).map fun i => [cI i]) (by first | rfl | simp | rw [List.take_of_length_le (by simp)])) <|
   awp_weak _ (weak_freezeM 0 rfl (regs' := [(27, _), (12, _)]) (μ' := [_, _]) ⟨FLe.sl, FLe.sl, trivial⟩ ⟨EFle.refl _, EFle.refl _, trivial⟩) <|
   awp_draw 9 mixed (by kernel_rfl) rfl rfl <|
   td_det rfl rfl (det_load_agg rfl agg25 rfl (ptr_row 1 rfl) rfl) <|
   td_det rfl rfl (det_move rfl rfl) <|
   td_det rfl rfl (det_move rfl rfl) <|
   td_det rfl rfl (det_move rfl rfl) <|
   td_det rfl rfl (det_move rfl rfl) <|
   td_det rfl rfl (det_index_sl rfl el23 rfl rfl (by omega) (getmS (by assumption))) <|
   td_det rfl rfl (det_load_agg rfl agg54 rfl ptr_imm rfl) <|
   td_det rfl rfl (det_call rfl ok114 (ref30_one n bd u s hn (by omega) (by have := stsWt_mem (mem_of_get hs); omega) (by omega)) ⟨VLe.refl _, rfl, VLe.refl _, rfl, VLe.refl _, rfl, VLe.refl _, rfl, trivial⟩) <|
   td_det rfl rfl (det_assign rfl rfl) <|
   td_nil <|
   rwp_nil <|
   sReg rfl <|
   rMv rfl <|
   rwp_det rfl rfl (det_neq rfl rfl rfl) <|
   rwp_nil <|
   awp_cond rfl (fun c2 => ?_) (fun c2 => ?_)
  ·try simp only [sx] at c2
   have hx0 := chkS_no (here := W ++ [(k : Int)]) (B := n.Bufs) (U := u) (sc := (bd.map Bd.Name)) (s := s) c2
   refine sReg rfl <|
    rMv rfl <|
    rMv rfl <|
    rwp_det rfl rfl (det_buildN [some 1, none, none] rfl zr106 pl106 rfl rfl) <|
    rwp_det0 rfl rfl (det_store rfl sz106 rfl rfl rfl (st_row 0 rfl rfl)) <|
    rwp_nil <|
    awp_ret <|
    fin1 (rs_cell_agg agg106 rfl (ptr_row 0 rfl) rfl) ?_
   rw [chkL_no hs hp (by rw [hx0]; exact c2), hx0]; rfl
  ·try simp only [sx] at c2
   have hin := chkS_in (here := W ++ [(k : Int)]) (B := n.Bufs) (U := u) (sc := (bd.map Bd.Name)) (s := s) c2
   refine awp_skip <|
    sReg rfl <|
    rMv rfl <|
    rMv rfl <|
    rwp_nil <|
    awp_seq <|
    sReg rfl <|
    rMv rfl <|
    rMv rfl <|
    rwp_det rfl rfl (det_index_sl rfl el23 rfl rfl (by omega) (getmS (by assumption))) <|
    rwp_det rfl rfl (det_field_imm rfl fd54_0 rfl) <|
    rwp_det rfl rfl (det_load_one rfl one3 rfl ptr_imm rfl) <|
    rwp_det rfl rfl (det_eql rfl rfl rfl) <|
    rwp_nil <|
    awp_cond rfl (fun c3 => ?_) (fun c3 => ?_)
   ·try simp only [sx] at c3
    rw [nextU_yes c3, nextU_yes c3, ← map_bd] at hin
    refine awp_seq <|
     awp_draw_c 9 1 [⟨0, .q []⟩, ⟨1, .q []⟩, ⟨3, .q []⟩, ⟨4, .q []⟩, ⟨5, .q []⟩, ⟨6, .q []⟩, ⟨7, .q []⟩, ⟨8, .q []⟩, ⟨2, .e 0 []⟩] mixed (by kernel_rfl) (by kernel_rfl) rfl rfl rfl <|
     fx_skip rfl <|
     fx_skip rfl <|
     fx_skip rfl <|
     fx_skip rfl <|
     fx_skip rfl <|
     fx_skip rfl <|
     fx_skip rfl <|
     fx_skip rfl <|
     fx_skip rfl <|
     fx_nil <|
     sq_det rfl (by decide) rfl rfl (det_bslice0 rfl el72 zr9) <|
     sq_det rfl (by decide) rfl rfl (det_move rfl rfl) <|
     sq_det rfl (by decide) rfl rfl (det_move rfl rfl) <|
     sq_det rfl (by decide) rfl rfl (det_move rfl rfl) <|
     sq_det rfl (by decide) rfl rfl (det_index_sl rfl el23 rfl rfl (by omega) (getmS (by assumption))) <|
     sq_det rfl (by decide) rfl rfl (det_field_imm rfl fd54_1 rfl) <|
     sq_det rfl (by decide) rfl rfl (det_load_one rfl one9 rfl ptr_imm rfl) <|
     sq_det rfl (by decide) rfl rfl (det_bslice rfl el72 zr9 rfl rfl rfl rfl) <|
     sq_op rfl rfl (by decide) rfl rfl (ope_append0 rfl el72 rfl rfl (by simp only [List.length_map, List.length_append, List.length_cons, List.length_nil]; omega) (by simp only [List.length_map, List.length_append, List.length_cons, List.length_nil]; omega)) ?_
    rintro _ _ ⟨sv5, rfl, rfl⟩
    refine ⟨_, rfl, ?_⟩
    refine sq_nil rfl <|
     rwp_op rfl rfl (ope_append 0 rfl el72 rfl rfl rfl (by simp only [List.length_map, List.length_append, List.length_cons, List.length_nil]; omega) (by simp only [List.length_map, List.length_append, List.length_cons, List.length_nil]; omega)) ?_
    rintro _ _ ⟨sv6, rfl, rfl⟩
    refine rMv rfl <|
     rwp_nil <|
     awp_draw_c 15 1 [⟨0, .q []⟩, ⟨1, .q []⟩, ⟨3, .q []⟩, ⟨4, .q []⟩, ⟨5, .q []⟩, ⟨6, .q []⟩, ⟨7, .q []⟩, ⟨8, .q []⟩, ⟨9, .q []⟩, ⟨10, .q []⟩, ⟨11, .q []⟩, ⟨12, .q []⟩, ⟨13, .q []⟩, ⟨14, .q []⟩, ⟨2, .e 0 []⟩] mixed (by kernel_rfl) (by kernel_rfl) rfl rfl rfl <|
     fx_skip rfl <|
     fx_skip rfl <|
     fx_skip rfl <|
     fx_skip rfl <|
     fx_skip rfl <|
     fx_skip rfl <|
     fx_skip rfl <|
     fx_skip rfl <|
     fx_skip rfl <|
     fx_skip rfl <|
     fx_skip rfl <|
     fx_skip rfl <|
     fx_skip rfl <|
     fx_skip rfl <|
     fx_skip rfl <|
     fx_nil <|
     sq_det rfl (by decide) rfl rfl (det_bslice0 rfl el67 zr70) <|
     sq_det rfl (by decide) rfl rfl (det_move rfl rfl) <|
     sq_det rfl (by decide) rfl rfl (det_move rfl rfl) <|
     sq_det rfl (by decide) rfl rfl (det_move rfl rfl) <|
     sq_det rfl (by decide) rfl rfl (det_index_sl rfl el23 rfl rfl (by omega) (getmS (by assumption))) <|
     sq_det rfl (by decide) rfl rfl (det_field_imm rfl fd54_1 rfl) <|
     sq_det rfl (by decide) rfl rfl (det_load_one rfl one9 rfl ptr_imm rfl) <|
     sq_det rfl (by decide) rfl rfl (det_move rfl rfl) <|
     sq_det rfl (by decide) rfl rfl (det_move rfl rfl) <|
     sq_det rfl (by decide) rfl rfl (det_index_sl rfl el23 rfl rfl (by omega) (getmS (by assumption))) <|
     sq_det rfl (by decide) rfl rfl (det_field_imm rfl fd54_2 rfl) <|
     sq_det rfl (by decide) rfl rfl (det_load_one rfl one3 rfl ptr_imm rfl) <|
     sq_det rfl (by decide) rfl rfl (det_build rfl zr70 pl70 rfl) <|
     sq_det rfl (by decide) rfl rfl (det_bslice rfl el67 zr70 rfl rfl rfl rfl) <|
     sq_op rfl rfl (by decide) rfl rfl (ope_append0 rfl el67 rfl rfl (by simp only [List.length_map, List.length_append, List.length_cons, List.length_nil]; omega) (by simp only [List.length_map, List.length_append, List.length_cons, List.length_nil]; omega)) ?_
    rintro _ _ ⟨sv7, rfl, rfl⟩
    refine ⟨_, rfl, ?_⟩
    refine sq_nil rfl <|
     rwp_op rfl rfl (ope_append 0 rfl el67 rfl rfl rfl (by simp only [List.length_map, List.length_append, List.length_cons, List.length_nil]; omega) (by simp only [List.length_map, List.length_append, List.length_cons, List.length_nil]; omega)) ?_
    rintro _ _ ⟨sv8, rfl, rfl⟩
    refine rMv rfl <|
     rwp_nil <|
     awp_seq <|
     awp_weak _ (Weak.vecEq 1 rfl (rows' := (u ++ [s.Name]).map fun s => [cS s]) (by first | rfl | simp | rw [List.take_of_length_le (by simp)])) <|
     awp_weak _ (weak_freezeM 1 rfl (regs' := [(2, _), (57, _)]) (μ' := [_, _, _]) ⟨FLe.sl, FLe.sl, trivial⟩ ⟨EFle.refl _, EFle.refl _, EFle.refl _, trivial⟩) <|
     awp_weak _ (Weak.vecEq 0 rfl (rows' := (bd ++ [(⟨s.Name, s.Many⟩ : Bd)]).map Bd.cells) (by rw [List.map_append]; rfl)) <|
     awp_weak _ (weak_freezeM 0 rfl (regs' := [(14, _), (73, _)]) (μ' := [_, _]) ⟨FLe.sl, FLe.sl, trivial⟩ ⟨EFle.refl _, EFle.refl _, trivial⟩) <|
     awp_draw_c 11 1 [⟨0, .q [2]⟩, ⟨1, .q []⟩, ⟨2, .q []⟩, ⟨3, .q []⟩, ⟨4, .q []⟩, ⟨5, .q []⟩, ⟨6, .q []⟩, ⟨7, .q []⟩, ⟨8, .q []⟩, ⟨9, .q []⟩, ⟨10, .f 0⟩] mixed (by kernel_rfl) (by kernel_rfl) rfl rfl rfl <|
     fx_skip rfl <|
     fx_skip rfl <|
     fx_skip rfl <|
     fx_skip rfl <|
     fx_skip rfl <|
     fx_skip rfl <|
     fx_skip rfl <|
     fx_skip rfl <|
     fx_skip rfl <|
     fx_skip rfl <|
     fx_fresh rfl rfl (fresh_alloc' (ope_allocN [some 1, some 1, none] rfl zr106 rfl)) <|
     fx_nil <|
     sq_det rfl (by decide) rfl rfl (det_load_agg rfl agg25 rfl (ptr_row 0 rfl) rfl) <|
     sq_det rfl (by decide) rfl rfl (det_move rfl rfl) <|
     sq_det rfl (by decide) rfl rfl (det_move rfl rfl) <|
     sq_det rfl (by decide) rfl rfl (det_move rfl rfl) <|
     sq_det rfl (by decide) rfl rfl (det_move rfl rfl) <|
     sq_det rfl (by decide) rfl rfl (det_index_sl rfl el23 rfl rfl (by omega) (getmS (by assumption))) <|
     sq_det rfl (by decide) rfl rfl (det_field_imm rfl fd54_7 rfl) <|
     sq_det rfl (by decide) rfl rfl (det_load_one rfl one23 rfl ptr_imm rfl) <|
     sq_det rfl (by decide) rfl rfl (det_move rfl rfl) <|
     sq_det rfl (by decide) rfl rfl (det_call rfl ok65 (ih s (mem_of_get hs) (bd ++ [(⟨s.Name, s.Many⟩ : Bd)]) (u ++ [s.Name]) (W ++ [(k : Int)]) (by first | omega | (simp; omega)) (by first | omega | (simp; omega)) (by simp; omega)) ⟨VLe.refl _, rfl, VLe.refl _, rfl, VLe.refl _, rfl, VLe.refl _, rfl, VLe.refl _, rfl, trivial⟩) <|
     sq_fresh rfl rfl ?_
    rintro _ _ ⟨b9, rfl, rfl⟩
    refine sq_nil rfl <|
     rwp_det0 rfl rfl (det_store rfl sz106 rfl rfl rfl (st_row 0 rfl rfl)) <|
     rwp_nil <|
     awp_seq <|
     sReg rfl <|
     rwp_det rfl rfl (det_field_lit rfl fd106_2 rfl) <|
     rwp_det rfl rfl (det_load_one rfl one29 rfl (ptr_row 0 rfl) rfl) <|
     rwp_det rfl rfl (det_neq rfl rfl rfl) <|
     rwp_nil <|
     awp_cond rfl (fun c4 => ?_) (fun c4 => ?_)
    ·try simp only [sx] at c4
     rw [← hin] at c4
     refine sReg rfl <|
      rwp_det rfl rfl (det_load_agg rfl agg106 rfl (ptr_row 0 rfl) rfl) <|
      rwp_det0 rfl rfl (det_store rfl sz106 rfl rfl rfl (st_row 1 rfl rfl)) <|
      rwp_nil <|
      awp_ret <|
      fin1 (rs_cell_agg agg106 rfl (ptr_row 1 rfl) rfl) ?_
     rw [chkL_no hs hp c4, hin]; rfl
    ·try simp only [sx] at c4
     rw [← hin] at c4
     refine awp_skip <|
      awp_region rfl <|
      rwp_det rfl rfl (det_field_lit rfl fd106_0 rfl) <|
      rwp_det rfl rfl (det_load_one rfl one72 rfl (ptr_row 0 rfl) rfl) <|
      rMv rfl <|
      rwp_nil <|
      awp_region rfl <|
      rMv rfl <|
      rwp_det rfl rfl (det_add_nw rfl rfl rfl ⟨by omega, by omega⟩) <|
      rMv rfl <|
      rwp_nil ?_
     refine ⟨⟨k + 1, (chkS n.Bufs u (bd.map Bd.Name) (W ++ [(k : Int)]) s).U⟩, ⟨by omega, by omega, chkL_next hs hp c4⟩, (by show l.length - (k + 1) < l.length - k; omega), Weak.mk [false, true, true] ⟨VLe.refl _, VLe.of_eq (congrArg vSs (by rw [hin])), VLe.refl _, VLe.refl _, VLe.refl _, VLe.refl _, VLe.refl _, trivial⟩ rfl⟩
   ·try simp only [sx] at c3
    rw [nextU_no c3, nextU_no c3] at hin
    refine awp_skip <|
     awp_seq <|
     awp_draw_c 11 1 [⟨0, .q [2]⟩, ⟨1, .q []⟩, ⟨2, .q []⟩, ⟨3, .q []⟩, ⟨4, .q []⟩, ⟨5, .q []⟩, ⟨6, .q []⟩, ⟨7, .q []⟩, ⟨8, .q []⟩, ⟨9, .q []⟩, ⟨10, .f 0⟩] mixed (by kernel_rfl) (by kernel_rfl) rfl rfl rfl <|
     fx_skip rfl <|
     fx_skip rfl <|
     fx_skip rfl <|
     fx_skip rfl <|
     fx_skip rfl <|
     fx_skip rfl <|
     fx_skip rfl <|
     fx_skip rfl <|
     fx_skip rfl <|
     fx_skip rfl <|
     fx_fresh rfl rfl (fresh_alloc' (ope_allocN [some 1, some 1, none] rfl zr106 rfl)) <|
     fx_nil <|
     sq_det rfl (by decide) rfl rfl (det_load_agg rfl agg25 rfl (ptr_row 0 rfl) rfl) <|
     sq_det rfl (by decide) rfl rfl (det_move rfl rfl) <|
     sq_det rfl (by decide) rfl rfl (det_move rfl rfl) <|
     sq_det rfl (by decide) rfl rfl (det_move rfl rfl) <|
     sq_det rfl (by decide) rfl rfl (det_move rfl rfl) <|
     sq_det rfl (by decide) rfl rfl (det_index_sl rfl el23 rfl rfl (by omega) (getmS (by assumption))) <|
     sq_det rfl (by decide) rfl rfl (det_field_imm rfl fd54_7 rfl) <|
     sq_det rfl (by decide) rfl rfl (det_load_one rfl one23 rfl ptr_imm rfl) <|
     sq_det rfl (by decide) rfl rfl (det_move rfl rfl) <|
     sq_det rfl (by decide) rfl rfl (det_call rfl ok65 (ih s (mem_of_get hs) bd u (W ++ [(k : Int)]) (by first | omega | (simp; omega)) (by first | omega | (simp; omega)) (by simp; omega)) ⟨VLe.refl _, rfl, VLe.refl _, rfl, VLe.refl _, rfl, VLe.refl _, rfl, VLe.refl _, rfl, trivial⟩) <|
     sq_fresh rfl rfl ?_
    rintro _ _ ⟨b10, rfl, rfl⟩
    refine sq_nil rfl <|
     rwp_det0 rfl rfl (det_store rfl sz106 rfl rfl rfl (st_row 0 rfl rfl)) <|
     rwp_nil <|
     awp_seq <|
     sReg rfl <|
     rwp_det rfl rfl (det_field_lit rfl fd106_2 rfl) <|
     rwp_det rfl rfl (det_load_one rfl one29 rfl (ptr_row 0 rfl) rfl) <|
     rwp_det rfl rfl (det_neq rfl rfl rfl) <|
     rwp_nil <|
     awp_cond rfl (fun c4 => ?_) (fun c4 => ?_)
    ·try simp only [sx] at c4
     rw [← hin] at c4
     refine sReg rfl <|
      rwp_det rfl rfl (det_load_agg rfl agg106 rfl (ptr_row 0 rfl) rfl) <|
      rwp_det0 rfl rfl (det_store rfl sz106 rfl rfl rfl (st_row 1 rfl rfl)) <|
      rwp_nil <|
      awp_ret <|
      fin1 (rs_cell_agg agg106 rfl (ptr_row 1 rfl) rfl) ?_
     rw [chkL_no hs hp c4, hin]; rfl
    ·try simp only [sx] at c4
     rw [← hin] at c4
     refine awp_skip <|
      awp_region rfl <|
      rwp_det rfl rfl (det_field_lit rfl fd106_0 rfl) <|
      rwp_det rfl rfl (det_load_one rfl one72 rfl (ptr_row 0 rfl) rfl) <|
      rMv rfl <|
      rwp_nil <|
      awp_region rfl <|
      rMv rfl <|
      rwp_det rfl rfl (det_add_nw rfl rfl rfl ⟨by omega, by omega⟩) <|
      rMv rfl <|
      rwp_nil ?_
     refine ⟨⟨k + 1, (chkS n.Bufs u (bd.map Bd.Name) (W ++ [(k : Int)]) s).U⟩, ⟨by omega, by omega, chkL_next hs hp c4⟩, (by show l.length - (k + 1) < l.length - k; omega), Weak.mk [false, true, true] ⟨VLe.refl _, VLe.of_eq (congrArg vSs (by rw [hin])), VLe.refl _, VLe.refl _, VLe.refl _, VLe.refl _, VLe.refl _, trivial⟩ rfl⟩
 ·try simp only [sx] at c1
  refine awp_exit <|
   sReg rfl <|
   rMv rfl <|
   rwp_det rfl rfl (det_buildN [none, some 1, none] rfl zr106 pl106 rfl rfl) <|
   rwp_det0 rfl rfl (det_store rfl sz106 rfl rfl rfl (st_row 0 rfl rfl)) <|
   rwp_nil <|
   awp_ret <|
   fin1 (rs_cell_agg agg106 rfl (ptr_row 0 rfl) rfl) ?_
  rw [chkL_end hp (by omega)]; rfl

theorem ref30_body_body (n : Ns) (hn : n.Ok) (s : St) (hl : stsWt s.Body ≤ 900000) : ∀ (bd : List Bd) (U : List ByteArray) (W : List Int), U.length + stsN s.Body ≤ 1000000 → bd.length + stsN s.Body ≤ 1000000 → W.length + stsN s.Body ≤ 1000000 → Pur cfg 65 [vNs n, vBds bd, vSs U, vSts s.Body, vIs W] (ckC (chkL n.Bufs U (bd.map Bd.Name) W 0 s.Body)) := by
  induction s using St.ind with
  | _ s ih =>
    intro bd U W hU hb hW
    refine ref30_body_step n bd U s.Body W hn hU hb hW hl fun a ha => ih a ha ?_
    have := stsWt_mem ha; have := St.body_wt a; omega
theorem ref30_body (n : Ns) (bd : List Bd) (U : List ByteArray) (l : List St) (W : List Int)  (hn : n.Ok) (hU : U.length + stsN l ≤ 1000000) (hb : bd.length + stsN l ≤ 1000000) (hW : W.length + stsN l ≤ 1000000) (hl : stsWt l ≤ 900000) : Pur cfg 65 [vNs n, vBds bd, vSs U, vSts l, vIs W] (ckC (chkL n.Bufs U (bd.map Bd.Name) W 0 l)) :=
  ref30_body_step n bd U l W hn hU hb hW hl fun s hs => ref30_body_body n hn s (by have := stsWt_mem hs; have := St.body_wt s; omega)

theorem ref30_Validate (n : Ns) (hn : n.Ok) (hw : stsWt n.Body ≤ 900000) :
    Pur cfg 17 [vNs n] (.tup [vIs (validN n).1, vI (validN n).2]) := by
 refine con_intro Tryz.func17 rfl Tryz.ntmps17 Tryz.results17 rfl ?_
 intro z hz
 refine sReg rfl <|
  rwp_op rfl rfl (ope_box rfl rfl) ?_
 rintro _ _ ⟨b1, rfl, rfl⟩
 refine rwp_det rfl rfl (det_assignN 1 rfl rfl) <|
  rMv rfl <|
  rwp_nil <|
  awp_seq <|
  sReg rfl <|
  rwp_det rfl rfl (det_field_lit rfl fd25_1 rfl) <|
  rwp_det rfl rfl (det_load_one rfl one23 rfl (ptr_row 0 rfl) rfl) <|
  rwp_det rfl rfl (det_call rfl ok62 (ref30_depth 41 n.Body 41 (by omega) (by omega) rfl) ⟨VLe.refl _, rfl, VLe.refl _, rfl, trivial⟩) <|
  rwp_det rfl rfl (det_gtr rfl rfl rfl) <|
  rwp_nil <|
  awp_cond rfl (fun c1 => ?_) (fun c1 => ?_)
 ·try simp only [sx] at c1
  have hwi := within_f c1
  refine sReg rfl <|
   rwp_det rfl rfl (det_assignN 1 rfl rfl) <|
   rMv rfl <|
   rwp_nil <|
   awp_ret <|
   fin2 (rs_c rfl) (rs_c rfl) ?_
  rw [validN_13 hwi]; rfl
 ·try simp only [sx] at c1
  have hwi := within_t c1
  refine awp_skip <|
   awp_seq <|
   sReg rfl <|
   rwp_det rfl rfl (det_field_lit rfl fd25_1 rfl) <|
   rwp_det rfl rfl (det_load_one rfl one23 rfl (ptr_row 0 rfl) rfl) <|
   rwp_det rfl rfl (det_call rfl ok63 (ref30_size n.Body 2000 2000 (by omega) (by omega) rfl) ⟨VLe.refl _, rfl, VLe.refl _, rfl, trivial⟩) <|
   rwp_det rfl rfl (det_gtr rfl rfl rfl) <|
   rMv rfl <|
   rLz [] rfl gv1 trivial (fun g3_4 => det_field_lit rfl fd25_0 rfl) rfl <|
   rLz [(15, _)] rfl gv1 ⟨rfl, rfl, trivial⟩ (fun g3_4 => det_load_one rfl one22 rfl (ptr_row 0 rfl) rfl) rfl <|
   rLz [(16, _)] rfl gv1 ⟨rfl, rfl, trivial⟩ (fun g3_4 => det_len_slm rfl el22 rfl) rfl <|
   rLz [(17, _)] rfl gv1 ⟨rfl, rfl, trivial⟩ (fun g3_4 => det_gtr rfl rfl rfl) rfl <|
   rwp_det rfl rfl (det_or rfl rfl rfl rfl (fun h => (lzf h))) <|
   rwp_nil <|
   awp_cond rfl (fun c2 => ?_) (fun c2 => ?_)
  ·try simp only [sx] at c2
   refine sReg rfl <|
    rwp_det rfl rfl (det_assignN 1 rfl rfl) <|
    rMv rfl <|
    rwp_nil <|
    awp_ret <|
    fin2 (rs_c rfl) (rs_c rfl) ?_
   rw [validN_2 hwi (by omega)]; rfl
  ·try simp only [sx] at c2
   have hnum := numB_ok (l := n.Body) (m := 2000) (by omega)
   refine awp_skip <|
    awp_seq <|
    sReg rfl <|
    rwp_det rfl rfl (det_load_agg rfl agg25 rfl (ptr_row 0 rfl) rfl) <|
    rwp_det rfl rfl (det_call rfl ok64 (ref30_bufs n hn) ⟨VLe.refl _, rfl, trivial⟩) <|
    rMv rfl <|
    rwp_nil <|
    sReg rfl <|
    rMv rfl <|
    rwp_det rfl rfl (det_neq rfl rfl rfl) <|
    rwp_nil <|
    awp_cond rfl (fun c3 => ?_) (fun c3 => ?_)
   ·try simp only [sx] at c3
    refine sReg rfl <|
     rMv rfl <|
     rwp_det rfl rfl (det_assignN 1 rfl rfl) <|
     rMv rfl <|
     rwp_nil <|
     awp_ret <|
     fin2 (rs_c rfl) (rs_c rfl) ?_
    rw [validN_b hwi (by omega) c3]; rfl
   ·try simp only [sx] at c3
    refine awp_skip <|
     sReg rfl <|
     rwp_det rfl rfl (det_load_agg rfl agg25 rfl (ptr_row 0 rfl) rfl) <|
     rwp_det rfl rfl (det_field_lit rfl fd25_1 rfl) <|
     rwp_det rfl rfl (det_load_one rfl one23 rfl (ptr_row 0 rfl) rfl) <|
     rwp_det rfl rfl (det_call rfl ok65 (ref30_body n [] [] n.Body [] hn (by simp; omega) (by simp; omega) (by simp; omega) hw) ⟨VLe.refl _, rfl, VLe.nil, rfl, VLe.nil, rfl, VLe.refl _, rfl, VLe.nil, rfl, trivial⟩) <|
     rwp_op rfl rfl (ope_allocN [some 1, some 1, none] rfl zr106 rfl) ?_
    rintro _ _ ⟨b2, rfl, rfl⟩
    refine rwp_det0 rfl rfl (det_store rfl sz106 rfl rfl rfl (st_row 0 rfl rfl)) <|
     rwp_nil <|
     awp_seq <|
     awp_draw 6 mixed (by kernel_rfl) rfl rfl <|
     td_det rfl rfl (det_field_lit rfl fd106_1 rfl) <|
     td_det rfl rfl (det_load_one rfl one33 rfl (ptr_row 0 rfl) rfl) <|
     td_det rfl rfl (det_field_lit rfl fd106_2 rfl) <|
     td_det rfl rfl (det_load_one rfl one29 rfl (ptr_row 0 rfl) rfl) <|
     td_det rfl rfl (det_assign rfl rfl) <|
     td_det rfl rfl (det_assign rfl rfl) <|
     td_nil <|
     rwp_nil <|
     awp_ret <|
     fin2 (rs_c rfl) (rs_c rfl) ?_
    rw [validN_c hwi (by omega) c3]; rfl

end Go.W
