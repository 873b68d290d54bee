/-
  Walks: what functions of the program compute. Printed by wip/gen/mk2.py.
  Conditions: none.
-/
import Derived.Test.YtdbflnlalkfeeaaGreatDoorNK
import Derived.Test.YtdbflnlalkfeeaaGreatDoorEngZ
import Derived.Test.YtdbflnlalkfeeaaGreatDoorPlain2
set_option linter.unusedSimpArgs false
set_option linter.unusedVariables false
set_option maxRecDepth 10000
namespace Go.W
open Go Go.Eng Go.Proofs Go.L41 Go.Br
attribute [local irreducible] AWP RWP TD finQ
/-! Fresh trees: the cells of forms, indices, expressions, statements, buffers and nests all of whose slices are new. -/
def cfL (n : Nat) (l : Lf) : List C := [cI l.K, .fr n (.sl 2 (l.L.map Mono.cells))]
def cfI (n : Nat) (x : Ix) : List C := [cI x.Lin.K, .fr n (.sl 2 (x.Lin.L.map Mono.cells)), cS x.From, .fr n (.sl 2 (x.At.map Lf.cells))]
def cfE (n : Nat) (e : Ex) : List C := [cI e.Op, cS e.Name, cI e.Val.N, cI e.Val.D, cI e.Ty.Kind, cI e.Ty.Bits, cI e.Ty.Frac, cI e.Ty.Round, cI e.Ty.Over, cI e.Lin.K, .fr n (.sl 2 (e.Lin.L.map Mono.cells)), .fr n (.sl 4 (e.Idx.map Ix.cells)), .fr n (.sl 13 (e.Args.map Ex.cells))]
def cfS (n : Nat) (s : St) : List C := [cI s.Op, cS s.Name, cI s.Many, cI s.Mark, cI s.Fold, .fr n (.sl 4 (s.Idx.map Ix.cells)), cI s.E.Op, cS s.E.Name, cI s.E.Val.N, cI s.E.Val.D, cI s.E.Ty.Kind, cI s.E.Ty.Bits, cI s.E.Ty.Frac, cI s.E.Ty.Round, cI s.E.Ty.Over, cI s.E.Lin.K, .fr n (.sl 2 (s.E.Lin.L.map Mono.cells)), .fr n (.sl 4 (s.E.Idx.map Ix.cells)), .fr n (.sl 13 (s.E.Args.map Ex.cells)), .fr n (.sl 20 (s.Body.map St.cells))]
theorem own_fresh {X : Cfg} {f : FuncId} {args : List V} {et : TypeId} {size : Nat} {rows rows' : List (List C)} (h : OwnR X f args et size rows) (hf : frRows X.N rows rows') : Pur X f args (.c (.fr X.N (.sl size rows'))) := by
  intro w I vs hH ha
  refine (h w I vs hH ha).mono ?_
  rintro en w' ⟨v, r, μ', I', rfl, ⟨sv, rfl, rfl⟩, hv, hH', x⟩
  have hrep := hH'.rep _ (List.mem_singleton.2 rfl)
  have e1 : v = sv := hv.lit_inv
  subst e1
  refine ⟨v, _, [], fun b => I' b ∨ b ∈ (E.vec v et size rows).blocks, rfl, rfl, ?_, ?_, ?_⟩
  · exact vec_fr (hrep.mono (w' := w') trivial (fun _ _ => rfl) (fun b h => .inl h) fun _ _ => rfl) (fun b hb => .inr hb) (fun b hb => (hH'.own b (mem_blocksOf (List.mem_singleton.2 rfl) hb)).1) hf
  · refine ⟨hH'.lo, hH'.glob, by simp [blocksOf], fun b hb => by simp [blocksOf] at hb, ?_, fun en hen => by simp at hen, fun en hen => by simp at hen⟩
    rintro b (h | h)
    · exact hH'.imm b h
    · exact hrep.lt h
  · refine ⟨x.os, x.tape, x.output, x.size, x.block, fun b h => .inl (x.imm b h), ?_, fun b h => by simp [blocksOf] at h⟩
    rintro b (h | h)
    · exact x.imm' b h
    · rcases x.own' b (mem_blocksOf (List.mem_singleton.2 rfl) h) with h | h
      · simp [blocksOf] at h
      · exact .inr (.inr h)


def cfB (n : Nat) (b : Bf) : List C := [cS b.Name, cI b.T.Kind, cI b.T.Bits, cI b.T.Frac, cI b.T.Round, cI b.T.Over, .fr n (.sl 1 (b.Dims.map fun i => [cI i])), cI b.Use]
def cfN (n : Nat) (x : Ns) : List C := [.fr n (.sl 8 (x.Bufs.map Bf.cells)), .fr n (.sl 20 (x.Body.map St.cells))]
theorem frZ (n : Nat) (x : Int) : frCs n [cI x] [cI x] := ⟨.inl ⟨_, rfl, rfl⟩, trivial⟩
theorem frB (n : Nat) (b : Bf) : frCs n (cfB n b) b.cells := ⟨.inl ⟨_, rfl, rfl⟩, .inl ⟨_, rfl, rfl⟩, .inl ⟨_, rfl, rfl⟩, .inl ⟨_, rfl, rfl⟩, .inl ⟨_, rfl, rfl⟩, .inl ⟨_, rfl, rfl⟩, .inr rfl, .inl ⟨_, rfl, rfl⟩, trivial⟩
theorem frN (n : Nat) (x : Ns) : frCs n (cfN n x) x.cells := ⟨.inr rfl, .inr rfl, trivial⟩
theorem frM (n : Nat) (x : Mono) : frCs n x.cells x.cells := ⟨.inl ⟨_, rfl, rfl⟩, .inl ⟨_, rfl, rfl⟩, trivial⟩
theorem frL (n : Nat) (x : Lf) : frCs n (cfL n x) x.cells := ⟨.inl ⟨_, rfl, rfl⟩, .inr rfl, trivial⟩
theorem frI (n : Nat) (x : Ix) : frCs n (cfI n x) x.cells := ⟨.inl ⟨_, rfl, rfl⟩, .inr rfl, .inl ⟨_, rfl, rfl⟩, .inr rfl, trivial⟩
theorem frE (n : Nat) (e : Ex) : frCs n (cfE n e) e.cs :=
  ⟨.inl ⟨_, rfl, rfl⟩, .inl ⟨_, rfl, rfl⟩, .inl ⟨_, rfl, rfl⟩, .inl ⟨_, rfl, rfl⟩, .inl ⟨_, rfl, rfl⟩, .inl ⟨_, rfl, rfl⟩, .inl ⟨_, rfl, rfl⟩, .inl ⟨_, rfl, rfl⟩, .inl ⟨_, rfl, rfl⟩, .inl ⟨_, rfl, rfl⟩, .inr rfl, .inr rfl, .inr rfl, trivial⟩
theorem frE' (n : Nat) (e : Ex) : frCs n (cfE n e) e.cells := by rw [Ex.cells_eq]; exact frE n e
theorem frS (n : Nat) (s : St) : frCs n (cfS n s) s.cs :=
  ⟨.inl ⟨_, rfl, rfl⟩, .inl ⟨_, rfl, rfl⟩, .inl ⟨_, rfl, rfl⟩, .inl ⟨_, rfl, rfl⟩, .inl ⟨_, rfl, rfl⟩, .inr rfl, .inl ⟨_, rfl, rfl⟩, .inl ⟨_, rfl, rfl⟩, .inl ⟨_, rfl, rfl⟩, .inl ⟨_, rfl, rfl⟩, .inl ⟨_, rfl, rfl⟩, .inl ⟨_, rfl, rfl⟩, .inl ⟨_, rfl, rfl⟩, .inl ⟨_, rfl, rfl⟩, .inl ⟨_, rfl, rfl⟩, .inl ⟨_, rfl, rfl⟩, .inr rfl, .inr rfl, .inr rfl, .inr rfl, trivial⟩
theorem frS' (n : Nat) (s : St) : frCs n (cfS n s) s.cells := by rw [St.cells_eq]; exact frS n s

theorem copyLinF (N0 : Nat) (hN : cfg.N ≤ N0) (l : Lf) (hl : l.L.length ≤ 1073741824) :
    Pur (cfg.up N0 hN) 99 [vLin l] (.agg (cfL N0 l)) := by
 refine con_intro Tryz.func99 rfl Tryz.ntmps99 Tryz.results99 rfl ?_
 intro z hz
 refine sReg rfl <|
  rwp_op rfl rfl (ope_box rfl rfl) ?_
 rintro _ _ ⟨b1, rfl, rfl⟩
 refine rwp_op rfl rfl (ope_allocN [none, some 2] rfl zr49 rfl) ?_
 rintro _ _ ⟨b2, rfl, rfl⟩
 refine rwp_nil <|
  awp_seq <|
  awp_draw 6 mixed (by kernel_rfl) rfl rfl <|
  td_det rfl rfl (det_field_lit rfl fd49_0 rfl) <|
  td_det rfl rfl (det_load_one rfl one2 rfl (ptr_row 1 rfl) rfl) <|
  td_det rfl rfl (det_field_lit rfl fd49_1 rfl) <|
  td_det rfl rfl (det_load_one rfl one47 rfl (ptr_row 1 rfl) rfl) <|
  td_det rfl rfl (det_call rfl ok146 (own_fresh (Con.up (slices_Clone_mono l.L (by omega)) N0 hN) (frRows_map (frM N0) _)) ⟨VLe.refl _, rfl, trivial⟩) <|
  td_det rfl rfl (det_build rfl zr49 pl49 rfl) <|
  td_nil <|
  rwp_det0 rfl rfl (det_store rfl sz49 rfl rfl rfl (st_row 0 rfl rfl)) <|
  rwp_nil <|
  awp_ret <|
  fin1 (rs_cell_agg agg49 rfl (ptr_row 0 rfl) rfl) ?_
 rfl

theorem copyStmts_1F (N0 : Nat) (hN : cfg.N ≤ N0) (l : Lf) (hl : l.L.length ≤ 1073741824) :
    Pur (cfg.up N0 hN) 126 [vLin l] (.tup [.agg (cfL N0 l), vI 0]) := by
 refine con_intro Tryz.func126 rfl Tryz.ntmps126 Tryz.results126 rfl ?_
 intro z hz
 refine sReg rfl <|
  rwp_op rfl rfl (ope_box rfl rfl) ?_
 rintro _ _ ⟨b1, rfl, rfl⟩
 refine rwp_op rfl rfl (ope_allocN [none, some 2] rfl zr49 rfl) ?_
 rintro _ _ ⟨b2, rfl, rfl⟩
 refine rMv rfl <|
  rwp_nil <|
  sReg rfl <|
  rwp_det rfl rfl (det_load_agg rfl agg49 rfl (ptr_row 1 rfl) rfl) <|
  rwp_det rfl rfl (det_call rfl ok99 (copyLinF N0 hN l hl) ⟨VLe.refl _, rfl, trivial⟩) <|
  rwp_det0 rfl rfl (det_store rfl sz49 rfl rfl rfl (st_row 0 rfl rfl)) <|
  rMv rfl <|
  rwp_nil <|
  awp_ret <|
  fin2 (rs_cell_agg agg49 rfl (ptr_row 0 rfl) rfl) (rs_c rfl) ?_
 rfl

theorem mapIndicesF (N0 : Nat) (hN : cfg.N ≤ N0) (c : C) (P : Lf → Prop) (hf : ∀ l, P l → FnPur (cfg.up N0 hN) c [vLin l] (.tup [.agg (cfL N0 l), vI 0])) (i : List Ix) (hi : i.length ≤ 4294967296) (hA : ∀ x, x ∈ i → x.At.length ≤ 4294967296) (hP : ixsAll P i) :
    Pur (cfg.up N0 hN) 86 [vIndices i, .c c] (.tup [.c (.fr N0 (.sl 4 (i.map Ix.cells))), vI 0]) := by
 refine con_intro Tryz.func86 rfl Tryz.ntmps86 Tryz.results86 rfl ?_
 intro z hz
 refine sReg rfl <|
  rwp_det rfl rfl (det_assignN 4 rfl rfl) <|
  rMv rfl <|
  rwp_nil <|
  sReg rfl <|
  rMv rfl <|
  rwp_op rfl rfl (ope_call_own rfl ok133 (Con.up (slices_Clone_ix i hi) N0 hN) ⟨VLe.refl _, rfl, trivial⟩) ?_
 rintro _ _ ⟨sv1, rfl, rfl⟩
 refine rMv rfl <|
  rwp_nil <|
  sReg rfl <|
  rMv rfl <|
  rwp_nil <|
  awp_seq <|
  sReg rfl <|
  rMv rfl <|
  rwp_det rfl rfl (det_len_slm rfl el44 rfl) <|
  rMv rfl <|
  rwp_nil <|
  awp_block <|
  awp_weak ⟨[(14, .c _), (0, .c _), (1, .c _), (6, .c _), (13, .c _)], [_]⟩ (Weak.mk [true] ⟨VLe.of_eq rfl, VLe.of_eq rfl, VLe.of_eq rfl, VLe.of_eq rfl, VLe.of_eq rfl, trivial⟩ rfl) <|
  awp_loop_k 1 1 rfl rfl (Nat) (fun k => [(14, vI k)]) (fun k => [E.vec sv1 114 4 ((i.take k).map (cfI N0) ++ (i.drop k).map Ix.cells)]) (fun k => k ≤ i.length) (fun k => i.length - k) ⟨0, (by omega), Weak.mk [true] ⟨VLe.refl _, VLe.refl _, VLe.refl _, VLe.refl _, VLe.refl _, trivial⟩ rfl⟩ ?_
 rintro k hk
 refine sReg rfl <|
  rwp_det rfl rfl (det_lss rfl rfl rfl) <|
  rwp_nil <|
  awp_seq <|
  awp_cond rfl (fun c1 => ?_) (fun c1 => ?_)
 ·try simp only [sx] at c1
  obtain ⟨x, hx⟩ := ex_get i k (by omega)
  have hAx := hA x (mem_of_get hx)
  refine awp_skip <|
   awp_seq <|
   awp_block <|
   sReg rfl <|
   rMv rfl <|
   rMv rfl <|
   rwp_nil <|
   awp_seq <|
   sReg rfl <|
   rMv rfl <|
   rMv rfl <|
   rMv rfl <|
   rMv rfl <|
   rMv rfl <|
   rwp_det rfl rfl (det_index_sl rfl el44 rfl rfl (by omega) (getm (by assumption))) <|
   rwp_det rfl rfl (det_field_imm rfl fd114_0 rfl) <|
   rwp_det rfl rfl (det_load_agg rfl agg49 rfl ptr_imm rfl) <|
   rwp_det rfl rfl (det_call_val rfl rfl (hf x.Lin (hP x (mem_of_get hx)).1) ⟨VLe.refl _, rfl, trivial⟩) <|
   rwp_det rfl rfl (det_move_tup rfl rfl) <|
   rwp_det rfl rfl (det_ex_agg rfl rfl rfl) <|
   rwp_det rfl rfl (det_ex_c rfl rfl rfl) <|
   rwp_det rfl rfl (det_index_vec 0 rfl el44 rfl rfl rfl (by omega) (mid_len (by simp; omega) (by omega))) <|
   rwp_det rfl rfl (det_field_vec rfl fd114_0 rfl) <|
   rwp_det0 rfl rfl (det_store rfl sz49 rfl rfl rfl (st_vec 0 rfl (mid_get (by simp; omega) hx) rfl)) <|
   rMv rfl <|
   rwp_nil <|
   sReg rfl <|
   rMv rfl <|
   rwp_det rfl rfl (det_neq rfl rfl rfl) <|
   rwp_nil <|
   awp_cond rfl (fun c2 => ?_) (fun c2 => ?_)
  ·try simp only [sx] at c2
   exact (c2 trivial).elim
  ·try simp only [sx] at c2
   refine awp_skip <|
    sReg rfl <|
    rMv rfl <|
    rMv rfl <|
    rMv rfl <|
    rMv rfl <|
    rwp_det rfl rfl (det_index_sl rfl el44 rfl rfl (by omega) (getm (by assumption))) <|
    rwp_det rfl rfl (det_field_imm rfl fd114_2 rfl) <|
    rwp_det rfl rfl (det_load_one rfl one112 rfl ptr_imm rfl) <|
    rwp_op rfl rfl (ope_call_own rfl ok134 (Con.up (slices_Clone_lin x.At (hA x (mem_of_get hx))) N0 hN) ⟨VLe.refl _, rfl, trivial⟩) ?_
   rintro _ _ ⟨sv2, rfl, rfl⟩
   refine rwp_det rfl rfl (det_index_vec 1 rfl el44 rfl rfl rfl (by omega) (by simp; omega)) <|
    rwp_det rfl rfl (det_field_vec rfl fd114_2 rfl) <|
    rwp_det0 rfl rfl (det_store rfl sz112 rfl rfl rfl (st_vec 1 rfl (set_get (by simp; omega)) rfl)) <|
    rwp_nil <|
    sReg rfl <|
    rMv rfl <|
    rMv rfl <|
    rwp_det rfl rfl (det_index_sl rfl el44 rfl rfl (by omega) (getm (by assumption))) <|
    rwp_det rfl rfl (det_field_imm rfl fd114_2 rfl) <|
    rwp_det rfl rfl (det_load_one rfl one112 rfl ptr_imm rfl) <|
    rwp_det rfl rfl (det_len_slm rfl el112 rfl) <|
    rMv rfl <|
    rwp_nil <|
    awp_block <|
    awp_weak ⟨[(50, .c _), (0, .c _), (1, .c _), (6, .c _), (8, .c _), (13, .c _), (14, .c _), (49, .c _)], [_, _]⟩ (Weak.mk [true, true] ⟨VLe.of_eq rfl, VLe.of_eq rfl, VLe.of_eq rfl, VLe.of_eq rfl, VLe.of_eq rfl, VLe.of_eq rfl, VLe.of_eq rfl, VLe.of_eq rfl, trivial⟩ rfl) <|
    awp_loop_k 1 1 rfl rfl (Nat) (fun j => [(50, vI j)]) (fun j => [E.vec sv2 49 2 ((x.At.take j).map (cfL N0) ++ (x.At.drop j).map Lf.cells)]) (fun j => j ≤ x.At.length) (fun j => x.At.length - j) ⟨0, (by omega), Weak.mk [true, true] ⟨VLe.refl _, VLe.refl _, VLe.refl _, VLe.refl _, VLe.refl _, VLe.refl _, VLe.refl _, VLe.refl _, trivial⟩ rfl⟩ ?_
   rintro j hj
   refine sReg rfl <|
    rwp_det rfl rfl (det_lss rfl rfl rfl) <|
    rwp_nil <|
    awp_seq <|
    awp_cond rfl (fun c3 => ?_) (fun c3 => ?_)
   ·try simp only [sx] at c3
    obtain ⟨l, hl⟩ := ex_get x.At j (by omega)
    refine awp_skip <|
     awp_seq <|
     awp_block <|
     sReg rfl <|
     rMv rfl <|
     rMv rfl <|
     rwp_nil <|
     awp_seq <|
     awp_draw_c 21 0 [⟨0, .q []⟩, ⟨1, .q []⟩, ⟨2, .q [1]⟩, ⟨3, .q []⟩, ⟨4, .q [1]⟩, ⟨5, .q []⟩, ⟨6, .q []⟩, ⟨7, .q []⟩, ⟨8, .q []⟩, ⟨9, .q []⟩, ⟨10, .q []⟩, ⟨11, .q []⟩, ⟨12, .q []⟩, ⟨13, .q []⟩, ⟨14, .q []⟩, ⟨15, .q []⟩, ⟨16, .q []⟩, ⟨17, .q []⟩, ⟨18, .q []⟩, ⟨19, .q [0]⟩, ⟨20, .e 0 []⟩] mixed (by kernel_rfl) (by kernel_rfl) rfl rfl rfl <|
     fx_skip rfl <|
     fx_skip rfl <|
     fx_skip rfl <|
     fx_skip rfl <|
     fx_skip rfl <|
     fx_skip rfl <|
     fx_skip rfl <|
     fx_skip rfl <|
     fx_skip rfl <|
     fx_skip rfl <|
     fx_skip rfl <|
     fx_skip rfl <|
     fx_skip rfl <|
     fx_skip rfl <|
     fx_skip rfl <|
     fx_skip rfl <|
     fx_skip rfl <|
     fx_skip rfl <|
     fx_skip rfl <|
     fx_skip rfl <|
     fx_skip rfl <|
     fx_nil <|
     sq_det rfl (by decide) rfl rfl (det_move rfl rfl) <|
     sq_det rfl (by decide) rfl rfl (det_move rfl rfl) <|
     sq_det rfl (by decide) rfl rfl (det_index_vec 0 rfl el44 rfl rfl rfl (by omega) (by simp; omega)) <|
     sq_det rfl (by decide) rfl rfl (det_field_vec rfl fd114_2 rfl) <|
     sq_det rfl (by decide) rfl rfl (det_load_one rfl one112 rfl (ptr_vec 0 rfl (set_get (by simp; omega))) rfl) <|
     sq_det rfl (by decide) rfl rfl (det_move rfl rfl) <|
     sq_det rfl (by decide) rfl rfl (det_move rfl rfl) <|
     sq_det rfl (by decide) rfl rfl (det_move rfl rfl) <|
     sq_det rfl (by decide) rfl rfl (det_move rfl rfl) <|
     sq_det rfl (by decide) rfl rfl (det_index_sl rfl el44 rfl rfl (by omega) (getm (by assumption))) <|
     sq_det rfl (by decide) rfl rfl (det_field_imm rfl fd114_2 rfl) <|
     sq_det rfl (by decide) rfl rfl (det_load_one rfl one112 rfl ptr_imm rfl) <|
     sq_det rfl (by decide) rfl rfl (det_move rfl rfl) <|
     sq_det rfl (by decide) rfl rfl (det_index_sl rfl el112 rfl rfl (by omega) (getm (by assumption))) <|
     sq_det rfl (by decide) rfl rfl (det_load_agg rfl agg49 rfl ptr_imm rfl) <|
     sq_det rfl (by decide) rfl rfl (det_call_val rfl rfl (hf l ((hP x (mem_of_get hx)).2 l (mem_of_get hl))) ⟨VLe.refl _, rfl, trivial⟩) <|
     sq_det rfl (by decide) rfl rfl (det_move_tup rfl rfl) <|
     sq_det rfl (by decide) rfl rfl (det_ex_agg rfl rfl rfl) <|
     sq_det rfl (by decide) rfl rfl (det_ex_c rfl rfl rfl) <|
     sq_det rfl (by decide) rfl rfl (det_index_vec 0 rfl el112 rfl rfl rfl (by omega) (mid_len (by simp; omega) (by omega))) <|
     sq_op0 rfl rfl (by decide) rfl rfl (det_store rfl sz49 rfl rfl rfl (st_vec 0 rfl (mid_get (by simp; omega) hl) rfl)) ?_
    rintro _ _ ⟨rfl, rfl⟩
    refine ⟨_, rfl, ?_⟩
    refine sq_nil rfl <|
     rMv rfl <|
     rwp_nil <|
     sReg rfl <|
     rMv rfl <|
     rwp_det rfl rfl (det_neq rfl rfl rfl) <|
     rwp_nil <|
     awp_cond rfl (fun c4 => ?_) (fun c4 => ?_)
    ·try simp only [sx] at c4
     exact (c4 trivial).elim
    ·try simp only [sx] at c4
     refine awp_skip <|
      awp_region rfl <|
      rwp_det rfl rfl (det_add_nw rfl rfl rfl ⟨by omega, by omega⟩) <|
      rMv rfl <|
      rwp_nil ?_
     refine ⟨j + 1, (by omega), (by omega), Weak.mk [true, true] ⟨VLe.refl _, VLe.refl _, VLe.refl _, VLe.refl _, VLe.refl _, VLe.refl _, VLe.refl _, VLe.refl _, trivial⟩ (by simp only [Int.toNat_natCast, List.set_set]; rw [mid_set (by simp; omega) hl, take_next hl]; simp only [List.map_append, List.map_cons, List.map_nil]; rfl)⟩
   ·try simp only [sx] at c3
    rw [take_all (l := x.At) (k := j) (by omega), drop_end (l := x.At) (k := j) (by omega)]
    simp only [List.map_nil, List.append_nil]
    refine awp_weakF _ (st_freezeF 0 rfl (rows' := x.At.map Lf.cells) (frRows_map (frL N0) _) (regs' := []) (μ' := [_]) trivial ⟨EFlC.vec (r' := [_, _, _, _]) (set_get (by simp; omega)) ⟨.inl rfl, .inl rfl, .inl rfl, .inr ⟨rfl, rfl⟩, trivial⟩, trivial⟩) <|
     awp_exit <|
     awp_region rfl <|
     rwp_det rfl rfl (det_add_nw rfl rfl rfl ⟨by omega, by omega⟩) <|
     rMv rfl <|
     rwp_nil ?_
    refine ⟨k + 1, (by omega), (by omega), Weak.mk [true] ⟨VLe.refl _, VLe.refl _, VLe.refl _, VLe.refl _, VLe.refl _, trivial⟩ (by simp only [Int.toNat_natCast, List.set_set]; rw [mid_set (by simp; omega) hx, take_next hx]; simp only [List.map_append, List.map_cons, List.map_nil]; rfl)⟩
 ·try simp only [sx] at c1
  rw [take_all (l := i) (k := k) (by omega), drop_end (l := i) (k := k) (by omega)]
  simp only [List.map_nil, List.append_nil]
  refine awp_weakF _ (st_freezeF 0 rfl (rows' := i.map Ix.cells) (frRows_map (frI N0) _) (regs' := [(6, _)]) (μ' := []) ⟨FLC.sl, trivial⟩ trivial) <|
   awp_exit <|
   sReg rfl <|
   rMv rfl <|
   rMv rfl <|
   rMv rfl <|
   rwp_nil <|
   awp_ret <|
   fin2 (rs_c rfl) (rs_c rfl) ?_
  exact rfl

theorem mapExprF_step (N0 : Nat) (hN : cfg.N ≤ N0) (c : C) (P : Lf → Prop) (hf : ∀ l, P l → FnPur (cfg.up N0 hN) c [vLin l] (.tup [.agg (cfL N0 l), vI 0])) (e : Ex) (hP : e.allF P) (ih : ∀ a, a ∈ e.Args → a.allF P → a.cnt ≤ 4294967296 → Pur (cfg.up N0 hN) 139 [vE a, .c c] (.tup [.agg (cfE N0 a), vI 0])) (he : e.cnt ≤ 4294967296) :
    Pur (cfg.up N0 hN) 139 [vE e, .c c] (.tup [.agg (cfE N0 e), vI 0]) := by
 refine con_intro Tryz.func139 rfl Tryz.ntmps139 Tryz.results139 rfl ?_
 intro z hz
 obtain ⟨hI, hA, hAt⟩ := e.cparts he
 have hPI := ixsAll_of hP
 refine sReg rfl <|
  rwp_op rfl rfl (ope_box rfl rfl) ?_
 rintro _ _ ⟨b1, rfl, rfl⟩
 refine rwp_op rfl rfl (ope_allocN [none, none, none, none, none, none, none, none, none, none, some 2, some 4, some 13] rfl zr52 rfl) ?_
 rintro _ _ ⟨b2, rfl, rfl⟩
 refine rMv rfl <|
  rwp_nil <|
  sReg rfl <|
  rwp_det rfl rfl (det_load_agg rfl agg52 rfl (ptr_row 1 rfl) rfl) <|
  rwp_op rfl rfl (ope_allocN [none, none, none, none, none, none, none, none, none, none, some 2, some 4, some 13] rfl zr52 rfl) ?_
 rintro _ _ ⟨b3, rfl, rfl⟩
 refine rwp_det0 rfl rfl (det_store rfl sz52 rfl rfl rfl (st_row 0 rfl rfl)) <|
  rwp_nil <|
  sReg rfl <|
  rMv rfl <|
  rwp_nil <|
  awp_seq <|
  sReg rfl <|
  rMv rfl <|
  rwp_det rfl rfl (det_field_lit rfl fd52_4 rfl) <|
  rwp_det rfl rfl (det_load_agg rfl agg49 rfl (ptr_row 2 rfl) rfl) <|
  rwp_det rfl rfl (det_call_val rfl rfl (hf e.Lin (Ex.allF_lin hP)) ⟨VLe.refl _, rfl, trivial⟩) <|
  rwp_det rfl rfl (det_move_tup rfl rfl) <|
  rwp_det rfl rfl (det_ex_agg rfl rfl rfl) <|
  rwp_det rfl rfl (det_ex_c rfl rfl rfl) <|
  rwp_det rfl rfl (det_field_lit rfl fd52_4 rfl) <|
  rwp_det0 rfl rfl (det_store rfl sz49 rfl rfl rfl (st_row 0 rfl rfl)) <|
  rMv rfl <|
  rwp_nil <|
  sReg rfl <|
  rMv rfl <|
  rwp_det rfl rfl (det_neq rfl rfl rfl) <|
  rwp_nil <|
  awp_cond rfl (fun c1 => ?_) (fun c1 => ?_)
 ·try simp only [sx] at c1
  exact (c1 trivial).elim
 ·try simp only [sx] at c1
  refine awp_skip <|
   awp_seq <|
   sReg rfl <|
   rwp_det rfl rfl (det_field_lit rfl fd52_5 rfl) <|
   rwp_det rfl rfl (det_load_one rfl one44 rfl (ptr_row 2 rfl) rfl) <|
   rMv rfl <|
   rwp_det rfl rfl (det_call rfl ok86 (mapIndicesF N0 hN c P hf e.Idx hI hAt hPI) ⟨VLe.refl _, rfl, VLe.refl _, rfl, trivial⟩) <|
   rwp_det rfl rfl (det_move_tup rfl rfl) <|
   rwp_det rfl rfl (det_ex_c rfl rfl rfl) <|
   rwp_det rfl rfl (det_ex_c rfl rfl rfl) <|
   rwp_det rfl rfl (det_field_lit rfl fd52_5 rfl) <|
   rwp_det0 rfl rfl (det_store rfl sz44 rfl rfl rfl (st_row 0 rfl rfl)) <|
   rMv rfl <|
   rwp_nil <|
   sReg rfl <|
   rMv rfl <|
   rwp_det rfl rfl (det_neq rfl rfl rfl) <|
   rwp_nil <|
   awp_cond rfl (fun c2 => ?_) (fun c2 => ?_)
  ·try simp only [sx] at c2
   exact (c2 trivial).elim
  ·try simp only [sx] at c2
   refine awp_skip <|
    sReg rfl <|
    rwp_det rfl rfl (det_field_lit rfl fd52_6 rfl) <|
    rwp_det rfl rfl (det_load_one rfl one50 rfl (ptr_row 2 rfl) rfl) <|
    rwp_op rfl rfl (ope_call_own rfl ok175 (Con.up (slices_Clone_ex e.Args hA) N0 hN) ⟨VLe.refl _, rfl, trivial⟩) ?_
   rintro _ _ ⟨sv4, rfl, rfl⟩
   refine rwp_det rfl rfl (det_field_lit rfl fd52_6 rfl) <|
    rwp_det0 rfl rfl (det_store rfl sz50 rfl rfl rfl (st_row 1 rfl rfl)) <|
    rwp_nil <|
    awp_seq <|
    sReg rfl <|
    rwp_det rfl rfl (det_field_lit rfl fd52_6 rfl) <|
    rwp_det rfl rfl (det_load_one rfl one50 rfl (ptr_row 3 rfl) rfl) <|
    rwp_det rfl rfl (det_len_slm rfl el50 rfl) <|
    rMv rfl <|
    rwp_nil <|
    awp_block <|
    awp_weak ⟨[(41, .c _), (1, .c _), (2, .c _), (4, .c _), (6, .c _), (40, .c _)], [_, _, _, _]⟩ (Weak.mk [true, true, true, true] ⟨VLe.of_eq rfl, VLe.of_eq rfl, VLe.of_eq rfl, VLe.of_eq rfl, VLe.of_eq rfl, VLe.of_eq rfl, trivial⟩ rfl) <|
    awp_loop_k 1 1 rfl rfl (Nat) (fun n => [(41, vI n)]) (fun n => [E.vec sv4 52 13 ((e.Args.take n).map (cfE N0) ++ (e.Args.drop n).map Ex.cells)]) (fun n => n ≤ e.Args.length) (fun n => e.Args.length - n) ⟨0, (by omega), Weak.mk [true, true, true, true] ⟨VLe.refl _, VLe.refl _, VLe.refl _, VLe.refl _, VLe.refl _, VLe.refl _, trivial⟩ rfl⟩ ?_
   rintro n hn
   refine sReg rfl <|
    rwp_det rfl rfl (det_lss rfl rfl rfl) <|
    rwp_nil <|
    awp_seq <|
    awp_cond rfl (fun c3 => ?_) (fun c3 => ?_)
   ·try simp only [sx] at c3
    obtain ⟨a, ha⟩ := ex_get e.Args n (by omega)
    refine awp_skip <|
     awp_seq <|
     awp_block <|
     sReg rfl <|
     rMv rfl <|
     rMv rfl <|
     rwp_nil <|
     awp_seq <|
     awp_draw_c 15 0 [⟨0, .q []⟩, ⟨1, .q [1]⟩, ⟨2, .q []⟩, ⟨3, .q []⟩, ⟨4, .q [3]⟩, ⟨5, .q []⟩, ⟨6, .q []⟩, ⟨7, .q []⟩, ⟨8, .q []⟩, ⟨9, .q []⟩, ⟨10, .q []⟩, ⟨11, .q []⟩, ⟨12, .q []⟩, ⟨13, .q [0]⟩, ⟨14, .e 0 []⟩] mixed (by kernel_rfl) (by kernel_rfl) rfl rfl rfl <|
     fx_skip rfl <|
     fx_skip rfl <|
     fx_skip rfl <|
     fx_skip rfl <|
     fx_skip rfl <|
     fx_skip rfl <|
     fx_skip rfl <|
     fx_skip rfl <|
     fx_skip rfl <|
     fx_skip rfl <|
     fx_skip rfl <|
     fx_skip rfl <|
     fx_skip rfl <|
     fx_skip rfl <|
     fx_skip rfl <|
     fx_nil <|
     sq_det rfl (by decide) rfl rfl (det_field_lit rfl fd52_6 rfl) <|
     sq_det rfl (by decide) rfl rfl (det_load_one rfl one50 rfl (ptr_row 0 rfl) rfl) <|
     sq_det rfl (by decide) rfl rfl (det_move rfl rfl) <|
     sq_det rfl (by decide) rfl rfl (det_field_lit rfl fd52_6 rfl) <|
     sq_det rfl (by decide) rfl rfl (det_load_one rfl one50 rfl (ptr_row 0 rfl) rfl) <|
     sq_det rfl (by decide) rfl rfl (det_move rfl rfl) <|
     sq_det rfl (by decide) rfl rfl (det_index_sl rfl el50 rfl rfl (by omega) (getmE (by assumption))) <|
     sq_det rfl (by decide) rfl rfl (det_load_agg rfl agg52 rfl ptr_imm rfl) <|
     sq_det rfl (by decide) rfl rfl (det_move rfl rfl) <|
     sq_det rfl (by decide) rfl rfl (det_call rfl ok139 (ih a (mem_of_get ha) (Ex.allF_arg hP (mem_of_get ha)) (by have := Ex.arg_cnt (mem_of_get ha); omega)) ⟨VLe.refl _, rfl, VLe.refl _, rfl, trivial⟩) <|
     sq_det rfl (by decide) rfl rfl (det_move_tup rfl rfl) <|
     sq_det rfl (by decide) rfl rfl (det_ex_agg rfl rfl rfl) <|
     sq_det rfl (by decide) rfl rfl (det_ex_c rfl rfl rfl) <|
     sq_det rfl (by decide) rfl rfl (det_index_vec 0 rfl el50 rfl rfl rfl (by omega) (mid_len (by simp; omega) (by omega))) <|
     sq_op0 rfl rfl (by decide) rfl rfl (det_store rfl sz52 rfl rfl rfl (st_vec 0 rfl (mid_getE (by simp; omega) ha) rfl)) ?_
    rintro _ _ ⟨rfl, rfl⟩
    refine ⟨_, rfl, ?_⟩
    refine sq_nil rfl <|
     rMv rfl <|
     rwp_nil <|
     sReg rfl <|
     rMv rfl <|
     rwp_det rfl rfl (det_neq rfl rfl rfl) <|
     rwp_nil <|
     awp_cond rfl (fun c4 => ?_) (fun c4 => ?_)
    ·try simp only [sx] at c4
     exact (c4 trivial).elim
    ·try simp only [sx] at c4
     refine awp_skip <|
      awp_region rfl <|
      rwp_det rfl rfl (det_add_nw rfl rfl rfl ⟨by omega, by omega⟩) <|
      rMv rfl <|
      rwp_nil ?_
     refine ⟨n + 1, (by omega), (by omega), Weak.mk [true, true, true, true] ⟨VLe.refl _, VLe.refl _, VLe.refl _, VLe.refl _, VLe.refl _, VLe.refl _, trivial⟩ (by simp only [Int.toNat_natCast, List.set_set]; rw [mid_set (by simp; omega) ha, take_next ha]; simp only [List.map_append, List.map_cons, List.map_nil]; rfl)⟩
   ·try simp only [sx] at c3
    rw [take_all (l := e.Args) (k := n) (by omega), drop_end (l := e.Args) (k := n) (by omega)]
    simp only [List.map_nil, List.append_nil]
    refine awp_weakF _ (st_freezeF 0 rfl (rows' := e.Args.map Ex.cells) (frRows_map (frE' N0) _) (regs' := []) (μ' := [_, _, _]) trivial ⟨EFlC.row (ds := [_, _, _, _, _, _, _, _, _, _, _, _, _]) ⟨.inl rfl, .inl rfl, .inl rfl, .inl rfl, .inl rfl, .inl rfl, .inl rfl, .inl rfl, .inl rfl, .inl rfl, .inl rfl, .inl rfl, .inr ⟨rfl, rfl⟩, trivial⟩, EFlC.refl _, EFlC.refl _, trivial⟩) <|
     awp_exit <|
     sReg rfl <|
     rwp_det rfl rfl (det_load_agg rfl agg52 rfl (ptr_row 0 rfl) rfl) <|
     rwp_det0 rfl rfl (det_store rfl sz52 rfl rfl rfl (st_row 1 rfl rfl)) <|
     rMv rfl <|
     rwp_nil <|
     awp_ret <|
     fin2 (rs_cell_agg agg52 rfl (ptr_row 1 rfl) rfl) (rs_c rfl) ?_
    exact rfl

theorem mapExprF (N0 : Nat) (hN : cfg.N ≤ N0) (c : C) (P : Lf → Prop) (hf : ∀ l, P l → FnPur (cfg.up N0 hN) c [vLin l] (.tup [.agg (cfL N0 l), vI 0])) (e : Ex) (hP : e.allF P) (he : e.cnt ≤ 4294967296) : Pur (cfg.up N0 hN) 139 [vE e, .c c] (.tup [.agg (cfE N0 e), vI 0]) := by
  induction e using Ex.ind with
  | _ e ih => exact mapExprF_step N0 hN c P hf e hP ih he

theorem mapStmtsF_step (N0 : Nat) (hN : cfg.N ≤ N0) (c : C) (P : Lf → Prop) (hf : ∀ l, P l → FnPur (cfg.up N0 hN) c [vLin l] (.tup [.agg (cfL N0 l), vI 0])) (c9 : C) (hg : ∀ s, FnPur (cfg.up N0 hN) c9 [vS s] (vS s)) (l : List St) (hP : allSs P l) (ih : ∀ s, s ∈ l → Pur (cfg.up N0 hN) 93 [vSts s.Body, .c c, .c c9] (.tup [.c (.fr N0 (.sl 20 (s.Body.map St.cells))), vI 0])) (hl : stsWt l ≤ 1073741824) :
    Pur (cfg.up N0 hN) 93 [vSts l, .c c, .c c9] (.tup [.c (.fr N0 (.sl 20 (l.map St.cells))), vI 0]) := by
 refine con_intro Tryz.func93 rfl Tryz.ntmps93 Tryz.results93 rfl ?_
 intro z hz
 have hll := stsWt_len l
 refine sReg rfl <|
  rwp_det rfl rfl (det_assignN 20 rfl rfl) <|
  rMv rfl <|
  rwp_nil <|
  sReg rfl <|
  rMv rfl <|
  rwp_op rfl rfl (ope_call_own rfl ok138 (Con.up (slices_Clone_st l (by omega)) N0 hN) ⟨VLe.refl _, rfl, trivial⟩) ?_
 rintro _ _ ⟨sv1, rfl, rfl⟩
 refine rMv rfl <|
  rwp_nil <|
  sReg rfl <|
  rMv rfl <|
  rwp_nil <|
  awp_seq <|
  sReg rfl <|
  rMv rfl <|
  rwp_det rfl rfl (det_len_slm rfl el23 rfl) <|
  rMv rfl <|
  rwp_nil <|
  awp_block <|
  awp_weak ⟨[(15, .c _), (0, .c _), (1, .c _), (2, .c _), (8, .c _), (14, .c _)], [_]⟩ (Weak.mk [true] ⟨VLe.of_eq rfl, VLe.of_eq rfl, VLe.of_eq rfl, VLe.of_eq rfl, VLe.of_eq rfl, VLe.of_eq rfl, trivial⟩ rfl) <|
  awp_loop_k 1 1 rfl rfl (Nat) (fun k => [(15, vI k)]) (fun k => [E.vec sv1 54 20 ((l.take k).map (cfS N0) ++ (l.drop k).map St.cells)]) (fun k => k ≤ l.length) (fun k => l.length - k) ⟨0, (by omega), Weak.mk [true] ⟨VLe.refl _, VLe.refl _, VLe.refl _, VLe.refl _, VLe.refl _, VLe.refl _, trivial⟩ rfl⟩ ?_
 rintro k hk
 refine sReg rfl <|
  rwp_det rfl rfl (det_lss rfl rfl rfl) <|
  rwp_nil <|
  awp_seq <|
  awp_cond rfl (fun c1 => ?_) (fun c1 => ?_)
 ·try simp only [sx] at c1
  obtain ⟨s, hs⟩ := ex_get l k (by omega)
  have hsw := stsWt_mem (mem_of_get hs)
  have hse := St.wt_eq s
  have hPs := St.allF_eq (allSs_mem hP s (mem_of_get hs))
  refine awp_skip <|
   awp_seq <|
   awp_block <|
   sReg rfl <|
   rMv rfl <|
   rMv rfl <|
   rwp_nil <|
   awp_seq <|
   sReg rfl <|
   rMv rfl <|
   rMv rfl <|
   rwp_det rfl rfl (det_index_sl rfl el23 rfl rfl (by omega) (getmS hs)) <|
   rwp_det rfl rfl (det_field_imm rfl fd54_0 rfl) <|
   rwp_det rfl rfl (det_load_one rfl one3 rfl ptr_imm rfl) <|
   rwp_det rfl rfl (det_eql rfl rfl rfl) <|
   rwp_nil <|
   awp_cond rfl (fun c2 => ?_) (fun c2 => ?_)
  ·try simp only [sx] at c2
   refine awp_region rfl <|
    rMv rfl <|
    rMv rfl <|
    rMv rfl <|
    rMv rfl <|
    rMv rfl <|
    rwp_det rfl rfl (det_index_sl rfl el23 rfl rfl (by omega) (getmS hs)) <|
    rwp_det rfl rfl (det_field_imm rfl fd54_1 rfl) <|
    rwp_det rfl rfl (det_load_one rfl one9 rfl ptr_imm rfl) <|
    rwp_det rfl rfl (det_call_val rfl rfl (hg s.Name) ⟨VLe.refl _, rfl, trivial⟩) <|
    rwp_det rfl rfl (det_index_vec 0 rfl el23 rfl rfl rfl (by omega) (mid_len (by simp; omega) (by omega))) <|
    rwp_det rfl rfl (det_field_vec rfl fd54_1 rfl) <|
    rwp_det0 rfl rfl (det_store rfl sz9 rfl rfl rfl (st_vec 0 rfl (mid_getS (by simp; omega) hs) rfl)) <|
    rwp_nil <|
    awp_seq <|
    sReg rfl <|
    rMv rfl <|
    rMv rfl <|
    rMv rfl <|
    rMv rfl <|
    rwp_det rfl rfl (det_index_sl rfl el23 rfl rfl (by omega) (getmS hs)) <|
    rwp_det rfl rfl (det_field_imm rfl fd54_5 rfl) <|
    rwp_det rfl rfl (det_load_one rfl one44 rfl ptr_imm rfl) <|
    rMv rfl <|
    rwp_det rfl rfl (det_call rfl ok86 (mapIndicesF N0 hN c P hf s.Idx (by omega) (fun x hx => by have := idxWt_mem hx; rw [Ix.wt] at this; omega) hPs.1) ⟨VLe.refl _, rfl, VLe.refl _, rfl, trivial⟩) <|
    rwp_det rfl rfl (det_move_tup rfl rfl) <|
    rwp_det rfl rfl (det_ex_c rfl rfl rfl) <|
    rwp_det rfl rfl (det_ex_c rfl rfl rfl) <|
    rwp_det rfl rfl (det_index_vec 0 rfl el23 rfl rfl rfl (by omega) (by simp; omega)) <|
    rwp_det rfl rfl (det_field_vec rfl fd54_5 rfl) <|
    rwp_det0 rfl rfl (det_store rfl sz44 rfl rfl rfl (st_vec 0 rfl (set_get (by simp; omega)) rfl)) <|
    rMv rfl <|
    rwp_nil <|
    sReg rfl <|
    rMv rfl <|
    rwp_det rfl rfl (det_neq rfl rfl rfl) <|
    rwp_nil <|
    awp_cond rfl (fun c3 => ?_) (fun c3 => ?_)
   ·try simp only [sx] at c3
    exact (c3 trivial).elim
   ·try simp only [sx] at c3
    refine awp_skip <|
     awp_seq <|
     sReg rfl <|
     rMv rfl <|
     rMv rfl <|
     rMv rfl <|
     rMv rfl <|
     rwp_det rfl rfl (det_index_sl rfl el23 rfl rfl (by omega) (getmS hs)) <|
     rwp_det rfl rfl (det_field_imm rfl fd54_6 rfl) <|
     rwp_det rfl rfl (det_load_agg rfl agg52 rfl ptr_imm rfl) <|
     rMv rfl <|
     rwp_det rfl rfl (det_call rfl ok139 (mapExprF N0 hN c P hf s.E hPs.2.1 (by have := s.E.cnt_le; omega)) ⟨VLe.refl _, rfl, VLe.refl _, rfl, trivial⟩) <|
     rwp_det rfl rfl (det_move_tup rfl rfl) <|
     rwp_det rfl rfl (det_ex_agg rfl rfl rfl) <|
     rwp_det rfl rfl (det_ex_c rfl rfl rfl) <|
     rwp_det rfl rfl (det_index_vec 0 rfl el23 rfl rfl rfl (by omega) (by simp; omega)) <|
     rwp_det rfl rfl (det_field_vec rfl fd54_6 rfl) <|
     rwp_det0 rfl rfl (det_store rfl sz52 rfl rfl rfl (st_vec 0 rfl (set_get (by simp; omega)) rfl)) <|
     rMv rfl <|
     rwp_nil <|
     sReg rfl <|
     rMv rfl <|
     rwp_det rfl rfl (det_neq rfl rfl rfl) <|
     rwp_nil <|
     awp_cond rfl (fun c4 => ?_) (fun c4 => ?_)
    ·try simp only [sx] at c4
     exact (c4 trivial).elim
    ·try simp only [sx] at c4
     refine awp_skip <|
      sReg rfl <|
      rMv rfl <|
      rMv rfl <|
      rMv rfl <|
      rMv rfl <|
      rwp_det rfl rfl (det_index_sl rfl el23 rfl rfl (by omega) (getmS hs)) <|
      rwp_det rfl rfl (det_field_imm rfl fd54_7 rfl) <|
      rwp_det rfl rfl (det_load_one rfl one23 rfl ptr_imm rfl) <|
      rMv rfl <|
      rMv rfl <|
      rwp_det rfl rfl (det_call rfl ok93 (ih s (mem_of_get hs)) ⟨VLe.refl _, rfl, VLe.refl _, rfl, VLe.refl _, rfl, trivial⟩) <|
      rwp_det rfl rfl (det_move_tup rfl rfl) <|
      rwp_det rfl rfl (det_ex_c rfl rfl rfl) <|
      rwp_det rfl rfl (det_ex_c rfl rfl rfl) <|
      rwp_det rfl rfl (det_index_vec 0 rfl el23 rfl rfl rfl (by omega) (by simp; omega)) <|
      rwp_det rfl rfl (det_field_vec rfl fd54_7 rfl) <|
      rwp_det0 rfl rfl (det_store rfl sz23 rfl rfl rfl (st_vec 0 rfl (set_get (by simp; omega)) rfl)) <|
      rMv rfl <|
      rwp_nil <|
      sReg rfl <|
      rMv rfl <|
      rwp_det rfl rfl (det_neq rfl rfl rfl) <|
      rwp_nil <|
      awp_cond rfl (fun c5 => ?_) (fun c5 => ?_)
     ·try simp only [sx] at c5
      exact (c5 trivial).elim
     ·try simp only [sx] at c5
      have hset : ∀ r, ((l.take k).map (cfS N0) ++ (l.drop k).map St.cells).set k r = ((l.take k).map (cfS N0) ++ [r]) ++ (l.drop (k + 1)).map St.cells := fun r => mid_set (by simp; omega) hs
      have hset2 : ∀ r r', (((l.take k).map (cfS N0) ++ [r]) ++ (l.drop (k + 1)).map St.cells).set k r' = ((l.take k).map (cfS N0) ++ [r']) ++ (l.drop (k + 1)).map St.cells := fun r r' => mid_set' (α := St) (f := St.cells) (l := l) (by simp; omega)
      refine awp_skip <|
       awp_region rfl <|
       rwp_det rfl rfl (det_add_nw rfl rfl rfl ⟨by omega, by omega⟩) <|
       rMv rfl <|
       rwp_nil ?_
      refine ⟨k + 1, (by omega), (by omega), Weak.mk [true] ⟨VLe.refl _, VLe.refl _, VLe.refl _, VLe.refl _, VLe.refl _, VLe.refl _, trivial⟩ (by simp only [Int.toNat_natCast, List.set_set, hset, hset2]; rw [take_next hs]; simp only [List.map_append, List.map_cons, List.map_nil]; rfl)⟩
  ·try simp only [sx] at c2
   refine awp_skip <|
    awp_seq <|
    sReg rfl <|
    rMv rfl <|
    rMv rfl <|
    rMv rfl <|
    rMv rfl <|
    rwp_det rfl rfl (det_index_sl rfl el23 rfl rfl (by omega) (getmS hs)) <|
    rwp_det rfl rfl (det_field_imm rfl fd54_5 rfl) <|
    rwp_det rfl rfl (det_load_one rfl one44 rfl ptr_imm rfl) <|
    rMv rfl <|
    rwp_det rfl rfl (det_call rfl ok86 (mapIndicesF N0 hN c P hf s.Idx (by omega) (fun x hx => by have := idxWt_mem hx; rw [Ix.wt] at this; omega) hPs.1) ⟨VLe.refl _, rfl, VLe.refl _, rfl, trivial⟩) <|
    rwp_det rfl rfl (det_move_tup rfl rfl) <|
    rwp_det rfl rfl (det_ex_c rfl rfl rfl) <|
    rwp_det rfl rfl (det_ex_c rfl rfl rfl) <|
    rwp_det rfl rfl (det_index_vec 0 rfl el23 rfl rfl rfl (by omega) (mid_len (by simp; omega) (by omega))) <|
    rwp_det rfl rfl (det_field_vec rfl fd54_5 rfl) <|
    rwp_det0 rfl rfl (det_store rfl sz44 rfl rfl rfl (st_vec 0 rfl (mid_getS (by simp; omega) hs) rfl)) <|
    rMv rfl <|
    rwp_nil <|
    sReg rfl <|
    rMv rfl <|
    rwp_det rfl rfl (det_neq rfl rfl rfl) <|
    rwp_nil <|
    awp_cond rfl (fun c3 => ?_) (fun c3 => ?_)
   ·try simp only [sx] at c3
    exact (c3 trivial).elim
   ·try simp only [sx] at c3
    refine awp_skip <|
     awp_seq <|
     sReg rfl <|
     rMv rfl <|
     rMv rfl <|
     rMv rfl <|
     rMv rfl <|
     rwp_det rfl rfl (det_index_sl rfl el23 rfl rfl (by omega) (getmS hs)) <|
     rwp_det rfl rfl (det_field_imm rfl fd54_6 rfl) <|
     rwp_det rfl rfl (det_load_agg rfl agg52 rfl ptr_imm rfl) <|
     rMv rfl <|
     rwp_det rfl rfl (det_call rfl ok139 (mapExprF N0 hN c P hf s.E hPs.2.1 (by have := s.E.cnt_le; omega)) ⟨VLe.refl _, rfl, VLe.refl _, rfl, trivial⟩) <|
     rwp_det rfl rfl (det_move_tup rfl rfl) <|
     rwp_det rfl rfl (det_ex_agg rfl rfl rfl) <|
     rwp_det rfl rfl (det_ex_c rfl rfl rfl) <|
     rwp_det rfl rfl (det_index_vec 0 rfl el23 rfl rfl rfl (by omega) (by simp; omega)) <|
     rwp_det rfl rfl (det_field_vec rfl fd54_6 rfl) <|
     rwp_det0 rfl rfl (det_store rfl sz52 rfl rfl rfl (st_vec 0 rfl (set_get (by simp; omega)) rfl)) <|
     rMv rfl <|
     rwp_nil <|
     sReg rfl <|
     rMv rfl <|
     rwp_det rfl rfl (det_neq rfl rfl rfl) <|
     rwp_nil <|
     awp_cond rfl (fun c4 => ?_) (fun c4 => ?_)
    ·try simp only [sx] at c4
     exact (c4 trivial).elim
    ·try simp only [sx] at c4
     refine awp_skip <|
      sReg rfl <|
      rMv rfl <|
      rMv rfl <|
      rMv rfl <|
      rMv rfl <|
      rwp_det rfl rfl (det_index_sl rfl el23 rfl rfl (by omega) (getmS hs)) <|
      rwp_det rfl rfl (det_field_imm rfl fd54_7 rfl) <|
      rwp_det rfl rfl (det_load_one rfl one23 rfl ptr_imm rfl) <|
      rMv rfl <|
      rMv rfl <|
      rwp_det rfl rfl (det_call rfl ok93 (ih s (mem_of_get hs)) ⟨VLe.refl _, rfl, VLe.refl _, rfl, VLe.refl _, rfl, trivial⟩) <|
      rwp_det rfl rfl (det_move_tup rfl rfl) <|
      rwp_det rfl rfl (det_ex_c rfl rfl rfl) <|
      rwp_det rfl rfl (det_ex_c rfl rfl rfl) <|
      rwp_det rfl rfl (det_index_vec 0 rfl el23 rfl rfl rfl (by omega) (by simp; omega)) <|
      rwp_det rfl rfl (det_field_vec rfl fd54_7 rfl) <|
      rwp_det0 rfl rfl (det_store rfl sz23 rfl rfl rfl (st_vec 0 rfl (set_get (by simp; omega)) rfl)) <|
      rMv rfl <|
      rwp_nil <|
      sReg rfl <|
      rMv rfl <|
      rwp_det rfl rfl (det_neq rfl rfl rfl) <|
      rwp_nil <|
      awp_cond rfl (fun c5 => ?_) (fun c5 => ?_)
     ·try simp only [sx] at c5
      exact (c5 trivial).elim
     ·try simp only [sx] at c5
      have hset : ∀ r, ((l.take k).map (cfS N0) ++ (l.drop k).map St.cells).set k r = ((l.take k).map (cfS N0) ++ [r]) ++ (l.drop (k + 1)).map St.cells := fun r => mid_set (by simp; omega) hs
      have hset2 : ∀ r r', (((l.take k).map (cfS N0) ++ [r]) ++ (l.drop (k + 1)).map St.cells).set k r' = ((l.take k).map (cfS N0) ++ [r']) ++ (l.drop (k + 1)).map St.cells := fun r r' => mid_set' (α := St) (f := St.cells) (l := l) (by simp; omega)
      refine awp_skip <|
       awp_region rfl <|
       rwp_det rfl rfl (det_add_nw rfl rfl rfl ⟨by omega, by omega⟩) <|
       rMv rfl <|
       rwp_nil ?_
      refine ⟨k + 1, (by omega), (by omega), Weak.mk [true] ⟨VLe.refl _, VLe.refl _, VLe.refl _, VLe.refl _, VLe.refl _, VLe.refl _, trivial⟩ (by simp only [Int.toNat_natCast, List.set_set, hset, hset2]; rw [take_next hs]; simp only [List.map_append, List.map_cons, List.map_nil]; rfl)⟩
 ·try simp only [sx] at c1
  rw [take_all (l := l) (k := k) (by omega), drop_end (l := l) (k := k) (by omega)]
  simp only [List.map_nil, List.append_nil]
  refine awp_weakF _ (st_freezeF 0 rfl (rows' := l.map St.cells) (frRows_map (frS' N0) _) (regs' := [(8, _)]) (μ' := []) ⟨FLC.sl, trivial⟩ trivial) <|
   awp_exit <|
   sReg rfl <|
   rMv rfl <|
   rMv rfl <|
   rMv rfl <|
   rwp_nil <|
   awp_ret <|
   fin2 (rs_c rfl) (rs_c rfl) ?_
  exact rfl

theorem mapStmtsF_body (N0 : Nat) (hN : cfg.N ≤ N0) (c : C) (P : Lf → Prop) (hf : ∀ l, P l → FnPur (cfg.up N0 hN) c [vLin l] (.tup [.agg (cfL N0 l), vI 0])) (c9 : C) (hg : ∀ s, FnPur (cfg.up N0 hN) c9 [vS s] (vS s)) (s : St) (hP : allSs P s.Body) (hl : stsWt s.Body ≤ 1073741824) : Pur (cfg.up N0 hN) 93 [vSts s.Body, .c c, .c c9] (.tup [.c (.fr N0 (.sl 20 (s.Body.map St.cells))), vI 0]) := by
  induction s using St.ind with
  | _ s ih => exact mapStmtsF_step N0 hN c P hf c9 hg s.Body hP (fun a ha => ih a ha (St.allF_eq (allSs_mem hP a ha)).2.2 (by have := stsWt_mem ha; have := St.body_wt a; omega)) hl
theorem mapStmtsF (N0 : Nat) (hN : cfg.N ≤ N0) (c : C) (P : Lf → Prop) (hf : ∀ l, P l → FnPur (cfg.up N0 hN) c [vLin l] (.tup [.agg (cfL N0 l), vI 0])) (c9 : C) (hg : ∀ s, FnPur (cfg.up N0 hN) c9 [vS s] (vS s)) (l : List St) (hP : allSs P l) (hl : stsWt l ≤ 1073741824) : Pur (cfg.up N0 hN) 93 [vSts l, .c c, .c c9] (.tup [.c (.fr N0 (.sl 20 (l.map St.cells))), vI 0]) :=
  mapStmtsF_step N0 hN c P hf c9 hg l hP (fun s hs => mapStmtsF_body N0 hN c P hf c9 hg s (St.allF_eq (allSs_mem hP s hs)).2.2 (by have := stsWt_mem hs; have := St.body_wt s; omega)) hl

theorem copyStmtsF (N0 : Nat) (hN : cfg.N ≤ N0) (l : List St) (hl : stsWt l ≤ 1073741824) :
    Pur (cfg.up N0 hN) 77 [vSts l] (.c (.fr N0 (.sl 20 (l.map St.cells)))) := by
 refine con_intro Tryz.func77 rfl Tryz.ntmps77 Tryz.results77 rfl ?_
 intro z hz
 refine sReg rfl <|
  rwp_det rfl rfl (det_assignN 20 rfl rfl) <|
  rwp_nil <|
  sReg rfl <|
  rMv rfl <|
  rwp_det rfl rfl (det_call rfl ok93 (mapStmtsF N0 hN _ (fun l => l.L.length ≤ 1073741824) (fun l hl => FnPur.of_pur (first := []) (cap := []) ok126 (copyStmts_1F N0 hN l hl)) _ (fun s => FnPur.of_pur (first := []) (cap := []) ok96 (Con.up (loopnest_same s) N0 hN)) l (sts_short hl) hl) ⟨VLe.refl _, rfl, VLe.refl _, rfl, VLe.refl _, rfl, trivial⟩) <|
  rwp_det rfl rfl (det_move_tup rfl rfl) <|
  rwp_det rfl rfl (det_ex_c rfl rfl rfl) <|
  rwp_det rfl rfl (det_ex_c rfl rfl rfl) <|
  rMv rfl <|
  rMv rfl <|
  rwp_nil <|
  sReg rfl <|
  rMv rfl <|
  rMv rfl <|
  rwp_nil <|
  awp_ret <|
  fin1 (rs_c rfl) ?_
 rfl

theorem copyBufferF (N0 : Nat) (hN : cfg.N ≤ N0) (b : Bf) (hl : b.Dims.length ≤ 17592186044416) :
    Pur (cfg.up N0 hN) 78 [vBf b] (.agg (cfB N0 b)) := by
 refine con_intro Tryz.func78 rfl Tryz.ntmps78 Tryz.results78 rfl ?_
 intro z hz
 refine sReg rfl <|
  rwp_op rfl rfl (ope_box rfl rfl) ?_
 rintro _ _ ⟨b1, rfl, rfl⟩
 refine rwp_op rfl rfl (ope_allocN [none, none, none, none, none, none, some 1, none] rfl zr42 rfl) ?_
 rintro _ _ ⟨b2, rfl, rfl⟩
 refine rwp_nil <|
  sReg rfl <|
  rwp_det rfl rfl (det_field_lit rfl fd42_2 rfl) <|
  rwp_det rfl rfl (det_load_one rfl one33 rfl (ptr_row 1 rfl) rfl) <|
  rwp_det rfl rfl (det_call rfl ok125 (own_fresh (Con.up (slices_Clone_int b.Dims hl) N0 hN) (frRows_map (frZ N0) _)) ⟨VLe.refl _, rfl, trivial⟩) <|
  rwp_det rfl rfl (det_field_lit rfl fd42_2 rfl) <|
  rwp_det0 rfl rfl (det_store rfl sz33 rfl rfl rfl (st_row 1 rfl rfl)) <|
  rwp_nil <|
  sReg rfl <|
  rwp_det rfl rfl (det_load_agg rfl agg42 rfl (ptr_row 1 rfl) rfl) <|
  rwp_det0 rfl rfl (det_store rfl sz42 rfl rfl rfl (st_row 0 rfl rfl)) <|
  rwp_nil <|
  awp_ret <|
  fin1 (rs_cell_agg agg42 rfl (ptr_row 0 rfl) rfl) ?_
 rfl

theorem loopnest_CopyF (N0 : Nat) (hN : cfg.N ≤ N0) (n : Ns) (hn : n.Ok) :
    Pur (cfg.up N0 hN) 52 [vNs n] (.agg (cfN N0 n)) := by
 refine con_intro Tryz.func52 rfl Tryz.ntmps52 Tryz.results52 rfl ?_
 intro z hz
 have hnb := hn.bufs
 have hnw := hn.body
 refine sReg rfl <|
  rwp_op rfl rfl (ope_box rfl rfl) ?_
 rintro _ _ ⟨b1, rfl, rfl⟩
 refine rwp_op rfl rfl (ope_allocN [some 8, some 20] rfl zr25 rfl) ?_
 rintro _ _ ⟨b2, rfl, rfl⟩
 refine rwp_nil <|
  sReg rfl <|
  rwp_det rfl rfl (det_field_lit rfl fd25_1 rfl) <|
  rwp_det rfl rfl (det_load_one rfl one23 rfl (ptr_row 1 rfl) rfl) <|
  rwp_det rfl rfl (det_call rfl ok77 (copyStmtsF N0 hN n.Body (by omega)) ⟨VLe.refl _, rfl, trivial⟩) <|
  rwp_det rfl rfl (det_build rfl zr25 pl25 rfl) <|
  rwp_op rfl rfl (ope_allocN [some 8, some 20] rfl zr25 rfl) ?_
 rintro _ _ ⟨b3, rfl, rfl⟩
 refine rwp_det0 rfl rfl (det_store rfl sz25 rfl rfl rfl (st_row 0 rfl rfl)) <|
  rwp_nil <|
  awp_seq <|
  sReg rfl <|
  rwp_weak _ (weak_own 42 8) <|
  rwp_det rfl rfl (det_field_lit rfl fd25_0 rfl) <|
  rwp_det rfl rfl (det_load_one rfl one22 rfl (ptr_row 3 rfl) rfl) <|
  rwp_det rfl rfl (det_len_slm rfl el22 rfl) <|
  rMv rfl <|
  rwp_nil <|
  awp_block <|
  awp_weak ⟨[(12, .c _), (1, .c _), (2, .c _), (3, .c _), (11, .c _)], [_, _, _, _]⟩ (Weak.mk [true, true, true, true] ⟨VLe.of_eq rfl, VLe.of_eq rfl, VLe.of_eq rfl, VLe.of_eq rfl, VLe.of_eq rfl, trivial⟩ rfl) <|
  awp_loop_k 1 2 rfl rfl (Nat × Value) (fun ⟨k, sv⟩ => [(12, vI k)]) (fun ⟨k, sv⟩ => [E.vec sv 42 8 ((n.Bufs.take k).map (cfB N0)), E.row b3 25 [.lit sv, .fr N0 (.sl 20 (n.Body.map St.cells))]]) (fun ⟨k, sv⟩ => k ≤ n.Bufs.length) (fun ⟨k, sv⟩ => n.Bufs.length - k) ⟨⟨0, (.slice none 0 0)⟩, (by omega), Weak.mk [true, true, true, true] ⟨VLe.refl _, VLe.refl _, VLe.refl _, VLe.refl _, VLe.refl _, trivial⟩ rfl⟩ ?_
 rintro ⟨k, sv⟩ hk
 show AWP _ _ _ _ _ ⟨[(12, vI k)] ++ _, [E.vec sv 42 8 ((n.Bufs.take k).map (cfB N0)), E.row b3 25 [.lit sv, .fr N0 (.sl 20 (n.Body.map St.cells))]] ++ _⟩
 refine sReg rfl <|
  rwp_det rfl rfl (det_lss rfl rfl rfl) <|
  rwp_nil <|
  awp_seq <|
  awp_cond rfl (fun c1 => ?_) (fun c1 => ?_)
 ·try simp only [sx] at c1
  obtain ⟨b, hb⟩ := ex_get n.Bufs k (by omega)
  have hbd := hn.dims b (mem_of_get hb)
  refine awp_skip <|
   awp_seq <|
   awp_block <|
   sReg rfl <|
   rMv rfl <|
   rMv rfl <|
   rwp_nil <|
   awp_draw 9 mixed (by kernel_rfl) rfl rfl <|
   td_det rfl rfl (det_field_lit rfl fd25_0 rfl) <|
   td_det rfl rfl (det_load_one rfl one22 rfl (ptr_row 1 rfl) rfl) <|
   td_det rfl rfl (det_field_lit rfl fd25_0 rfl) <|
   td_det rfl rfl (det_load_one rfl one22 rfl (ptr_row 3 rfl) rfl) <|
   td_det rfl rfl (det_move rfl rfl) <|
   td_det rfl rfl (det_index_sl rfl el22 rfl rfl (by omega) (getm (by assumption))) <|
   td_det rfl rfl (det_load_agg rfl agg42 rfl ptr_imm rfl) <|
   td_det rfl rfl (det_call rfl ok78 (copyBufferF N0 hN b (by omega)) ⟨VLe.refl _, rfl, trivial⟩) <|
   td_det rfl rfl (det_bslice rfl el22 zr42 rfl rfl rfl rfl) <|
   td_nil <|
   rwp_op rfl rfl (ope_append 0 rfl el22 rfl rfl rfl (by simp only [List.length_map, List.length_append, List.length_cons, List.length_nil, List.length_take, List.length_drop]; omega) (by simp only [List.length_map, List.length_append, List.length_cons, List.length_nil, List.length_take, List.length_drop]; omega)) ?_
  rintro _ _ ⟨sv4, rfl, rfl⟩
  refine rwp_det rfl rfl (det_field_lit rfl fd25_0 rfl) <|
   rwp_det0 rfl rfl (det_store rfl sz22 rfl rfl rfl (st_row 1 rfl rfl)) <|
   rwp_nil <|
   awp_region rfl <|
   rwp_det rfl rfl (det_add_nw rfl rfl rfl ⟨by omega, by omega⟩) <|
   rMv rfl <|
   rwp_nil ?_
  refine ⟨⟨k + 1, sv4⟩, (by omega), (by show n.Bufs.length - (k + 1) < n.Bufs.length - k; omega), Weak.mk [true, true, true, true] ⟨VLe.refl _, VLe.refl _, VLe.refl _, VLe.refl _, VLe.refl _, trivial⟩ (by exact mem2_eq' (by rw [take_next hb, List.map_append]; rfl))⟩
 ·try simp only [sx] at c1
  rw [take_all (l := n.Bufs) (k := k) (by omega)]
  refine awp_weakF _ (st_freezeF 0 rfl (rows' := n.Bufs.map Bf.cells) (frRows_map (frB N0) _) (regs' := []) (μ' := [_, _, _]) trivial ⟨EFlC.row (ds := [_, _]) ⟨.inr ⟨rfl, rfl⟩, .inl rfl, trivial⟩, EFlC.refl _, EFlC.refl _, trivial⟩) <|
   awp_exit <|
   sReg rfl <|
   rwp_det rfl rfl (det_load_agg rfl agg25 rfl (ptr_row 0 rfl) rfl) <|
   rwp_det0 rfl rfl (det_store rfl sz25 rfl rfl rfl (st_row 1 rfl rfl)) <|
   rwp_nil <|
   awp_ret <|
   fin1 (rs_cell_agg agg25 rfl (ptr_row 1 rfl) rfl) ?_
  rfl

theorem loopnest_CopyN (n : Ns) (hn : n.Ok) : Con cfg 52 [vNs n] [] fun r μ' => ∃ bs vs, r = .agg (vs.map .lit) ∧ vs.length = 2 ∧ μ' = [E.reg bs (RegR bs n.cells vs)] :=
  Con.fresh (fun m => frN m n) fun m hm => loopnest_CopyF m hm n hn

end Go.W
