/-
  Walks: what functions of the program compute. Printed by wip/gen/mk2.py.
  Walks: what functions of the program compute. Printed by wip/gen/mk2.py.
  Walks: what functions of the program compute. Printed by wip/gen/mk2.py.
  Conditions: none.
-/
import Derived.Test.YtnnkemdiknefaaaGreatDoorVJX
import Derived.Test.YtnnkemdiknefaaaGreatDoorVG
import Derived.Test.YtnnkemdiknefaaaGreatDoorWU
import Derived.Test.YtnnkemdiknefaaaGreatDoorEngZ
import Derived.Test.YtnnkemdiknefaaaGreatDoorPlain2
section
set_option linter.unusedSimpArgs false
set_option linter.unusedVariables false
namespace Go.W
open Go Go.Eng Go.Proofs Go.L41 Go.Br
attribute [local irreducible] AWP RWP TD
/-- An own slice that is handed back, left alone as a fresh one. -/
theorem own_fresh {X : Cfg} {f : FuncId} {args : List V} {et : TypeId} {size : Nat} {rows rows' : List (List C)} (h : OwnR X f args et size rows) (hf : frRows X.N rows rows') : Pur X f args (.c (.fr X.N (.sl size rows'))) := by
  intro w I vs hH ha
  refine (h w I vs hH ha).mono ?_
  rintro en w' ⟨v, r, μ', I', rfl, ⟨sv, rfl, rfl⟩, hv, hH', x⟩
  have hrep := hH'.rep _ (List.mem_singleton.2 rfl)
  have e1 : v = sv := hv.lit_inv
  subst e1
  refine ⟨v, _, [], fun b => I' b ∨ b ∈ (E.vec v et size rows).blocks, rfl, rfl, ?_, ?_, ?_⟩
  · exact vec_fr (hrep.mono (w' := w') trivial (fun _ _ => rfl) (fun b h => .inl h) fun _ _ => rfl) (fun b hb => .inr hb) (fun b hb => (hH'.own b (mem_blocksOf (List.mem_singleton.2 rfl) hb)).1) hf
  · refine ⟨hH'.lo, hH'.glob, by simp [blocksOf], fun b hb => by simp [blocksOf] at hb, ?_, fun en hen => by simp at hen, fun en hen => by simp at hen⟩
    rintro b (h | h)
    · exact hH'.imm b h
    · exact hrep.lt h
  · refine ⟨x.os, x.tape, x.output, x.size, x.block, fun b h => .inl (x.imm b h), ?_, fun b h => by simp [blocksOf] at h⟩
    rintro b (h | h)
    · exact x.imm' b h
    · rcases x.own' b (mem_blocksOf (List.mem_singleton.2 rfl) h) with h | h
      · simp [blocksOf] at h
      · exact .inr (.inr h)


def cfA (n : Nat) (a : Ax) : List C := [cS a.Name, cI a.Size.K, .fr n (.sl 2 (a.Size.L.map Mono.cells))]
def cfCn (n : Nat) (x : Cn) : List C := [cI x.Lin.K, .fr n (.sl 2 (x.Lin.L.map Mono.cells)), cB x.Eq]
def cfPm (n : Nat) (x : Pm) : List C := [cS x.Name, cI x.T.Kind, cI x.T.Bits, cI x.T.Frac, cI x.T.Round, cI x.T.Over, .fr n (.sl 2 (x.Dims.map Lf.cells))]
def cfDf (n : Nat) (x : Df) : List C := [cS x.Name, cI x.T.Kind, cI x.T.Bits, cI x.T.Frac, cI x.T.Round, cI x.T.Over, .fr n (.sl 3 (x.Dims.map Ax.cells)), .fr n (.sl 3 (x.Red.map Ax.cells)), cI x.Fold,
  cI x.Body.Op, cS x.Body.Name, cI x.Body.Val.N, cI x.Body.Val.D, cI x.Body.Ty.Kind, cI x.Body.Ty.Bits, cI x.Body.Ty.Frac, cI x.Body.Ty.Round, cI x.Body.Ty.Over, cI x.Body.Lin.K, .fr n (.sl 2 (x.Body.Lin.L.map Mono.cells)), .fr n (.sl 4 (x.Body.Idx.map Ix.cells)), .fr n (.sl 13 (x.Body.Args.map Ex.cells))]
def cfPg (n : Nat) (p : Pg) : List C := [.fr n (.sl 1 (p.Sizes.map fun s => [cS s])), .fr n (.sl 3 (p.Where.map Cn.cells)), .fr n (.sl 7 (p.Params.map Pm.cells)), .fr n (.sl 22 (p.Defs.map Df.cells)), .fr n (.sl 1 (p.Outs.map fun s => [cS s]))]
theorem frS (n : Nat) (s : ByteArray) : frCs n [cS s] [cS s] := ⟨.inl ⟨_, rfl, rfl⟩, trivial⟩
theorem frA (n : Nat) (x : Ax) : frCs n (cfA n x) x.cells := ⟨.inl ⟨_, rfl, rfl⟩, .inl ⟨_, rfl, rfl⟩, .inr rfl, trivial⟩
theorem frCn (n : Nat) (x : Cn) : frCs n (cfCn n x) x.cells := ⟨.inl ⟨_, rfl, rfl⟩, .inr rfl, .inl ⟨_, rfl, rfl⟩, trivial⟩
theorem frPm (n : Nat) (x : Pm) : frCs n (cfPm n x) x.cells := ⟨.inl ⟨_, rfl, rfl⟩, .inl ⟨_, rfl, rfl⟩, .inl ⟨_, rfl, rfl⟩, .inl ⟨_, rfl, rfl⟩, .inl ⟨_, rfl, rfl⟩, .inl ⟨_, rfl, rfl⟩, .inr rfl, trivial⟩
theorem frDf (n : Nat) (x : Df) : frCs n (cfDf n x) x.cells := ⟨.inl ⟨_, rfl, rfl⟩, .inl ⟨_, rfl, rfl⟩, .inl ⟨_, rfl, rfl⟩, .inl ⟨_, rfl, rfl⟩, .inl ⟨_, rfl, rfl⟩, .inl ⟨_, rfl, rfl⟩, .inr rfl, .inr rfl, .inl ⟨_, rfl, rfl⟩, .inl ⟨_, rfl, rfl⟩, .inl ⟨_, rfl, rfl⟩, .inl ⟨_, rfl, rfl⟩, .inl ⟨_, rfl, rfl⟩, .inl ⟨_, rfl, rfl⟩, .inl ⟨_, rfl, rfl⟩, .inl ⟨_, rfl, rfl⟩, .inl ⟨_, rfl, rfl⟩, .inl ⟨_, rfl, rfl⟩, .inl ⟨_, rfl, rfl⟩, .inr rfl, .inr rfl, .inr rfl, trivial⟩
theorem frPg (n : Nat) (p : Pg) : frCs n (cfPg n p) p.cells := ⟨.inr rfl, .inr rfl, .inr rfl, .inr rfl, .inr rfl, trivial⟩

theorem program_copyFormF (N0 : Nat) (hN : cfg.N ≤ N0) (l : Lf) (hl : l.L.length ≤ 5864062014805) :
    Pur (cfg.up N0 hN) 117 [vLin l] (.agg (cfL N0 l)) := by
 refine con_intro Tryz.func117 rfl Tryz.ntmps117 Tryz.results117 rfl ?_
 intro z hz
 refine awp_seq ?_
 refine awp_region rfl ?_
 refine rwp_op rfl rfl (ope_box rfl rfl) ?_
 rintro _ _ ⟨b1, rfl, rfl⟩
 refine rwp_op rfl rfl (ope_allocN [none, some 2] rfl zr29 rfl) ?_
 rintro _ _ ⟨b2, rfl, rfl⟩
 refine rwp_nil ?_
 refine awp_seq ?_
 refine awp_draw_c 5 1 [⟨0, .q []⟩, ⟨1, .q [2]⟩, ⟨2, .q []⟩, ⟨3, .q [2]⟩, ⟨4, .e 0 []⟩] mixed (by kernel_rfl) (by kernel_rfl) rfl rfl rfl ?_
 refine fx_skip rfl ?_
 refine fx_skip rfl ?_
 refine fx_skip rfl ?_
 refine fx_skip rfl ?_
 refine fx_skip rfl ?_
 refine fx_nil ?_
 refine sq_det rfl (by decide) rfl rfl (det_field_lit rfl fd29_0 rfl) ?_
 refine sq_det rfl (by decide) rfl rfl (det_load_one rfl one2 rfl (ptr_row 0 rfl) rfl) ?_
 refine sq_det rfl (by decide) rfl rfl (det_field_lit rfl fd29_1 rfl) ?_
 refine sq_det rfl (by decide) rfl rfl (det_load_one rfl one27 rfl (ptr_row 0 rfl) rfl) ?_
 refine sq_op rfl rfl (by decide) rfl rfl (ope_call_own rfl ok92 (Con.up (slices_Clone_mono l.L hl) N0 hN) ⟨VLe.refl _, rfl, trivial⟩) ?_
 rintro _ _ ⟨sv3, rfl, rfl⟩
 refine ⟨_, rfl, ?_⟩
 refine sq_nil rfl ?_
 refine rwp_weakF _ (st_freezeF 0 rfl (rows' := l.L.map Mono.cells) (frRows_map (frM N0) _) (regs' := [(7, _)]) (μ' := [_, _]) ⟨FLC.sl, trivial⟩ ⟨EFlC.refl _, EFlC.refl _, trivial⟩) ?_
 refine rwp_det rfl rfl (det_build rfl zr29 pl29 rfl) ?_
 refine rwp_det0 rfl rfl (det_store rfl sz29 rfl rfl rfl (st_row 0 rfl rfl)) ?_
 refine rwp_nil ?_
 refine awp_ret ?_
 repeat (first | refine thenQ_ret ?_ | refine blockQ_ret ?_)
 refine fin1 (rs_cell_agg agg29 rfl (ptr_row 0 rfl) rfl) ?_
 rfl

theorem program_copyFormsF (N0 : Nat) (hN : cfg.N ≤ N0) (l : List Lf) (hl : l.length ≤ 4294967296) (hx : ∀ x, x ∈ l → x.L.length ≤ 5864062014805) :
    OwnR (cfg.up N0 hN) 118 [vLins l] 29 2 (l.map (cfL N0)) := by
 refine con_intro Tryz.func118 rfl Tryz.ntmps118 Tryz.results118 rfl ?_
 intro z hz
 have hl0 := hx
 clear hx
 refine awp_seq ?_
 refine awp_region rfl ?_
 refine rwp_det rfl rfl (det_assignN 2 rfl rfl) ?_
 refine rwp_nil ?_
 refine awp_seq ?_
 refine awp_region rfl ?_
 refine rwp_det rfl rfl (det_assign rfl rfl) ?_
 refine rwp_weak _ (weak_own 29 2) ?_
 refine rwp_nil ?_
 refine awp_seq ?_
 refine awp_seq ?_
 refine awp_region rfl ?_
 refine rwp_det rfl rfl (det_move rfl rfl) ?_
 refine rwp_det rfl rfl (det_len_slm rfl el104 rfl) ?_
 refine rwp_det rfl rfl (det_move rfl rfl) ?_
 refine rwp_nil ?_
 refine awp_block ?_
 refine awp_weak ⟨[(8, .c _), (3, .c _), (6, .c _), (7, .c _)], [_]⟩ (Weak.mk [true] ⟨VLe.of_eq rfl, VLe.of_eq rfl, VLe.of_eq rfl, VLe.of_eq rfl, trivial⟩ rfl) ?_
 refine awp_loop_k 2 1 rfl rfl (Nat × Value) (fun ⟨k, sv⟩ => [(8, vI k), (3, .c (.lit sv))]) (fun ⟨k, sv⟩ => [E.vec sv 29 2 ((l.take k).map (cfL N0))]) (fun ⟨k, sv⟩ => k ≤ l.length) (fun ⟨k, sv⟩ => l.length - k) ⟨⟨0, (.slice none 0 0)⟩, (by omega), Weak.mk [true] ⟨VLe.refl _, VLe.refl _, VLe.refl _, VLe.refl _, trivial⟩ rfl⟩ ?_
 rintro ⟨k, sv⟩ hk
 show AWP _ _ _ _ _ ⟨[(8, vI k), (3, .c (.lit sv))] ++ _, [E.vec sv 29 2 ((l.take k).map (cfL N0))] ++ _⟩
 refine awp_seq ?_
 refine awp_region rfl ?_
 refine rwp_det rfl rfl (det_lss rfl rfl rfl) ?_
 refine rwp_nil ?_
 refine awp_seq ?_
 refine awp_cond rfl (fun c1 => ?_) (fun c1 => ?_)
 ·try simp only [sx, List.length_map] at c1
  obtain ⟨x, hx⟩ := ex_get l k (by omega)
  refine awp_skip ?_
  refine awp_seq ?_
  refine awp_block ?_
  refine awp_seq ?_
  refine awp_region rfl ?_
  refine rwp_det rfl rfl (det_index_sl rfl el104 rfl rfl (by omega) (getm (by assumption))) ?_
  refine rwp_det rfl rfl (det_load_agg rfl agg29 rfl ptr_imm rfl) ?_
  refine rwp_op rfl rfl (ope_allocN [none, some 2] rfl zr29 rfl) ?_
  rintro _ _ ⟨b2, rfl, rfl⟩
  refine rwp_det0 rfl rfl (det_store rfl sz29 rfl rfl rfl (st_row 0 rfl rfl)) ?_
  refine rwp_nil ?_
  refine awp_region rfl ?_
  refine rwp_det rfl rfl (det_move rfl rfl) ?_
  refine rwp_det rfl rfl (det_load_agg rfl agg29 rfl (ptr_row 0 rfl) rfl) ?_
  refine rwp_det rfl rfl (det_call rfl ok117 (program_copyFormF N0 hN _ (hl0 _ (mem_of_get hx))) ⟨VLe.refl _, rfl, trivial⟩) ?_
  refine rwp_det rfl rfl (det_bslice rfl el104 zr29 rfl rfl rfl rfl) ?_
  refine rwp_op rfl rfl (ope_append 1 rfl el104 rfl rfl rfl (by first | omega | (simp only [List.length_take, List.length_map, List.length_append, List.length_nil, List.length_cons]; omega)) (by first | omega | (simp only [List.length_take, List.length_map, List.length_append, List.length_nil, List.length_cons]; omega))) ?_
  rintro _ _ ⟨sv3, rfl, rfl⟩
  refine rwp_det rfl rfl (det_assign rfl rfl) ?_
  refine rwp_nil ?_
  refine awp_region rfl ?_
  refine rwp_det rfl rfl (det_add_nw rfl rfl rfl ⟨by omega, by omega⟩) ?_
  refine rwp_det rfl rfl (det_move rfl rfl) ?_
  refine rwp_nil ?_
  refine ⟨⟨k + 1, sv3⟩, (by omega), (by show l.length - (k + 1) < l.length - k; omega), Weak.mk [false, true] ⟨VLe.refl _, VLe.refl _, VLe.refl _, VLe.refl _, trivial⟩ (by exact mem1_eq (by rw [take_next hx, List.map_append]; rfl))⟩
 ·try simp only [sx, List.length_map] at c1
  refine awp_exit ?_
  refine awp_seq ?_
  refine awp_region rfl ?_
  refine rwp_det rfl rfl (det_move rfl rfl) ?_
  refine rwp_det rfl rfl (det_assign rfl rfl) ?_
  refine rwp_nil ?_
  refine awp_ret ?_
  repeat (first | refine thenQ_ret ?_ | refine blockQ_ret ?_)
  refine fin1 (rs_c rfl) ?_
  exact ⟨_, rfl, by rw [take_all (by omega)]; rfl⟩

theorem program_copyAxesF (N0 : Nat) (hN : cfg.N ≤ N0) (l : List Ax) (hl : l.length ≤ 4294967296) (hx0 : ∀ x, x ∈ l → x.Size.L.length ≤ 5864062014805) :
    OwnR (cfg.up N0 hN) 119 [.c (.sl 3 (l.map Ax.cells))] 88 3 (l.map (cfA N0)) := by
 refine con_intro Tryz.func119 rfl Tryz.ntmps119 Tryz.results119 rfl ?_
 intro z hz
 refine awp_seq ?_
 refine awp_region rfl ?_
 refine rwp_det rfl rfl (det_assignN 3 rfl rfl) ?_
 refine rwp_nil ?_
 refine awp_seq ?_
 refine awp_region rfl ?_
 refine rwp_det rfl rfl (det_assign rfl rfl) ?_
 refine rwp_weak _ (weak_own 88 3) ?_
 refine rwp_nil ?_
 refine awp_seq ?_
 refine awp_seq ?_
 refine awp_region rfl ?_
 refine rwp_det rfl rfl (det_move rfl rfl) ?_
 refine rwp_det rfl rfl (det_len_slm rfl el24 rfl) ?_
 refine rwp_det rfl rfl (det_move rfl rfl) ?_
 refine rwp_nil ?_
 refine awp_block ?_
 refine awp_weak ⟨[(8, .c _), (3, .c _), (6, .c _), (7, .c _)], [_]⟩ (Weak.mk [true] ⟨VLe.of_eq rfl, VLe.of_eq rfl, VLe.of_eq rfl, VLe.of_eq rfl, trivial⟩ rfl) ?_
 refine awp_loop_k 2 1 rfl rfl (Nat × Value) (fun ⟨k, sv⟩ => [(8, vI k), (3, .c (.lit sv))]) (fun ⟨k, sv⟩ => [E.vec sv 88 3 ((l.take k).map (cfA N0))]) (fun ⟨k, sv⟩ => k ≤ l.length) (fun ⟨k, sv⟩ => l.length - k) ⟨⟨0, (.slice none 0 0)⟩, (by omega), Weak.mk [true] ⟨VLe.refl _, VLe.refl _, VLe.refl _, VLe.refl _, trivial⟩ rfl⟩ ?_
 rintro ⟨k, sv⟩ hk
 show AWP _ _ _ _ _ ⟨[(8, vI k), (3, .c (.lit sv))] ++ _, [E.vec sv 88 3 ((l.take k).map (cfA N0))] ++ _⟩
 refine awp_seq ?_
 refine awp_region rfl ?_
 refine rwp_det rfl rfl (det_lss rfl rfl rfl) ?_
 refine rwp_nil ?_
 refine awp_seq ?_
 refine awp_cond rfl (fun c1 => ?_) (fun c1 => ?_)
 ·try simp only [sx, List.length_map] at c1
  obtain ⟨x, hx⟩ := ex_get l k (by omega)
  refine awp_skip ?_
  refine awp_seq ?_
  refine awp_block ?_
  refine awp_seq ?_
  refine awp_region rfl ?_
  refine rwp_det rfl rfl (det_index_sl rfl el24 rfl rfl (by omega) (getm (by assumption))) ?_
  refine rwp_det rfl rfl (det_load_agg rfl agg88 rfl ptr_imm rfl) ?_
  refine rwp_op rfl rfl (ope_allocN [none, none, some 2] rfl zr88 rfl) ?_
  rintro _ _ ⟨b2, rfl, rfl⟩
  refine rwp_det0 rfl rfl (det_store rfl sz88 rfl rfl rfl (st_row 0 rfl rfl)) ?_
  refine rwp_nil ?_
  refine awp_draw 8 mixed (by kernel_rfl) rfl rfl ?_
  refine td_det rfl rfl (det_move rfl rfl) ?_
  refine td_det rfl rfl (det_field_lit rfl fd88_0 rfl) ?_
  refine td_det rfl rfl (det_load_one rfl one9 rfl (ptr_row 0 rfl) rfl) ?_
  refine td_det rfl rfl (det_field_lit rfl fd88_1 rfl) ?_
  refine td_det rfl rfl (det_load_agg rfl agg29 rfl (ptr_row 0 rfl) rfl) ?_
  refine td_det rfl rfl (det_call rfl ok117 (program_copyFormF N0 hN _ (hx0 _ (mem_of_get hx))) ⟨VLe.refl _, rfl, trivial⟩) ?_
  refine td_det rfl rfl (det_build rfl zr88 pl88 rfl) ?_
  refine td_det rfl rfl (det_bslice rfl el24 zr88 rfl rfl rfl rfl) ?_
  refine td_nil ?_
  refine rwp_op rfl rfl (ope_append 1 rfl el24 rfl rfl rfl (by first | omega | (simp only [List.length_take, List.length_map, List.length_append, List.length_nil, List.length_cons]; omega)) (by first | omega | (simp only [List.length_take, List.length_map, List.length_append, List.length_nil, List.length_cons]; omega))) ?_
  rintro _ _ ⟨sv3, rfl, rfl⟩
  refine rwp_det rfl rfl (det_assign rfl rfl) ?_
  refine rwp_nil ?_
  refine awp_region rfl ?_
  refine rwp_det rfl rfl (det_add_nw rfl rfl rfl ⟨by omega, by omega⟩) ?_
  refine rwp_det rfl rfl (det_move rfl rfl) ?_
  refine rwp_nil ?_
  refine ⟨⟨k + 1, sv3⟩, (by omega), (by show l.length - (k + 1) < l.length - k; omega), Weak.mk [false, true] ⟨VLe.refl _, VLe.refl _, VLe.refl _, VLe.refl _, trivial⟩ (by exact mem1_eq (by rw [take_next hx, List.map_append]; rfl))⟩
 ·try simp only [sx, List.length_map] at c1
  refine awp_exit ?_
  refine awp_seq ?_
  refine awp_region rfl ?_
  refine rwp_det rfl rfl (det_move rfl rfl) ?_
  refine rwp_det rfl rfl (det_assign rfl rfl) ?_
  refine rwp_nil ?_
  refine awp_ret ?_
  repeat (first | refine thenQ_ret ?_ | refine blockQ_ret ?_)
  refine fin1 (rs_c rfl) ?_
  exact ⟨_, rfl, by rw [take_all (by omega)]; rfl⟩

theorem program_CopyF (N0 : Nat) (hN : cfg.N ≤ N0) (p : Pg) (hP : p.Ok) :
    Pur (cfg.up N0 hN) 48 [vPg p] (.agg (cfPg N0 p)) := by
 refine con_intro Tryz.func48 rfl Tryz.ntmps48 Tryz.results48 rfl ?_
 intro z hz
 have hP1 := hP.wh
 have hP2 := hP.params
 have hP3 := hP.defs
 refine awp_seq ?_
 refine awp_region rfl ?_
 refine rwp_op rfl rfl (ope_box rfl rfl) ?_
 rintro _ _ ⟨b1, rfl, rfl⟩
 refine rwp_op rfl rfl (ope_allocN [some 1, some 3, some 7, some 22, some 1] rfl zr47 rfl) ?_
 rintro _ _ ⟨b2, rfl, rfl⟩
 refine rwp_nil ?_
 refine awp_seq ?_
 refine awp_draw_c 8 1 [⟨0, .q []⟩, ⟨1, .q [2]⟩, ⟨2, .q []⟩, ⟨3, .q []⟩, ⟨4, .q [2]⟩, ⟨5, .q []⟩, ⟨6, .q []⟩, ⟨7, .f 0⟩] mixed (by kernel_rfl) (by kernel_rfl) rfl rfl rfl ?_
 refine fx_skip rfl ?_
 refine fx_skip rfl ?_
 refine fx_skip rfl ?_
 refine fx_skip rfl ?_
 refine fx_skip rfl ?_
 refine fx_skip rfl ?_
 refine fx_skip rfl ?_
 refine fx_fresh rfl rfl (fresh_alloc' (ope_alloc rfl zr47)) ?_
 refine fx_nil ?_
 refine sq_det rfl (by decide) rfl rfl (det_field_lit rfl fd47_0 rfl) ?_
 refine sq_det rfl (by decide) rfl rfl (det_load_one rfl one42 rfl (ptr_row 0 rfl) rfl) ?_
 refine sq_det rfl (by decide) rfl rfl (det_call rfl ok116 (own_fresh (Con.up (slices_Clone_str p.Sizes hP.sizes) N0 hN) (frRows_map (frS N0) _)) ⟨VLe.refl _, rfl, trivial⟩) ?_
 refine sq_det rfl (by decide) rfl rfl (det_field_lit rfl fd47_4 rfl) ?_
 refine sq_det rfl (by decide) rfl rfl (det_load_one rfl one42 rfl (ptr_row 0 rfl) rfl) ?_
 refine sq_det rfl (by decide) rfl rfl (det_call rfl ok116 (own_fresh (Con.up (slices_Clone_str p.Outs hP.outs) N0 hN) (frRows_map (frS N0) _)) ⟨VLe.refl _, rfl, trivial⟩) ?_
 refine sq_det rfl (by decide) rfl rfl (det_build rfl zr47 pl47 rfl) ?_
 refine sq_fresh rfl rfl ?_
 rintro _ _ ⟨b3, rfl, rfl⟩
 refine sq_nil rfl ?_
 refine rwp_det0 rfl rfl (det_store rfl sz47 rfl rfl rfl (st_row 0 rfl rfl)) ?_
 refine rwp_nil ?_
 refine awp_seq ?_
 refine awp_seq ?_
 refine awp_region rfl ?_
 refine rwp_weak _ (weak_own 111 3) ?_
 refine rwp_weak _ (weak_own 106 7) ?_
 refine rwp_weak _ (weak_own 35 22) ?_
 refine rwp_det rfl rfl (det_field_lit rfl fd47_1 rfl) ?_
 refine rwp_det rfl rfl (det_load_one rfl one43 rfl (ptr_row 5 rfl) rfl) ?_
 refine rwp_det rfl rfl (det_len_slm rfl el43 rfl) ?_
 refine rwp_det rfl rfl (det_move rfl rfl) ?_
 refine rwp_nil ?_
 refine awp_block ?_
 refine awp_weak ⟨[(20, .c _), (1, .c _), (2, .c _), (3, .c _), (18, .c _), (19, .c _)], [_, _, _, _, _, _]⟩ (Weak.mk [true, true, true, true, true, true] ⟨VLe.of_eq rfl, VLe.of_eq rfl, VLe.of_eq rfl, VLe.of_eq rfl, VLe.of_eq rfl, VLe.of_eq rfl, trivial⟩ rfl) ?_
 refine awp_loop_k 1 4 rfl rfl (Nat × Value) (fun ⟨k, sv⟩ => [(20, vI k)]) (fun ⟨k, sv⟩ => [E.vec (.slice none 0 0) 35 22 ([]), E.vec (.slice none 0 0) 106 7 ([]), E.vec sv 111 3 ((p.Where.take k).map (cfCn N0)), E.row b3 47 [.fr N0 (.sl 1 (p.Sizes.map fun s => [cS s])), .lit sv, .lit (.slice none 0 0), .lit (.slice none 0 0), .fr N0 (.sl 1 (p.Outs.map fun s => [cS s]))]]) (fun ⟨k, sv⟩ => k ≤ p.Where.length) (fun ⟨k, sv⟩ => p.Where.length - k) ⟨⟨0, (.slice none 0 0)⟩, (by omega), Weak.mk [true, true, true, true, true, true] ⟨VLe.refl _, VLe.refl _, VLe.refl _, VLe.refl _, VLe.refl _, VLe.refl _, trivial⟩ rfl⟩ ?_
 rintro ⟨k, sv⟩ hk
 show AWP _ _ _ _ _ ⟨[(20, vI k)] ++ _, [E.vec (.slice none 0 0) 35 22 ([]), E.vec (.slice none 0 0) 106 7 ([]), E.vec sv 111 3 ((p.Where.take k).map (cfCn N0)), E.row b3 47 [.fr N0 (.sl 1 (p.Sizes.map fun s => [cS s])), .lit sv, .lit (.slice none 0 0), .lit (.slice none 0 0), .fr N0 (.sl 1 (p.Outs.map fun s => [cS s]))]] ++ _⟩
 refine awp_seq ?_
 refine awp_region rfl ?_
 refine rwp_det rfl rfl (det_lss rfl rfl rfl) ?_
 refine rwp_nil ?_
 refine awp_seq ?_
 refine awp_cond rfl (fun c1 => ?_) (fun c1 => ?_)
 ·try simp only [sx, List.length_map] at c1
  obtain ⟨x, hx⟩ := ex_get p.Where k (by omega)
  refine awp_skip ?_
  refine awp_seq ?_
  refine awp_block ?_
  refine awp_seq ?_
  refine awp_region rfl ?_
  refine rwp_det rfl rfl (det_index_sl rfl el43 rfl rfl (by omega) (getm (by assumption))) ?_
  refine rwp_det rfl rfl (det_load_agg rfl agg111 rfl ptr_imm rfl) ?_
  refine rwp_op rfl rfl (ope_allocN [none, some 2, none] rfl zr111 rfl) ?_
  rintro _ _ ⟨b4, rfl, rfl⟩
  refine rwp_det0 rfl rfl (det_store rfl sz111 rfl rfl rfl (st_row 0 rfl rfl)) ?_
  refine rwp_nil ?_
  refine awp_draw 9 mixed (by kernel_rfl) rfl rfl ?_
  refine td_det rfl rfl (det_field_lit rfl fd47_1 rfl) ?_
  refine td_det rfl rfl (det_load_one rfl one43 rfl (ptr_row 4 rfl) rfl) ?_
  refine td_det rfl rfl (det_field_lit rfl fd111_0 rfl) ?_
  refine td_det rfl rfl (det_load_agg rfl agg29 rfl (ptr_row 0 rfl) rfl) ?_
  refine td_det rfl rfl (det_call rfl ok117 (program_copyFormF N0 hN x.Lin (by have := hP.whs x (mem_of_get hx); omega)) ⟨VLe.refl _, rfl, trivial⟩) ?_
  refine td_det rfl rfl (det_field_lit rfl fd111_1 rfl) ?_
  refine td_det rfl rfl (det_load_one rfl one4 rfl (ptr_row 0 rfl) rfl) ?_
  refine td_det rfl rfl (det_build rfl zr111 pl111 rfl) ?_
  refine td_det rfl rfl (det_bslice rfl el43 zr111 rfl rfl rfl rfl) ?_
  refine td_nil ?_
  refine rwp_op rfl rfl (ope_append 3 rfl el43 rfl rfl rfl (by simp only [List.length_take, List.length_map, List.length_append, List.length_cons, List.length_nil]; omega) (by simp only [List.length_take, List.length_map, List.length_append, List.length_cons, List.length_nil]; omega)) ?_
  rintro _ _ ⟨sv5, rfl, rfl⟩
  refine rwp_det rfl rfl (det_field_lit rfl fd47_1 rfl) ?_
  refine rwp_det0 rfl rfl (det_store rfl sz43 rfl rfl rfl (st_row 4 rfl rfl)) ?_
  refine rwp_nil ?_
  refine awp_region rfl ?_
  refine rwp_det rfl rfl (det_add_nw rfl rfl rfl ⟨by omega, by omega⟩) ?_
  refine rwp_det rfl rfl (det_move rfl rfl) ?_
  refine rwp_nil ?_
  refine ⟨⟨k + 1, sv5⟩, (by omega), (by show p.Where.length - (k + 1) < p.Where.length - k; omega), Weak.mk [false, true, true, true, true, true, true] ⟨VLe.refl _, VLe.refl _, VLe.refl _, VLe.refl _, VLe.refl _, VLe.refl _, trivial⟩ (by exact mem4_eq (by rw [take_next hx, List.map_append]; rfl))⟩
 ·try simp only [sx, List.length_map] at c1
  rw [take_all (l := p.Where) (k := k) (by omega)]
  refine awp_weakF _ (st_freezeF 2 rfl (rows' := p.Where.map Cn.cells) (frRows_map (frCn N0) _) (regs' := []) (μ' := [_, _, _, _, _]) trivial ⟨EFlC.refl _, EFlC.refl _, EFlC.row (ds := [_, _, _, _, _]) ⟨.inl rfl, .inr ⟨rfl, rfl⟩, .inl rfl, .inl rfl, .inl rfl, trivial⟩, EFlC.refl _, EFlC.refl _, trivial⟩) ?_
  refine awp_exit ?_
  refine awp_seq ?_
  refine awp_seq ?_
  refine awp_region rfl ?_
  refine rwp_det rfl rfl (det_field_lit rfl fd47_2 rfl) ?_
  refine rwp_det rfl rfl (det_load_one rfl one44 rfl (ptr_row 4 rfl) rfl) ?_
  refine rwp_det rfl rfl (det_len_slm rfl el44 rfl) ?_
  refine rwp_det rfl rfl (det_move rfl rfl) ?_
  refine rwp_nil ?_
  refine awp_block ?_
  refine awp_weak ⟨[(39, .c _), (1, .c _), (2, .c _), (3, .c _), (37, .c _), (38, .c _)], [_, _, _, _, _]⟩ (Weak.mk [true, true, true, true, true] ⟨VLe.of_eq rfl, VLe.of_eq rfl, VLe.of_eq rfl, VLe.of_eq rfl, VLe.of_eq rfl, VLe.of_eq rfl, trivial⟩ rfl) ?_
  refine awp_loop_k 1 3 rfl rfl (Nat × Value) (fun ⟨k, sw⟩ => [(39, vI k)]) (fun ⟨k, sw⟩ => [E.vec (.slice none 0 0) 35 22 ([]), E.vec sw 106 7 ((p.Params.take k).map (cfPm N0)), E.row b3 47 [.fr N0 (.sl 1 (p.Sizes.map fun s => [cS s])), .fr N0 (.sl 3 (p.Where.map Cn.cells)), .lit sw, .lit (.slice none 0 0), .fr N0 (.sl 1 (p.Outs.map fun s => [cS s]))]]) (fun ⟨k, sw⟩ => k ≤ p.Params.length) (fun ⟨k, sw⟩ => p.Params.length - k) ⟨⟨0, (.slice none 0 0)⟩, (by omega), Weak.mk [true, true, true, true, true] ⟨VLe.refl _, VLe.refl _, VLe.refl _, VLe.refl _, VLe.refl _, VLe.refl _, trivial⟩ rfl⟩ ?_
  rintro ⟨k, sw⟩ hk
  show AWP _ _ _ _ _ ⟨[(39, vI k)] ++ _, [E.vec (.slice none 0 0) 35 22 ([]), E.vec sw 106 7 ((p.Params.take k).map (cfPm N0)), E.row b3 47 [.fr N0 (.sl 1 (p.Sizes.map fun s => [cS s])), .fr N0 (.sl 3 (p.Where.map Cn.cells)), .lit sw, .lit (.slice none 0 0), .fr N0 (.sl 1 (p.Outs.map fun s => [cS s]))]] ++ _⟩
  refine awp_seq ?_
  refine awp_region rfl ?_
  refine rwp_det rfl rfl (det_lss rfl rfl rfl) ?_
  refine rwp_nil ?_
  refine awp_seq ?_
  refine awp_cond rfl (fun c2 => ?_) (fun c2 => ?_)
  ·try simp only [sx, List.length_map] at c2
   obtain ⟨y, hy⟩ := ex_get p.Params k (by omega)
   refine awp_skip ?_
   refine awp_seq ?_
   refine awp_block ?_
   refine awp_seq ?_
   refine awp_region rfl ?_
   refine rwp_det rfl rfl (det_index_sl rfl el44 rfl rfl (by omega) (getm (by assumption))) ?_
   refine rwp_det rfl rfl (det_load_agg rfl agg106 rfl ptr_imm rfl) ?_
   refine rwp_op rfl rfl (ope_allocN [none, none, none, none, none, none, some 2] rfl zr106 rfl) ?_
   rintro _ _ ⟨b6, rfl, rfl⟩
   refine rwp_det0 rfl rfl (det_store rfl sz106 rfl rfl rfl (st_row 0 rfl rfl)) ?_
   refine rwp_nil ?_
   refine awp_seq ?_
   refine awp_region rfl ?_
   refine rwp_det rfl rfl (det_field_lit rfl fd106_2 rfl) ?_
   refine rwp_det rfl rfl (det_load_one rfl one104 rfl (ptr_row 0 rfl) rfl) ?_
   refine rwp_det rfl rfl (det_call rfl ok118 (own_fresh (program_copyFormsF N0 hN y.Dims (hP.ps y (mem_of_get hy)).1 (fun l hl => by have := (hP.ps y (mem_of_get hy)).2 l hl; omega)) (frRows_map (frL N0) _)) ⟨VLe.refl _, rfl, trivial⟩) ?_
   refine rwp_det rfl rfl (det_field_lit rfl fd106_2 rfl) ?_
   refine rwp_det0 rfl rfl (det_store rfl sz104 rfl rfl rfl (st_row 0 rfl rfl)) ?_
   refine rwp_nil ?_
   refine awp_region rfl ?_
   refine rwp_det rfl rfl (det_field_lit rfl fd47_2 rfl) ?_
   refine rwp_det rfl rfl (det_load_one rfl one44 rfl (ptr_row 3 rfl) rfl) ?_
   refine rwp_det rfl rfl (det_load_agg rfl agg106 rfl (ptr_row 0 rfl) rfl) ?_
   refine rwp_det rfl rfl (det_bslice rfl el44 zr106 rfl rfl rfl rfl) ?_
   refine rwp_op rfl rfl (ope_append 2 rfl el44 rfl rfl rfl (by simp only [List.length_take, List.length_map, List.length_append, List.length_cons, List.length_nil]; omega) (by simp only [List.length_take, List.length_map, List.length_append, List.length_cons, List.length_nil]; omega)) ?_
   rintro _ _ ⟨sv7, rfl, rfl⟩
   refine rwp_det rfl rfl (det_field_lit rfl fd47_2 rfl) ?_
   refine rwp_det0 rfl rfl (det_store rfl sz44 rfl rfl rfl (st_row 3 rfl rfl)) ?_
   refine rwp_nil ?_
   refine awp_region rfl ?_
   refine rwp_det rfl rfl (det_add_nw rfl rfl rfl ⟨by omega, by omega⟩) ?_
   refine rwp_det rfl rfl (det_move rfl rfl) ?_
   refine rwp_nil ?_
   refine ⟨⟨k + 1, sv7⟩, (by omega), (by show p.Params.length - (k + 1) < p.Params.length - k; omega), Weak.mk [false, true, true, true, true, true] ⟨VLe.refl _, VLe.refl _, VLe.refl _, VLe.refl _, VLe.refl _, VLe.refl _, trivial⟩ (by exact mem3_eq (by rw [take_next hy, List.map_append]; rfl))⟩
  ·try simp only [sx, List.length_map] at c2
   rw [take_all (l := p.Params) (k := k) (by omega)]
   refine awp_weakF _ (st_freezeF 1 rfl (rows' := p.Params.map Pm.cells) (frRows_map (frPm N0) _) (regs' := []) (μ' := [_, _, _, _]) trivial ⟨EFlC.refl _, EFlC.row (ds := [_, _, _, _, _]) ⟨.inl rfl, .inl rfl, .inr ⟨rfl, rfl⟩, .inl rfl, .inl rfl, trivial⟩, EFlC.refl _, EFlC.refl _, trivial⟩) ?_
   refine awp_exit ?_
   refine awp_seq ?_
   refine awp_seq ?_
   refine awp_region rfl ?_
   refine rwp_det rfl rfl (det_field_lit rfl fd47_3 rfl) ?_
   refine rwp_det rfl rfl (det_load_one rfl one45 rfl (ptr_row 3 rfl) rfl) ?_
   refine rwp_det rfl rfl (det_len_slm rfl el45 rfl) ?_
   refine rwp_det rfl rfl (det_move rfl rfl) ?_
   refine rwp_nil ?_
   refine awp_block ?_
   refine awp_weak ⟨[(57, .c _), (2, .c _), (3, .c _), (55, .c _), (56, .c _)], [_, _, _]⟩ (Weak.mk [true, true, true, false] ⟨VLe.of_eq rfl, VLe.of_eq rfl, VLe.of_eq rfl, VLe.of_eq rfl, VLe.of_eq rfl, trivial⟩ rfl) ?_
   refine awp_loop_k 1 2 rfl rfl (Nat × Value) (fun ⟨k, su⟩ => [(57, vI k)]) (fun ⟨k, su⟩ => [E.vec su 35 22 ((p.Defs.take k).map (cfDf N0)), E.row b3 47 [.fr N0 (.sl 1 (p.Sizes.map fun s => [cS s])), .fr N0 (.sl 3 (p.Where.map Cn.cells)), .fr N0 (.sl 7 (p.Params.map Pm.cells)), .lit su, .fr N0 (.sl 1 (p.Outs.map fun s => [cS s]))]]) (fun ⟨k, su⟩ => k ≤ p.Defs.length) (fun ⟨k, su⟩ => p.Defs.length - k) ⟨⟨0, (.slice none 0 0)⟩, (by omega), Weak.mk [true, true, true] ⟨VLe.refl _, VLe.refl _, VLe.refl _, VLe.refl _, VLe.refl _, trivial⟩ rfl⟩ ?_
   rintro ⟨k, su⟩ hk
   show AWP _ _ _ _ _ ⟨[(57, vI k)] ++ _, [E.vec su 35 22 ((p.Defs.take k).map (cfDf N0)), E.row b3 47 [.fr N0 (.sl 1 (p.Sizes.map fun s => [cS s])), .fr N0 (.sl 3 (p.Where.map Cn.cells)), .fr N0 (.sl 7 (p.Params.map Pm.cells)), .lit su, .fr N0 (.sl 1 (p.Outs.map fun s => [cS s]))]] ++ _⟩
   refine awp_seq ?_
   refine awp_region rfl ?_
   refine rwp_det rfl rfl (det_lss rfl rfl rfl) ?_
   refine rwp_nil ?_
   refine awp_seq ?_
   refine awp_cond rfl (fun c3 => ?_) (fun c3 => ?_)
   ·try simp only [sx, List.length_map] at c3
    obtain ⟨d, hd⟩ := ex_get p.Defs k (by omega)
    refine awp_skip ?_
    refine awp_seq ?_
    refine awp_block ?_
    refine awp_seq ?_
    refine awp_region rfl ?_
    refine rwp_det rfl rfl (det_index_sl rfl el45 rfl rfl (by omega) (getm (by assumption))) ?_
    refine rwp_det rfl rfl (det_load_agg rfl agg35 rfl ptr_imm rfl) ?_
    refine rwp_op rfl rfl (ope_allocN [none, none, none, none, none, none, some 3, some 3, none, none, none, none, none, none, none, none, none, none, none, some 2, some 4, some 13] rfl zr35 rfl) ?_
    rintro _ _ ⟨b8, rfl, rfl⟩
    refine rwp_det0 rfl rfl (det_store rfl sz35 rfl rfl rfl (st_row 0 rfl rfl)) ?_
    refine rwp_nil ?_
    refine awp_seq ?_
    refine awp_draw 10 mixed (by kernel_rfl) rfl rfl ?_
    refine td_det rfl rfl (det_field_lit rfl fd35_2 rfl) ?_
    refine td_det rfl rfl (det_load_one rfl one24 rfl (ptr_row 0 rfl) rfl) ?_
    refine td_det rfl rfl (det_call rfl ok119 (own_fresh (program_copyAxesF N0 hN d.Dims (by have := (hP.ds d (mem_of_get hd)).1; omega) (fun a ha => by have := (hP.ds d (mem_of_get hd)).2.2.1 a ha; omega)) (frRows_map (frA N0) _)) ⟨VLe.refl _, rfl, trivial⟩) ?_
    refine td_det rfl rfl (det_field_lit rfl fd35_3 rfl) ?_
    refine td_det rfl rfl (det_load_one rfl one24 rfl (ptr_row 0 rfl) rfl) ?_
    refine td_det rfl rfl (det_call rfl ok119 (own_fresh (program_copyAxesF N0 hN d.Red (by have := (hP.ds d (mem_of_get hd)).2.1; omega) (fun a ha => by have := (hP.ds d (mem_of_get hd)).2.2.2.1 a ha; omega)) (frRows_map (frA N0) _)) ⟨VLe.refl _, rfl, trivial⟩) ?_
    refine td_det rfl rfl (det_field_lit rfl fd35_5 rfl) ?_
    refine td_det rfl rfl (det_load_agg rfl agg33 rfl (ptr_row 0 rfl) rfl) ?_
    refine td_det rfl rfl (det_call rfl ok31 (expr_CopyF N0 hN d.Body (hP.ds d (mem_of_get hd)).2.2.2.2) ⟨VLe.refl _, rfl, trivial⟩) ?_
    refine td_det rfl rfl (det_field_lit rfl fd35_2 rfl) ?_
    refine td_nil ?_
    refine rwp_det0 rfl rfl (det_store rfl sz24 rfl rfl rfl (st_row 0 rfl rfl)) ?_
    refine rwp_det rfl rfl (det_field_lit rfl fd35_3 rfl) ?_
    refine rwp_det0 rfl rfl (det_store rfl sz24 rfl rfl rfl (st_row 0 rfl rfl)) ?_
    refine rwp_det rfl rfl (det_field_lit rfl fd35_5 rfl) ?_
    refine rwp_det0 rfl rfl (det_store rfl sz33 rfl rfl rfl (st_row 0 rfl rfl)) ?_
    refine rwp_nil ?_
    refine awp_region rfl ?_
    refine rwp_det rfl rfl (det_field_lit rfl fd47_3 rfl) ?_
    refine rwp_det rfl rfl (det_load_one rfl one45 rfl (ptr_row 2 rfl) rfl) ?_
    refine rwp_det rfl rfl (det_load_agg rfl agg35 rfl (ptr_row 0 rfl) rfl) ?_
    refine rwp_det rfl rfl (det_bslice rfl el45 zr35 rfl rfl rfl rfl) ?_
    refine rwp_op rfl rfl (ope_append 1 rfl el45 rfl rfl rfl (by simp only [List.length_take, List.length_map, List.length_append, List.length_cons, List.length_nil]; omega) (by simp only [List.length_take, List.length_map, List.length_append, List.length_cons, List.length_nil]; omega)) ?_
    rintro _ _ ⟨sv9, rfl, rfl⟩
    refine rwp_det rfl rfl (det_field_lit rfl fd47_3 rfl) ?_
    refine rwp_det0 rfl rfl (det_store rfl sz45 rfl rfl rfl (st_row 2 rfl rfl)) ?_
    refine rwp_nil ?_
    refine awp_region rfl ?_
    refine rwp_det rfl rfl (det_add_nw rfl rfl rfl ⟨by omega, by omega⟩) ?_
    refine rwp_det rfl rfl (det_move rfl rfl) ?_
    refine rwp_nil ?_
    refine ⟨⟨k + 1, sv9⟩, (by omega), (by show p.Defs.length - (k + 1) < p.Defs.length - k; omega), Weak.mk [false, true, true, true] ⟨VLe.refl _, VLe.refl _, VLe.refl _, VLe.refl _, VLe.refl _, trivial⟩ (by exact mem2_eq' (by rw [take_next hd, List.map_append]; rfl))⟩
   ·try simp only [sx, List.length_map] at c3
    rw [take_all (l := p.Defs) (k := k) (by omega)]
    refine awp_weakF _ (st_freezeF 0 rfl (rows' := p.Defs.map Df.cells) (frRows_map (frDf N0) _) (regs' := []) (μ' := [_, _]) trivial ⟨EFlC.row (ds := [_, _, _, _, _]) ⟨.inl rfl, .inl rfl, .inl rfl, .inr ⟨rfl, rfl⟩, .inl rfl, trivial⟩, EFlC.refl _, trivial⟩) ?_
    refine awp_exit ?_
    refine awp_seq ?_
    refine awp_region rfl ?_
    refine rwp_det rfl rfl (det_load_agg rfl agg47 rfl (ptr_row 0 rfl) rfl) ?_
    refine rwp_det0 rfl rfl (det_store rfl sz47 rfl rfl rfl (st_row 1 rfl rfl)) ?_
    refine rwp_nil ?_
    refine awp_ret ?_
    repeat (first | refine thenQ_ret ?_ | refine blockQ_ret ?_)
    refine fin1 (rs_cell_agg agg47 rfl (ptr_row 1 rfl) rfl) ?_
    rfl

end Go.W
end
section
set_option linter.unusedSimpArgs false
set_option linter.unusedVariables false
namespace Go.W
open Go Go.Eng Go.Proofs Go.L41 Go.Br
attribute [local irreducible] AWP RWP TD
theorem ok114 : callOk Tryz.prog 114 = true := by kernel_rfl
theorem ok115 : callOk Tryz.prog 115 = true := by kernel_rfl
theorem ref17_twin (l : Lf) (hl : l.L.length ≤ 4294967296) :
    Pur cfg 114 [vLin l] (vLin l) := by
 refine con_intro Tryz.func114 rfl Tryz.ntmps114 Tryz.results114 rfl ?_
 intro z hz
 refine awp_seq ?_
 refine awp_region rfl ?_
 refine rwp_op rfl rfl (ope_box rfl rfl) ?_
 rintro _ _ ⟨b1, rfl, rfl⟩
 refine rwp_op rfl rfl (ope_allocN [none, some 2] rfl zr29 rfl) ?_
 rintro _ _ ⟨b2, rfl, rfl⟩
 refine rwp_nil ?_
 refine awp_seq ?_
 refine awp_draw_c 6 1 [⟨0, .q []⟩, ⟨1, .q [2]⟩, ⟨3, .q []⟩, ⟨4, .q [2]⟩, ⟨2, .e 0 []⟩, ⟨5, .e 0 []⟩] mixed (by kernel_rfl) (by kernel_rfl) rfl rfl rfl ?_
 refine fx_skip rfl ?_
 refine fx_skip rfl ?_
 refine fx_skip rfl ?_
 refine fx_skip rfl ?_
 refine fx_skip rfl ?_
 refine fx_skip rfl ?_
 refine fx_nil ?_
 refine sq_det rfl (by decide) rfl rfl (det_field_lit rfl fd29_0 rfl) ?_
 refine sq_det rfl (by decide) rfl rfl (det_load_one rfl one2 rfl (ptr_row 0 rfl) rfl) ?_
 refine sq_det rfl (by decide) rfl rfl (det_field_lit rfl fd29_1 rfl) ?_
 refine sq_det rfl (by decide) rfl rfl (det_load_one rfl one27 rfl (ptr_row 0 rfl) rfl) ?_
 refine sq_op rfl rfl (by decide) rfl rfl (ope_bslice rfl el27 zr75 rfl rfl rfl rfl) ?_
 rintro _ _ ⟨sv3, rfl, rfl⟩
 refine ⟨_, rfl, ?_⟩
 refine sq_op rfl rfl (by decide) rfl rfl (ope_append 0 rfl el27 rfl rfl rfl (by simp; omega) (by simp; omega)) ?_
 rintro _ _ ⟨sv4, rfl, rfl⟩
 refine ⟨_, rfl, ?_⟩
 refine sq_nil rfl ?_
 refine rwp_det rfl rfl (det_build rfl zr29 pl29 rfl) ?_
 refine rwp_det0 rfl rfl (det_store rfl sz29 rfl rfl rfl (st_row 1 rfl rfl)) ?_
 refine rwp_nil ?_
 refine awp_weak _ (weak_freezeM 0 rfl (regs' := [(8, _), (9, .agg [_, _])]) (μ' := [_, _]) ⟨FLe.sl, FLe.agg ⟨.inl rfl, .inr ⟨rfl, rfl⟩, trivial⟩, trivial⟩ ⟨EFle.row (ds := [_, _]) ⟨.inl rfl, .inr ⟨rfl, rfl⟩, trivial⟩, EFle.refl _, trivial⟩) ?_
 refine awp_ret ?_
 repeat (first | refine thenQ_ret ?_ | refine blockQ_ret ?_)
 refine fin1 (rs_cell_agg agg29 rfl (ptr_row 0 rfl) rfl) ?_
 rfl

theorem ref17_twins (l : List Ax) (hl : l.length ≤ 4294967296) (hx0 : ∀ x, x ∈ l → x.Size.L.length ≤ 4294967296) :
    OwnR cfg 115 [.c (.sl 3 (l.map Ax.cells))] 88 3 (l.map Ax.cells) := by
 refine con_intro Tryz.func115 rfl Tryz.ntmps115 Tryz.results115 rfl ?_
 intro z hz
 refine awp_seq ?_
 refine awp_region rfl ?_
 refine rwp_det rfl rfl (det_assignN 3 rfl rfl) ?_
 refine rwp_nil ?_
 refine awp_seq ?_
 refine awp_region rfl ?_
 refine rwp_det rfl rfl (det_assign rfl rfl) ?_
 refine rwp_weak _ (weak_own 88 3) ?_
 refine rwp_nil ?_
 refine awp_seq ?_
 refine awp_seq ?_
 refine awp_region rfl ?_
 refine rwp_det rfl rfl (det_assign rfl rfl) ?_
 refine rwp_nil ?_
 refine awp_block ?_
 refine awp_weak ⟨[(4, .c _), (3, .c _), (0, .c _)], [_]⟩ (Weak.mk [true] ⟨VLe.of_eq rfl, VLe.of_eq rfl, VLe.of_eq rfl, trivial⟩ rfl) ?_
 refine awp_loop_k 2 1 rfl rfl (Nat × Value) (fun ⟨k, sv⟩ => [(4, vI k), (3, .c (.lit sv))]) (fun ⟨k, sv⟩ => [E.vec sv 88 3 ((l.take k).map Ax.cells)]) (fun ⟨k, sv⟩ => k ≤ l.length) (fun ⟨k, sv⟩ => l.length - k) ⟨⟨0, (.slice none 0 0)⟩, (by omega), Weak.mk [true] ⟨VLe.refl _, VLe.refl _, VLe.refl _, trivial⟩ rfl⟩ ?_
 rintro ⟨k, sv⟩ hk
 show AWP _ _ _ _ _ ⟨[(4, vI k), (3, .c (.lit sv))] ++ _, [E.vec sv 88 3 ((l.take k).map Ax.cells)] ++ _⟩
 refine awp_seq ?_
 refine awp_seq ?_
 refine awp_region rfl ?_
 refine rwp_det rfl rfl (det_move rfl rfl) ?_
 refine rwp_det rfl rfl (det_move rfl rfl) ?_
 refine rwp_det rfl rfl (det_len_slm rfl el24 rfl) ?_
 refine rwp_det rfl rfl (det_lss rfl rfl rfl) ?_
 refine rwp_nil ?_
 refine awp_cond rfl (fun c1 => ?_) (fun c1 => ?_)
 ·try simp only [sx, List.length_map] at c1
  obtain ⟨x, hx⟩ := ex_get l k (by omega)
  refine awp_skip ?_
  refine awp_seq ?_
  refine awp_block ?_
  refine awp_draw 14 mixed (by kernel_rfl) rfl rfl ?_
  refine td_det rfl rfl (det_move rfl rfl) ?_
  refine td_det rfl rfl (det_move rfl rfl) ?_
  refine td_det rfl rfl (det_move rfl rfl) ?_
  refine td_det rfl rfl (det_index_sl rfl el24 rfl rfl (by omega) (getm (by assumption))) ?_
  refine td_det rfl rfl (det_field_imm rfl fd88_0 rfl) ?_
  refine td_det rfl rfl (det_load_one rfl one9 rfl ptr_imm rfl) ?_
  refine td_det rfl rfl (det_move rfl rfl) ?_
  refine td_det rfl rfl (det_move rfl rfl) ?_
  refine td_det rfl rfl (det_index_sl rfl el24 rfl rfl (by omega) (getm (by assumption))) ?_
  refine td_det rfl rfl (det_field_imm rfl fd88_1 rfl) ?_
  refine td_det rfl rfl (det_load_agg rfl agg29 rfl ptr_imm rfl) ?_
  refine td_det rfl rfl (det_call rfl ok114 (ref17_twin x.Size (hx0 x (mem_of_get hx))) ⟨VLe.refl _, rfl, trivial⟩) ?_
  refine td_det rfl rfl (det_build rfl zr88 pl88 rfl) ?_
  refine td_det rfl rfl (det_bslice rfl el24 zr88 rfl rfl rfl rfl) ?_
  refine td_nil ?_
  refine rwp_op rfl rfl (ope_append 0 rfl el24 rfl rfl rfl (by first | omega | (simp only [List.length_take, List.length_map, List.length_append, List.length_nil, List.length_cons]; omega)) (by first | omega | (simp only [List.length_take, List.length_map, List.length_append, List.length_nil, List.length_cons]; omega))) ?_
  rintro _ _ ⟨sv2, rfl, rfl⟩
  refine rwp_det rfl rfl (det_assign rfl rfl) ?_
  refine rwp_nil ?_
  refine awp_region rfl ?_
  refine rwp_det rfl rfl (det_move rfl rfl) ?_
  refine rwp_det rfl rfl (det_add_nw rfl rfl rfl ⟨by omega, by omega⟩) ?_
  refine rwp_det rfl rfl (det_assign rfl rfl) ?_
  refine rwp_nil ?_
  refine ⟨⟨k + 1, sv2⟩, (by omega), (by show l.length - (k + 1) < l.length - k; omega), Weak.mk [true] ⟨VLe.refl _, VLe.refl _, VLe.refl _, trivial⟩ (by exact mem1_eq (by rw [take_next hx, List.map_append]; rfl))⟩
 ·try simp only [sx, List.length_map] at c1
  refine awp_exit ?_
  refine awp_seq ?_
  refine awp_region rfl ?_
  refine rwp_det rfl rfl (det_move rfl rfl) ?_
  refine rwp_det rfl rfl (det_assign rfl rfl) ?_
  refine rwp_nil ?_
  refine awp_ret ?_
  repeat (first | refine thenQ_ret ?_ | refine blockQ_ret ?_)
  refine fin1 (rs_c rfl) ?_
  exact ⟨_, rfl, by rw [take_all (by omega)]; rfl⟩

theorem ref17_Twin (p : Pg) (hP : p.Ok) :
    Pur cfg 47 [vPg p] (vPg p) := by
 refine con_intro Tryz.func47 rfl Tryz.ntmps47 Tryz.results47 rfl ?_
 intro z hz
 have hP0 := hP.sizes
 have hP1 := hP.wh
 have hP2 := hP.params
 have hP3 := hP.defs
 have hP4 := hP.outs
 refine awp_seq ?_
 refine awp_region rfl ?_
 refine rwp_op rfl rfl (ope_box rfl rfl) ?_
 rintro _ _ ⟨b1, rfl, rfl⟩
 refine rwp_op rfl rfl (ope_allocN [some 1, some 3, some 7, some 22, some 1] rfl zr47 rfl) ?_
 rintro _ _ ⟨b2, rfl, rfl⟩
 refine rwp_nil ?_
 refine awp_seq ?_
 refine awp_draw_c 10 3 [⟨0, .q []⟩, ⟨1, .q []⟩, ⟨2, .q [4]⟩, ⟨4, .q []⟩, ⟨5, .q []⟩, ⟨6, .q [4]⟩, ⟨3, .e 2 []⟩, ⟨7, .e 1 []⟩, ⟨8, .q []⟩, ⟨9, .f 0⟩] mixed (by kernel_rfl) (by kernel_rfl) rfl rfl rfl ?_
 refine fx_skip rfl ?_
 refine fx_skip rfl ?_
 refine fx_skip rfl ?_
 refine fx_skip rfl ?_
 refine fx_skip rfl ?_
 refine fx_skip rfl ?_
 refine fx_skip rfl ?_
 refine fx_skip rfl ?_
 refine fx_skip rfl ?_
 refine fx_fresh rfl rfl (fresh_alloc' (ope_alloc rfl zr47)) ?_
 refine fx_nil ?_
 refine sq_det rfl (by decide) rfl rfl (det_bslice0 rfl el42 zr9) ?_
 refine sq_det rfl (by decide) rfl rfl (det_field_lit rfl fd47_0 rfl) ?_
 refine sq_det rfl (by decide) rfl rfl (det_load_one rfl one42 rfl (ptr_row 0 rfl) rfl) ?_
 refine sq_det rfl (by decide) rfl rfl (det_bslice0 rfl el42 zr9) ?_
 refine sq_det rfl (by decide) rfl rfl (det_field_lit rfl fd47_4 rfl) ?_
 refine sq_det rfl (by decide) rfl rfl (det_load_one rfl one42 rfl (ptr_row 0 rfl) rfl) ?_
 refine sq_op rfl rfl (by decide) rfl rfl (ope_append0 rfl el42 rfl rfl (by simp; omega) (by simp; omega)) ?_
 rintro _ _ ⟨sv3, rfl, rfl⟩
 refine ⟨_, rfl, ?_⟩
 refine sq_op rfl rfl (by decide) rfl rfl (ope_append0 rfl el42 rfl rfl (by simp; omega) (by simp; omega)) ?_
 rintro _ _ ⟨sv4, rfl, rfl⟩
 refine ⟨_, rfl, ?_⟩
 refine sq_det rfl (by decide) rfl rfl (det_build rfl zr47 pl47 rfl) ?_
 refine sq_fresh rfl rfl ?_
 rintro _ _ ⟨b5, rfl, rfl⟩
 refine sq_nil rfl ?_
 refine rwp_det0 rfl rfl (det_store rfl sz47 rfl rfl rfl (st_row 0 rfl rfl)) ?_
 refine rwp_nil ?_
 refine awp_seq ?_
 refine awp_seq ?_
 refine awp_region rfl ?_
 refine rwp_weak _ (weak_freezeM 1 rfl (regs' := [(17, _), (18, .agg [_, _, _, _, _])]) (μ' := [_, _, _, _]) ⟨FLe.sl, FLe.agg ⟨.inl rfl, .inl rfl, .inl rfl, .inl rfl, .inr ⟨rfl, rfl⟩, trivial⟩, trivial⟩ ⟨EFle.row (ds := [_, _, _, _, _]) ⟨.inl rfl, .inl rfl, .inl rfl, .inl rfl, .inr ⟨rfl, rfl⟩, trivial⟩, EFle.refl _, EFle.refl _, EFle.refl _, trivial⟩) ?_
 refine rwp_weak _ (weak_freezeM 1 rfl (regs' := [(13, _), (18, .agg [_, _, _, _, _])]) (μ' := [_, _, _]) ⟨FLe.sl, FLe.agg ⟨.inr ⟨rfl, rfl⟩, .inl rfl, .inl rfl, .inl rfl, .inl rfl, trivial⟩, trivial⟩ ⟨EFle.row (ds := [_, _, _, _, _]) ⟨.inr ⟨rfl, rfl⟩, .inl rfl, .inl rfl, .inl rfl, .inl rfl, trivial⟩, EFle.refl _, EFle.refl _, trivial⟩) ?_
 refine rwp_weak _ (weak_own 111 3) ?_
 refine rwp_weak _ (weak_own 106 7) ?_
 refine rwp_weak _ (weak_own 35 22) ?_
 refine rwp_det rfl rfl (det_assign rfl rfl) ?_
 refine rwp_nil ?_
 refine awp_block ?_
 refine awp_weak ⟨[(4, .c _), (1, .c _), (2, .c _), (3, .c _)], [_, _, _, _, _, _]⟩ (Weak.mk [true, true, true, true, true, true] ⟨VLe.of_eq rfl, VLe.of_eq rfl, VLe.of_eq rfl, VLe.of_eq rfl, trivial⟩ rfl) ?_
 refine awp_loop_k 1 4 rfl rfl (Nat × Value) (fun ⟨k, sv⟩ => [(4, vI k)]) (fun ⟨k, sv⟩ => [E.vec (.slice none 0 0) 35 22 ([]), E.vec (.slice none 0 0) 106 7 ([]), E.vec sv 111 3 ((p.Where.take k).map Cn.cells), E.row b5 47 [.sl 1 (p.Sizes.map fun s => [cS s]), .lit sv, .lit (.slice none 0 0), .lit (.slice none 0 0), .sl 1 (p.Outs.map fun s => [cS s])]]) (fun ⟨k, sv⟩ => k ≤ p.Where.length) (fun ⟨k, sv⟩ => p.Where.length - k) ⟨⟨0, (.slice none 0 0)⟩, (by omega), Weak.mk [true, true, true, true, true, true] ⟨VLe.refl _, VLe.refl _, VLe.refl _, VLe.refl _, trivial⟩ rfl⟩ ?_
 rintro ⟨k, sv⟩ hk
 show AWP _ _ _ _ _ ⟨[(4, vI k)] ++ _, [E.vec (.slice none 0 0) 35 22 ([]), E.vec (.slice none 0 0) 106 7 ([]), E.vec sv 111 3 ((p.Where.take k).map Cn.cells), E.row b5 47 [.sl 1 (p.Sizes.map fun s => [cS s]), .lit sv, .lit (.slice none 0 0), .lit (.slice none 0 0), .sl 1 (p.Outs.map fun s => [cS s])]] ++ _⟩
 refine awp_seq ?_
 refine awp_seq ?_
 refine awp_region rfl ?_
 refine rwp_det rfl rfl (det_move rfl rfl) ?_
 refine rwp_det rfl rfl (det_field_lit rfl fd47_1 rfl) ?_
 refine rwp_det rfl rfl (det_load_one rfl one43 rfl (ptr_row 5 rfl) rfl) ?_
 refine rwp_det rfl rfl (det_len_slm rfl el43 rfl) ?_
 refine rwp_det rfl rfl (det_lss rfl rfl rfl) ?_
 refine rwp_nil ?_
 refine awp_cond rfl (fun c1 => ?_) (fun c1 => ?_)
 ·try simp only [sx, List.length_map] at c1
  obtain ⟨x, hx⟩ := ex_get p.Where k (by omega)
  refine awp_skip ?_
  refine awp_seq ?_
  refine awp_block ?_
  refine awp_draw 17 mixed (by kernel_rfl) rfl rfl ?_
  refine td_det rfl rfl (det_field_lit rfl fd47_1 rfl) ?_
  refine td_det rfl rfl (det_load_one rfl one43 rfl (ptr_row 3 rfl) rfl) ?_
  refine td_det rfl rfl (det_field_lit rfl fd47_1 rfl) ?_
  refine td_det rfl rfl (det_load_one rfl one43 rfl (ptr_row 5 rfl) rfl) ?_
  refine td_det rfl rfl (det_move rfl rfl) ?_
  refine td_det rfl rfl (det_index_sl rfl el43 rfl rfl (by omega) (getm (by assumption))) ?_
  refine td_det rfl rfl (det_field_imm rfl fd111_0 rfl) ?_
  refine td_det rfl rfl (det_load_agg rfl agg29 rfl ptr_imm rfl) ?_
  refine td_det rfl rfl (det_call rfl ok114 (ref17_twin x.Lin (hP.whs x (mem_of_get hx))) ⟨VLe.refl _, rfl, trivial⟩) ?_
  refine td_det rfl rfl (det_field_lit rfl fd47_1 rfl) ?_
  refine td_det rfl rfl (det_load_one rfl one43 rfl (ptr_row 5 rfl) rfl) ?_
  refine td_det rfl rfl (det_move rfl rfl) ?_
  refine td_det rfl rfl (det_index_sl rfl el43 rfl rfl (by omega) (getm (by assumption))) ?_
  refine td_det rfl rfl (det_field_imm rfl fd111_1 rfl) ?_
  refine td_det rfl rfl (det_load_one rfl one4 rfl ptr_imm rfl) ?_
  refine td_det rfl rfl (det_build rfl zr111 pl111 rfl) ?_
  refine td_det rfl rfl (det_bslice rfl el43 zr111 rfl rfl rfl rfl) ?_
  refine td_nil ?_
  refine rwp_op rfl rfl (ope_append 2 rfl el43 rfl rfl rfl (by simp only [List.length_take, List.length_map, List.length_append, List.length_cons, List.length_nil]; omega) (by simp only [List.length_take, List.length_map, List.length_append, List.length_cons, List.length_nil]; omega)) ?_
  rintro _ _ ⟨sv6, rfl, rfl⟩
  refine rwp_det rfl rfl (det_field_lit rfl fd47_1 rfl) ?_
  refine rwp_det0 rfl rfl (det_store rfl sz43 rfl rfl rfl (st_row 3 rfl rfl)) ?_
  refine rwp_nil ?_
  refine awp_region rfl ?_
  refine rwp_det rfl rfl (det_move rfl rfl) ?_
  refine rwp_det rfl rfl (det_add_nw rfl rfl rfl ⟨by omega, by omega⟩) ?_
  refine rwp_det rfl rfl (det_assign rfl rfl) ?_
  refine rwp_nil ?_
  refine ⟨⟨k + 1, sv6⟩, (by omega), (by show p.Where.length - (k + 1) < p.Where.length - k; omega), Weak.mk [true, true, true, true, true, true] ⟨VLe.refl _, VLe.refl _, VLe.refl _, VLe.refl _, trivial⟩ (by exact mem4_eq (by rw [take_next hx, List.map_append]; rfl))⟩
 ·try simp only [sx, List.length_map] at c1
  rw [take_all (l := p.Where) (k := k) (by omega)]
  refine awp_weak _ (weak_freezeM 2 rfl (regs' := []) (μ' := [_, _, _, _, _]) trivial ⟨EFle.refl _, EFle.refl _, EFle.row (ds := [_, _, _, _, _]) ⟨.inl rfl, .inr ⟨rfl, rfl⟩, .inl rfl, .inl rfl, .inl rfl, trivial⟩, EFle.refl _, EFle.refl _, trivial⟩) ?_
  refine awp_exit ?_
  refine awp_seq ?_
  refine awp_seq ?_
  refine awp_region rfl ?_
  refine rwp_det rfl rfl (det_assign rfl rfl) ?_
  refine rwp_nil ?_
  refine awp_block ?_
  refine awp_weak ⟨[(5, .c _), (1, .c _), (2, .c _), (3, .c _)], [_, _, _, _, _]⟩ (Weak.mk [true, true, true, true, true] ⟨VLe.of_eq rfl, VLe.of_eq rfl, VLe.of_eq rfl, VLe.of_eq rfl, trivial⟩ rfl) ?_
  refine awp_loop_k 1 3 rfl rfl (Nat × Value) (fun ⟨k, sw⟩ => [(5, vI k)]) (fun ⟨k, sw⟩ => [E.vec (.slice none 0 0) 35 22 ([]), E.vec sw 106 7 ((p.Params.take k).map Pm.cells), E.row b5 47 [.sl 1 (p.Sizes.map fun s => [cS s]), .sl 3 (p.Where.map Cn.cells), .lit sw, .lit (.slice none 0 0), .sl 1 (p.Outs.map fun s => [cS s])]]) (fun ⟨k, sw⟩ => k ≤ p.Params.length) (fun ⟨k, sw⟩ => p.Params.length - k) ⟨⟨0, (.slice none 0 0)⟩, (by omega), Weak.mk [true, true, true, true, true] ⟨VLe.refl _, VLe.refl _, VLe.refl _, VLe.refl _, trivial⟩ rfl⟩ ?_
  rintro ⟨k, sw⟩ hk
  show AWP _ _ _ _ _ ⟨[(5, vI k)] ++ _, [E.vec (.slice none 0 0) 35 22 ([]), E.vec sw 106 7 ((p.Params.take k).map Pm.cells), E.row b5 47 [.sl 1 (p.Sizes.map fun s => [cS s]), .sl 3 (p.Where.map Cn.cells), .lit sw, .lit (.slice none 0 0), .sl 1 (p.Outs.map fun s => [cS s])]] ++ _⟩
  refine awp_seq ?_
  refine awp_seq ?_
  refine awp_region rfl ?_
  refine rwp_det rfl rfl (det_move rfl rfl) ?_
  refine rwp_det rfl rfl (det_field_lit rfl fd47_2 rfl) ?_
  refine rwp_det rfl rfl (det_load_one rfl one44 rfl (ptr_row 4 rfl) rfl) ?_
  refine rwp_det rfl rfl (det_len_slm rfl el44 rfl) ?_
  refine rwp_det rfl rfl (det_lss rfl rfl rfl) ?_
  refine rwp_nil ?_
  refine awp_cond rfl (fun c2 => ?_) (fun c2 => ?_)
  ·try simp only [sx, List.length_map] at c2
   obtain ⟨y, hy⟩ := ex_get p.Params k (by omega)
   have hyl := (hP.ps y (mem_of_get hy)).1
   refine awp_skip ?_
   refine awp_seq ?_
   refine awp_block ?_
   refine awp_seq ?_
   refine awp_region rfl ?_
   refine rwp_det rfl rfl (det_field_lit rfl fd47_2 rfl) ?_
   refine rwp_det rfl rfl (det_load_one rfl one44 rfl (ptr_row 4 rfl) rfl) ?_
   refine rwp_det rfl rfl (det_move rfl rfl) ?_
   refine rwp_det rfl rfl (det_index_sl rfl el44 rfl rfl (by omega) (getm (by assumption))) ?_
   refine rwp_det rfl rfl (det_load_agg rfl agg106 rfl ptr_imm rfl) ?_
   refine rwp_op rfl rfl (ope_allocN [none, none, none, none, none, none, some 2] rfl zr106 rfl) ?_
   rintro _ _ ⟨b7, rfl, rfl⟩
   refine rwp_det0 rfl rfl (det_store rfl sz106 rfl rfl rfl (st_row 0 rfl rfl)) ?_
   refine rwp_nil ?_
   refine awp_seq ?_
   refine awp_region rfl ?_
   refine rwp_det rfl rfl (det_field_lit rfl fd106_2 rfl) ?_
   refine rwp_det0 rfl rfl (det_store rfl sz104 rfl rfl rfl (st_row 0 rfl rfl)) ?_
   refine rwp_nil ?_
   refine awp_seq ?_
   refine awp_seq ?_
   refine awp_region rfl ?_
   refine rwp_weak _ (weak_own 29 2) ?_
   refine rwp_det rfl rfl (det_assign rfl rfl) ?_
   refine rwp_nil ?_
   refine awp_block ?_
   refine awp_weak ⟨[(7, .c _), (1, .c _), (2, .c _), (3, .c _), (5, .c _), (6, .c _)], [_, _, _, _, _, _, _]⟩ (Weak.mk [true, true, true, true, true, true, true] ⟨VLe.of_eq rfl, VLe.of_eq rfl, VLe.of_eq rfl, VLe.of_eq rfl, VLe.of_eq rfl, VLe.of_eq rfl, trivial⟩ rfl) ?_
   refine awp_loop_k 1 2 rfl rfl (Nat × Value) (fun ⟨j, sx1⟩ => [(7, vI j)]) (fun ⟨j, sx1⟩ => [E.vec sx1 29 2 ((y.Dims.take j).map Lf.cells), E.row b7 106 [cS y.Name, cI y.T.Kind, cI y.T.Bits, cI y.T.Frac, cI y.T.Round, cI y.T.Over, .lit sx1]]) (fun ⟨j, sx1⟩ => j ≤ y.Dims.length) (fun ⟨j, sx1⟩ => y.Dims.length - j) ⟨⟨0, (.slice none 0 0)⟩, (by omega), Weak.mk [true, true, true, true, true, true, true] ⟨VLe.refl _, VLe.refl _, VLe.refl _, VLe.refl _, VLe.refl _, VLe.refl _, trivial⟩ rfl⟩ ?_
   rintro ⟨j, sx1⟩ hj
   show AWP _ _ _ _ _ ⟨[(7, vI j)] ++ _, [E.vec sx1 29 2 ((y.Dims.take j).map Lf.cells), E.row b7 106 [cS y.Name, cI y.T.Kind, cI y.T.Bits, cI y.T.Frac, cI y.T.Round, cI y.T.Over, .lit sx1]] ++ _⟩
   refine awp_seq ?_
   refine awp_seq ?_
   refine awp_region rfl ?_
   refine rwp_det rfl rfl (det_move rfl rfl) ?_
   refine rwp_det rfl rfl (det_field_lit rfl fd47_2 rfl) ?_
   refine rwp_det rfl rfl (det_load_one rfl one44 rfl (ptr_row 6 rfl) rfl) ?_
   refine rwp_det rfl rfl (det_move rfl rfl) ?_
   refine rwp_det rfl rfl (det_index_sl rfl el44 rfl rfl (by omega) (getm (by assumption))) ?_
   refine rwp_det rfl rfl (det_field_imm rfl fd106_2 rfl) ?_
   refine rwp_det rfl rfl (det_load_one rfl one104 rfl ptr_imm rfl) ?_
   refine rwp_det rfl rfl (det_len_slm rfl el104 rfl) ?_
   refine rwp_det rfl rfl (det_lss rfl rfl rfl) ?_
   refine rwp_nil ?_
   refine awp_cond rfl (fun c3 => ?_) (fun c3 => ?_)
   ·try simp only [sx, List.length_map] at c3
    obtain ⟨l, hl⟩ := ex_get y.Dims j (by omega)
    refine awp_skip ?_
    refine awp_seq ?_
    refine awp_block ?_
    refine awp_draw 13 mixed (by kernel_rfl) rfl rfl ?_
    refine td_det rfl rfl (det_field_lit rfl fd106_2 rfl) ?_
    refine td_det rfl rfl (det_load_one rfl one104 rfl (ptr_row 1 rfl) rfl) ?_
    refine td_det rfl rfl (det_field_lit rfl fd47_2 rfl) ?_
    refine td_det rfl rfl (det_load_one rfl one44 rfl (ptr_row 6 rfl) rfl) ?_
    refine td_det rfl rfl (det_move rfl rfl) ?_
    refine td_det rfl rfl (det_index_sl rfl el44 rfl rfl (by omega) (getm (by assumption))) ?_
    refine td_det rfl rfl (det_field_imm rfl fd106_2 rfl) ?_
    refine td_det rfl rfl (det_load_one rfl one104 rfl ptr_imm rfl) ?_
    refine td_det rfl rfl (det_move rfl rfl) ?_
    refine td_det rfl rfl (det_index_sl rfl el104 rfl rfl (by omega) (getm (by assumption))) ?_
    refine td_det rfl rfl (det_load_agg rfl agg29 rfl ptr_imm rfl) ?_
    refine td_det rfl rfl (det_call rfl ok114 (ref17_twin l ((hP.ps y (mem_of_get hy)).2 l (mem_of_get hl))) ⟨VLe.refl _, rfl, trivial⟩) ?_
    refine td_det rfl rfl (det_bslice rfl el104 zr29 rfl rfl rfl rfl) ?_
    refine td_nil ?_
    refine rwp_op rfl rfl (ope_append 0 rfl el104 rfl rfl rfl (by simp only [List.length_take, List.length_map, List.length_append, List.length_cons, List.length_nil]; omega) (by simp only [List.length_take, List.length_map, List.length_append, List.length_cons, List.length_nil]; omega)) ?_
    rintro _ _ ⟨sv8, rfl, rfl⟩
    refine rwp_det rfl rfl (det_field_lit rfl fd106_2 rfl) ?_
    refine rwp_det0 rfl rfl (det_store rfl sz104 rfl rfl rfl (st_row 1 rfl rfl)) ?_
    refine rwp_nil ?_
    refine awp_region rfl ?_
    refine rwp_det rfl rfl (det_move rfl rfl) ?_
    refine rwp_det rfl rfl (det_add_nw rfl rfl rfl ⟨by omega, by omega⟩) ?_
    refine rwp_det rfl rfl (det_assign rfl rfl) ?_
    refine rwp_nil ?_
    refine ⟨⟨j + 1, sv8⟩, (by omega), (by show y.Dims.length - (j + 1) < y.Dims.length - j; omega), Weak.mk [true, true, true, true, true, true, true] ⟨VLe.refl _, VLe.refl _, VLe.refl _, VLe.refl _, VLe.refl _, VLe.refl _, trivial⟩ (by exact mem2_eq' (by rw [take_next hl, List.map_append]; rfl))⟩
   ·try simp only [sx, List.length_map] at c3
    rw [take_all (l := y.Dims) (k := j) (by omega)]
    refine awp_weak _ (weak_freezeM 0 rfl (regs' := []) (μ' := [_, _, _, _, _, _]) trivial ⟨EFle.row (ds := [_, _, _, _, _, _, _]) ⟨.inl rfl, .inl rfl, .inl rfl, .inl rfl, .inl rfl, .inl rfl, .inr ⟨rfl, rfl⟩, trivial⟩, EFle.refl _, EFle.refl _, EFle.refl _, EFle.refl _, EFle.refl _, trivial⟩) ?_
    refine awp_exit ?_
    refine awp_region rfl ?_
    refine rwp_det rfl rfl (det_field_lit rfl fd47_2 rfl) ?_
    refine rwp_det rfl rfl (det_load_one rfl one44 rfl (ptr_row 3 rfl) rfl) ?_
    refine rwp_det rfl rfl (det_load_agg rfl agg106 rfl (ptr_row 0 rfl) rfl) ?_
    refine rwp_det rfl rfl (det_bslice rfl el44 zr106 rfl rfl rfl rfl) ?_
    refine rwp_op rfl rfl (ope_append 2 rfl el44 rfl rfl rfl (by simp only [List.length_take, List.length_map, List.length_append, List.length_cons, List.length_nil]; omega) (by simp only [List.length_take, List.length_map, List.length_append, List.length_cons, List.length_nil]; omega)) ?_
    rintro _ _ ⟨sv9, rfl, rfl⟩
    refine rwp_det rfl rfl (det_field_lit rfl fd47_2 rfl) ?_
    refine rwp_det0 rfl rfl (det_store rfl sz44 rfl rfl rfl (st_row 3 rfl rfl)) ?_
    refine rwp_nil ?_
    refine awp_region rfl ?_
    refine rwp_det rfl rfl (det_move rfl rfl) ?_
    refine rwp_det rfl rfl (det_add_nw rfl rfl rfl ⟨by omega, by omega⟩) ?_
    refine rwp_det rfl rfl (det_assign rfl rfl) ?_
    refine rwp_nil ?_
    refine ⟨⟨k + 1, sv9⟩, (by omega), (by show p.Params.length - (k + 1) < p.Params.length - k; omega), Weak.mk [false, true, true, true, true, true] ⟨VLe.refl _, VLe.refl _, VLe.refl _, VLe.refl _, trivial⟩ (by exact mem3_eq (by rw [take_next hy, List.map_append]; rfl))⟩
  ·try simp only [sx, List.length_map] at c2
   rw [take_all (l := p.Params) (k := k) (by omega)]
   refine awp_weak _ (weak_freezeM 1 rfl (regs' := []) (μ' := [_, _, _, _]) trivial ⟨EFle.refl _, EFle.row (ds := [_, _, _, _, _]) ⟨.inl rfl, .inl rfl, .inr ⟨rfl, rfl⟩, .inl rfl, .inl rfl, trivial⟩, EFle.refl _, EFle.refl _, trivial⟩) ?_
   refine awp_exit ?_
   refine awp_seq ?_
   refine awp_seq ?_
   refine awp_region rfl ?_
   refine rwp_det rfl rfl (det_assign rfl rfl) ?_
   refine rwp_nil ?_
   refine awp_block ?_
   refine awp_weak ⟨[(8, .c _), (1, .c _), (2, .c _), (3, .c _)], [_, _, _, _]⟩ (Weak.mk [true, true, true, true] ⟨VLe.of_eq rfl, VLe.of_eq rfl, VLe.of_eq rfl, VLe.of_eq rfl, trivial⟩ rfl) ?_
   refine awp_loop_k 1 2 rfl rfl (Nat × Value) (fun ⟨k, su⟩ => [(8, vI k)]) (fun ⟨k, su⟩ => [E.vec su 35 22 ((p.Defs.take k).map Df.cells), E.row b5 47 [.sl 1 (p.Sizes.map fun s => [cS s]), .sl 3 (p.Where.map Cn.cells), .sl 7 (p.Params.map Pm.cells), .lit su, .sl 1 (p.Outs.map fun s => [cS s])]]) (fun ⟨k, su⟩ => k ≤ p.Defs.length) (fun ⟨k, su⟩ => p.Defs.length - k) ⟨⟨0, (.slice none 0 0)⟩, (by omega), Weak.mk [true, true, true, true] ⟨VLe.refl _, VLe.refl _, VLe.refl _, VLe.refl _, trivial⟩ rfl⟩ ?_
   rintro ⟨k, su⟩ hk
   show AWP _ _ _ _ _ ⟨[(8, vI k)] ++ _, [E.vec su 35 22 ((p.Defs.take k).map Df.cells), E.row b5 47 [.sl 1 (p.Sizes.map fun s => [cS s]), .sl 3 (p.Where.map Cn.cells), .sl 7 (p.Params.map Pm.cells), .lit su, .sl 1 (p.Outs.map fun s => [cS s])]] ++ _⟩
   refine awp_seq ?_
   refine awp_seq ?_
   refine awp_region rfl ?_
   refine rwp_det rfl rfl (det_move rfl rfl) ?_
   refine rwp_det rfl rfl (det_field_lit rfl fd47_3 rfl) ?_
   refine rwp_det rfl rfl (det_load_one rfl one45 rfl (ptr_row 3 rfl) rfl) ?_
   refine rwp_det rfl rfl (det_len_slm rfl el45 rfl) ?_
   refine rwp_det rfl rfl (det_lss rfl rfl rfl) ?_
   refine rwp_nil ?_
   refine awp_cond rfl (fun c4 => ?_) (fun c4 => ?_)
   ·try simp only [sx, List.length_map] at c4
    obtain ⟨d, hd⟩ := ex_get p.Defs k (by omega)
    refine awp_skip ?_
    refine awp_seq ?_
    refine awp_block ?_
    refine awp_seq ?_
    refine awp_region rfl ?_
    refine rwp_det rfl rfl (det_field_lit rfl fd47_3 rfl) ?_
    refine rwp_det rfl rfl (det_load_one rfl one45 rfl (ptr_row 3 rfl) rfl) ?_
    refine rwp_det rfl rfl (det_move rfl rfl) ?_
    refine rwp_det rfl rfl (det_index_sl rfl el45 rfl rfl (by omega) (getm (by assumption))) ?_
    refine rwp_det rfl rfl (det_load_agg rfl agg35 rfl ptr_imm rfl) ?_
    refine rwp_op rfl rfl (ope_allocN [none, none, none, none, none, none, some 3, some 3, none, none, none, none, none, none, none, none, none, none, none, some 2, some 4, some 13] rfl zr35 rfl) ?_
    rintro _ _ ⟨b10, rfl, rfl⟩
    refine rwp_det0 rfl rfl (det_store rfl sz35 rfl rfl rfl (st_row 0 rfl rfl)) ?_
    refine rwp_nil ?_
    refine awp_draw 19 mixed (by kernel_rfl) rfl rfl ?_
    refine td_det rfl rfl (det_field_lit rfl fd47_3 rfl) ?_
    refine td_det rfl rfl (det_load_one rfl one45 rfl (ptr_row 2 rfl) rfl) ?_
    refine td_det rfl rfl (det_field_lit rfl fd35_0 rfl) ?_
    refine td_det rfl rfl (det_load_one rfl one9 rfl (ptr_row 0 rfl) rfl) ?_
    refine td_det rfl rfl (det_field_lit rfl fd35_1 rfl) ?_
    refine td_det rfl rfl (det_load_agg rfl agg23 rfl (ptr_row 0 rfl) rfl) ?_
    refine td_det rfl rfl (det_field_lit rfl fd35_2 rfl) ?_
    refine td_det rfl rfl (det_load_one rfl one24 rfl (ptr_row 0 rfl) rfl) ?_
    refine td_det rfl rfl (det_call rfl ok115 (OwnR.pur (ref17_twins d.Dims (by have := (hP.ds d (mem_of_get hd)).1; omega) (hP.ds d (mem_of_get hd)).2.2.1)) ⟨VLe.refl _, rfl, trivial⟩) ?_
    refine td_det rfl rfl (det_field_lit rfl fd35_3 rfl) ?_
    refine td_det rfl rfl (det_load_one rfl one24 rfl (ptr_row 0 rfl) rfl) ?_
    refine td_det rfl rfl (det_call rfl ok115 (OwnR.pur (ref17_twins d.Red (by have := (hP.ds d (mem_of_get hd)).2.1; omega) (hP.ds d (mem_of_get hd)).2.2.2.1)) ⟨VLe.refl _, rfl, trivial⟩) ?_
    refine td_det rfl rfl (det_field_lit rfl fd35_4 rfl) ?_
    refine td_det rfl rfl (det_load_one rfl one3 rfl (ptr_row 0 rfl) rfl) ?_
    refine td_det rfl rfl (det_field_lit rfl fd35_5 rfl) ?_
    refine td_det rfl rfl (det_load_agg rfl agg33 rfl (ptr_row 0 rfl) rfl) ?_
    refine td_det rfl rfl (det_call rfl ok30 (ref14_Twin d.Body (hP.ds d (mem_of_get hd)).2.2.2.2) ⟨VLe.refl _, rfl, trivial⟩) ?_
    refine td_det rfl rfl (det_build rfl zr35 pl35 rfl) ?_
    refine td_det rfl rfl (det_bslice rfl el45 zr35 rfl rfl rfl rfl) ?_
    refine td_nil ?_
    refine rwp_op rfl rfl (ope_append 1 rfl el45 rfl rfl rfl (by simp only [List.length_take, List.length_map, List.length_append, List.length_cons, List.length_nil]; omega) (by simp only [List.length_take, List.length_map, List.length_append, List.length_cons, List.length_nil]; omega)) ?_
    rintro _ _ ⟨sv11, rfl, rfl⟩
    refine rwp_det rfl rfl (det_field_lit rfl fd47_3 rfl) ?_
    refine rwp_det0 rfl rfl (det_store rfl sz45 rfl rfl rfl (st_row 2 rfl rfl)) ?_
    refine rwp_nil ?_
    refine awp_region rfl ?_
    refine rwp_det rfl rfl (det_move rfl rfl) ?_
    refine rwp_det rfl rfl (det_add_nw rfl rfl rfl ⟨by omega, by omega⟩) ?_
    refine rwp_det rfl rfl (det_assign rfl rfl) ?_
    refine rwp_nil ?_
    refine ⟨⟨k + 1, sv11⟩, (by omega), (by show p.Defs.length - (k + 1) < p.Defs.length - k; omega), Weak.mk [false, true, true, true, true] ⟨VLe.refl _, VLe.refl _, VLe.refl _, VLe.refl _, trivial⟩ (by exact mem2_eq' (by rw [take_next hd, List.map_append]; rfl))⟩
   ·try simp only [sx, List.length_map] at c4
    rw [take_all (l := p.Defs) (k := k) (by omega)]
    refine awp_weak _ (weak_freezeM 0 rfl (regs' := []) (μ' := [_, _, _]) trivial ⟨EFle.row (ds := [_, _, _, _, _]) ⟨.inl rfl, .inl rfl, .inl rfl, .inr ⟨rfl, rfl⟩, .inl rfl, trivial⟩, EFle.refl _, EFle.refl _, trivial⟩) ?_
    refine awp_exit ?_
    refine awp_seq ?_
    refine awp_region rfl ?_
    refine rwp_det rfl rfl (det_load_agg rfl agg47 rfl (ptr_row 0 rfl) rfl) ?_
    refine rwp_det0 rfl rfl (det_store rfl sz47 rfl rfl rfl (st_row 1 rfl rfl)) ?_
    refine rwp_nil ?_
    refine awp_ret ?_
    repeat (first | refine thenQ_ret ?_ | refine blockQ_ret ?_)
    refine fin1 (rs_cell_agg agg47 rfl (ptr_row 1 rfl) rfl) ?_
    rfl

end Go.W
end
section
set_option linter.unusedSimpArgs false
set_option linter.unusedVariables false
namespace Go.W
open Go Go.Eng Go.Proofs Go.L41 Go.Br
attribute [local irreducible] AWP RWP TD
theorem ok20 : callOk Tryz.prog 20 = true := by kernel_rfl
theorem ok45 : callOk Tryz.prog 45 = true := by kernel_rfl
theorem ok46 : callOk Tryz.prog 46 = true := by kernel_rfl
theorem ok47 : callOk Tryz.prog 47 = true := by kernel_rfl
theorem ok49 : callOk Tryz.prog 49 = true := by kernel_rfl
theorem law17_spoil_step (w0 : World) (bs : List Nat) (p : Pg) (hS : p.Str 9000000000000000000) (hP : p.Ok) (m : Nat) (hm : m + p.Sizes.length + p.Params.length + dcL p.Defs + p.Outs.length ≤ 90000000000000) :
    Con cfg 49 [vGp w0 bs m p] [E.reg bs (Kp w0 bs (m))] (fun r μ' => ∃ μ2, (∃ ν1 ν2, μ' = ν1 ++ (μ2 ++ ν2)) ∧ (r = .tup [] ∧ μ2 = [E.reg bs (Kp w0 bs (m + p.Sizes.length + p.Params.length + dcL p.Defs + p.Outs.length))])) := by
 refine con_intro Tryz.func49 rfl Tryz.ntmps49 Tryz.results49 rfl ?_
 intro z hz
 have hq0 := hP.sizes
 have hq1 := hP.wh
 have hq2 := hP.params
 have hq3 := hP.defs
 have hq4 := hP.outs
 refine awp_seq ?_
 refine awp_region rfl ?_
 refine rwp_op rfl rfl (ope_box rfl rfl) ?_
 rintro _ _ ⟨b1, rfl, rfl⟩
 refine rwp_nil ?_
 refine awp_seq ?_
 refine awp_seq ?_
 refine awp_region rfl ?_
 refine rwp_det rfl rfl (det_field_lit rfl fd47_0 rfl) ?_
 refine rwp_det rfl rfl (det_load_one rfl one42 rfl (ptr_row 0 rfl) rfl) ?_
 refine rwp_det rfl rfl (det_len_gm rfl el42 rfl) ?_
 refine rwp_det rfl rfl (det_move rfl rfl) ?_
 refine rwp_nil ?_
 refine awp_block ?_
 refine awp_weak ⟨[(16, .c _), (1, .c _), (15, .c _)], [_, _]⟩ (Weak.mk [true, true] ⟨VLe.of_eq rfl, VLe.of_eq rfl, VLe.of_eq rfl, trivial⟩ rfl) ?_
 refine awp_loop_k 1 2 rfl rfl (Nat) (fun k1 => [(16, vI k1)]) (fun k1 => [E.row b1 47 (p.cells.map (Gc w0 bs m)), E.reg bs (Kp w0 bs (m + k1))]) (fun k1 => k1 ≤ p.Sizes.length) (fun k1 => p.Sizes.length - k1) ⟨0, (by omega), Weak.mk [true, true] ⟨VLe.refl _, VLe.refl _, VLe.refl _, trivial⟩ rfl⟩ ?_
 rintro k1 hk1
 refine awp_seq ?_
 refine awp_region rfl ?_
 refine rwp_det rfl rfl (det_lss rfl rfl rfl) ?_
 refine rwp_nil ?_
 refine awp_seq ?_
 refine awp_cond rfl (fun c1 => ?_) (fun c1 => ?_)
 ·try simp only [sx, List.length_map] at c1
  obtain ⟨s1, hs1⟩ := ex_get p.Sizes k1 (by omega)
  have hz := hS.sizes s1 (mem_of_get hs1)
  refine awp_skip ?_
  refine awp_seq ?_
  refine awp_block ?_
  refine awp_seq ?_
  refine awp_region rfl ?_
  refine rwp_det rfl rfl (det_move rfl rfl) ?_
  refine rwp_det rfl rfl (det_assign rfl rfl) ?_
  refine rwp_nil ?_
  refine awp_region rfl ?_
  refine rwp_det rfl rfl (det_field_lit rfl fd47_0 rfl) ?_
  refine rwp_det rfl rfl (det_load_one rfl one42 rfl (ptr_row 0 rfl) rfl) ?_
  refine rwp_det rfl rfl (det_move rfl rfl) ?_
  refine rwp_det rfl rfl (det_index_g rfl el42 rfl rfl (by omega) (getm (by assumption))) ?_
  refine rwp_det rfl rfl (det_load_one rfl one9 rfl (ptr_g 1 rfl) rfl) ?_
  refine rwp_det rfl rfl (det_sadd_g rfl rfl rfl (by have h1 : (ByteArray.mk #[120]).size = 1 := rfl; rw [h1]; omega)) ?_
  refine rwp_det rfl rfl (det_index_g rfl el42 rfl rfl (by omega) (getm (by assumption))) ?_
  refine rwp_det0 rfl rfl (det_store rfl sz9 rfl rfl rfl (st_g 1 rfl (Nat.le_add_right _ _))) ?_
  refine rwp_nil ?_
  refine awp_region rfl ?_
  refine rwp_det rfl rfl (det_add_nw rfl rfl rfl ⟨by omega, by omega⟩) ?_
  refine rwp_det rfl rfl (det_move rfl rfl) ?_
  refine rwp_nil ?_
  refine ⟨k1 + 1, (by omega), (by omega), Weak.mk [true, true] ⟨VLe.refl _, VLe.refl _, VLe.refl _, trivial⟩ rfl⟩
 ·try simp only [sx, List.length_map] at c1
  have he1 : k1 = p.Sizes.length := by omega
  subst he1
  refine awp_exit ?_
  refine awp_seq ?_
  refine awp_seq ?_
  refine awp_region rfl ?_
  refine rwp_det rfl rfl (det_field_lit rfl fd47_1 rfl) ?_
  refine rwp_det rfl rfl (det_load_one rfl one43 rfl (ptr_row 0 rfl) rfl) ?_
  refine rwp_det rfl rfl (det_len_gm rfl el43 rfl) ?_
  refine rwp_det rfl rfl (det_move rfl rfl) ?_
  refine rwp_nil ?_
  refine awp_block ?_
  refine awp_weak ⟨[(30, .c _), (1, .c _), (29, .c _)], [_, _]⟩ (Weak.mk [true, true] ⟨VLe.of_eq rfl, VLe.of_eq rfl, VLe.of_eq rfl, trivial⟩ rfl) ?_
  refine awp_loop_k 1 0 rfl rfl (Nat) (fun k2 => [(30, vI k2)]) (fun k2 => []) (fun k2 => k2 ≤ p.Where.length) (fun k2 => p.Where.length - k2) ⟨0, (by omega), Weak.mk [true, true] ⟨VLe.refl _, VLe.refl _, VLe.refl _, trivial⟩ rfl⟩ ?_
  rintro k2 hk2
  refine awp_seq ?_
  refine awp_region rfl ?_
  refine rwp_det rfl rfl (det_lss rfl rfl rfl) ?_
  refine rwp_nil ?_
  refine awp_seq ?_
  refine awp_cond rfl (fun c2 => ?_) (fun c2 => ?_)
  ·try simp only [sx, List.length_map] at c2
   obtain ⟨x, hx⟩ := ex_get p.Where k2 (by omega)
   have hz2 := hP.whs x (mem_of_get hx)
   refine awp_skip ?_
   refine awp_seq ?_
   refine awp_block ?_
   refine awp_seq ?_
   refine awp_region rfl ?_
   refine rwp_det rfl rfl (det_move rfl rfl) ?_
   refine rwp_det rfl rfl (det_assign rfl rfl) ?_
   refine rwp_nil ?_
   refine awp_seq ?_
   refine awp_seq ?_
   refine awp_region rfl ?_
   refine rwp_det rfl rfl (det_field_lit rfl fd47_1 rfl) ?_
   refine rwp_det rfl rfl (det_load_one rfl one43 rfl (ptr_row 0 rfl) rfl) ?_
   refine rwp_det rfl rfl (det_move rfl rfl) ?_
   refine rwp_det rfl rfl (det_index_g rfl el43 rfl rfl (by omega) (getm (by assumption))) ?_
   refine rwp_det rfl rfl (det_field_g rfl fd111_0 rfl) ?_
   refine rwp_det rfl rfl (det_field_g rfl fd29_1 rfl) ?_
   refine rwp_det rfl rfl (det_load_one rfl one27 rfl (ptr_g 1 rfl) rfl) ?_
   refine rwp_det rfl rfl (det_len_gm rfl el27 rfl) ?_
   refine rwp_det rfl rfl (det_move rfl rfl) ?_
   refine rwp_nil ?_
   refine awp_block ?_
   refine awp_weak ⟨[(41, .c _), (1, .c _), (3, .c _), (29, .c _), (30, .c _), (40, .c _)], [_, _]⟩ (Weak.mk [true, true] ⟨VLe.of_eq rfl, VLe.of_eq rfl, VLe.of_eq rfl, VLe.of_eq rfl, VLe.of_eq rfl, VLe.of_eq rfl, trivial⟩ rfl) ?_
   refine awp_loop_k 1 0 rfl rfl (Nat) (fun k3 => [(41, vI k3)]) (fun k3 => []) (fun k3 => k3 ≤ x.Lin.L.length) (fun k3 => x.Lin.L.length - k3) ⟨0, (by omega), Weak.mk [true, true] ⟨VLe.refl _, VLe.refl _, VLe.refl _, VLe.refl _, VLe.refl _, VLe.refl _, trivial⟩ rfl⟩ ?_
   rintro k3 hk3
   refine awp_seq ?_
   refine awp_region rfl ?_
   refine rwp_det rfl rfl (det_lss rfl rfl rfl) ?_
   refine rwp_nil ?_
   refine awp_seq ?_
   refine awp_cond rfl (fun c3 => ?_) (fun c3 => ?_)
   ·try simp only [sx, List.length_map] at c3
    obtain ⟨z, hz3⟩ := ex_get x.Lin.L k3 (by omega)
    refine awp_skip ?_
    refine awp_seq ?_
    refine awp_block ?_
    refine awp_seq ?_
    refine awp_region rfl ?_
    refine rwp_det rfl rfl (det_move rfl rfl) ?_
    refine rwp_det rfl rfl (det_assign rfl rfl) ?_
    refine rwp_nil ?_
    refine awp_region rfl ?_
    refine rwp_det rfl rfl (det_field_lit rfl fd47_1 rfl) ?_
    refine rwp_det rfl rfl (det_load_one rfl one43 rfl (ptr_row 0 rfl) rfl) ?_
    refine rwp_det rfl rfl (det_move rfl rfl) ?_
    refine rwp_det rfl rfl (det_index_g rfl el43 rfl rfl (by omega) (getm (by assumption))) ?_
    refine rwp_det rfl rfl (det_field_g rfl fd111_0 rfl) ?_
    refine rwp_det rfl rfl (det_field_g rfl fd29_1 rfl) ?_
    refine rwp_det rfl rfl (det_load_one rfl one27 rfl (ptr_g 1 rfl) rfl) ?_
    refine rwp_det rfl rfl (det_move rfl rfl) ?_
    refine rwp_det rfl rfl (det_index_g rfl el27 rfl rfl (by omega) (getm (by assumption))) ?_
    refine rwp_det rfl rfl (det_field_g rfl fd75_1 rfl) ?_
    refine rwp_det rfl rfl (det_load_one rfl one2 rfl (ptr_g 1 rfl) rfl) ?_
    refine rwp_det rfl rfl (det_add_g rfl rfl rfl) ?_
    refine rwp_det rfl rfl (det_index_g rfl el27 rfl rfl (by omega) (getm (by assumption))) ?_
    refine rwp_det rfl rfl (det_field_g rfl fd75_1 rfl) ?_
    refine rwp_det0 rfl rfl (det_store rfl sz2 rfl rfl rfl (st_g 1 rfl (Nat.le_refl _))) ?_
    refine rwp_nil ?_
    refine awp_region rfl ?_
    refine rwp_det rfl rfl (det_add_nw rfl rfl rfl ⟨by omega, by omega⟩) ?_
    refine rwp_det rfl rfl (det_move rfl rfl) ?_
    refine rwp_nil ?_
    refine ⟨k3 + 1, (by omega), (by omega), Weak.mk [true, true] ⟨VLe.refl _, VLe.refl _, VLe.refl _, VLe.refl _, VLe.refl _, VLe.refl _, trivial⟩ rfl⟩
   ·try simp only [sx, List.length_map] at c3
    refine awp_exit ?_
    refine awp_draw 12 mixed (by kernel_rfl) rfl rfl ?_
    refine td_det rfl rfl (det_field_lit rfl fd47_1 rfl) ?_
    refine td_det rfl rfl (det_load_one rfl one43 rfl (ptr_row 0 rfl) rfl) ?_
    refine td_det rfl rfl (det_move rfl rfl) ?_
    refine td_det rfl rfl (det_field_lit rfl fd47_1 rfl) ?_
    refine td_det rfl rfl (det_load_one rfl one43 rfl (ptr_row 0 rfl) rfl) ?_
    refine td_det rfl rfl (det_move rfl rfl) ?_
    refine td_det rfl rfl (det_index_g rfl el43 rfl rfl (by omega) (getm (by assumption))) ?_
    refine td_det rfl rfl (det_field_g rfl fd111_1 rfl) ?_
    refine td_det rfl rfl (det_load_one rfl one4 rfl (ptr_g 1 rfl) rfl) ?_
    refine td_det rfl rfl (det_not_g rfl rfl) ?_
    refine td_det rfl rfl (det_index_g rfl el43 rfl rfl (by omega) (getm (by assumption))) ?_
    refine td_det rfl rfl (det_field_g rfl fd111_1 rfl) ?_
    refine td_nil ?_
    refine rwp_det0 rfl rfl (det_store rfl sz4 rfl rfl rfl (st_g 1 rfl (Nat.le_refl _))) ?_
    refine rwp_nil ?_
    refine awp_region rfl ?_
    refine rwp_det rfl rfl (det_add_nw rfl rfl rfl ⟨by omega, by omega⟩) ?_
    refine rwp_det rfl rfl (det_move rfl rfl) ?_
    refine rwp_nil ?_
    refine ⟨k2 + 1, (by omega), (by omega), Weak.mk [true, true] ⟨VLe.refl _, VLe.refl _, VLe.refl _, trivial⟩ rfl⟩
  ·try simp only [sx, List.length_map] at c2
   refine awp_exit ?_
   refine awp_seq ?_
   refine awp_seq ?_
   refine awp_region rfl ?_
   refine rwp_det rfl rfl (det_field_lit rfl fd47_2 rfl) ?_
   refine rwp_det rfl rfl (det_load_one rfl one44 rfl (ptr_row 0 rfl) rfl) ?_
   refine rwp_det rfl rfl (det_len_gm rfl el44 rfl) ?_
   refine rwp_det rfl rfl (det_move rfl rfl) ?_
   refine rwp_nil ?_
   refine awp_block ?_
   refine awp_weak ⟨[(75, .c _), (1, .c _), (74, .c _)], [_, _]⟩ (Weak.mk [true, true] ⟨VLe.of_eq rfl, VLe.of_eq rfl, VLe.of_eq rfl, trivial⟩ rfl) ?_
   refine awp_loop_k 1 2 rfl rfl (Nat) (fun k4 => [(75, vI k4)]) (fun k4 => [E.row b1 47 (p.cells.map (Gc w0 bs m)), E.reg bs (Kp w0 bs (m + p.Sizes.length + k4))]) (fun k4 => k4 ≤ p.Params.length) (fun k4 => p.Params.length - k4) ⟨0, (by omega), Weak.mk [true, true] ⟨VLe.refl _, VLe.refl _, VLe.refl _, trivial⟩ rfl⟩ ?_
   rintro k4 hk4
   refine awp_seq ?_
   refine awp_region rfl ?_
   refine rwp_det rfl rfl (det_lss rfl rfl rfl) ?_
   refine rwp_nil ?_
   refine awp_seq ?_
   refine awp_cond rfl (fun c4 => ?_) (fun c4 => ?_)
   ·try simp only [sx, List.length_map] at c4
    obtain ⟨y, hy⟩ := ex_get p.Params k4 (by omega)
    have hz := hS.ps y (mem_of_get hy)
    have hz2 := (hP.ps y (mem_of_get hy)).1
    refine awp_skip ?_
    refine awp_seq ?_
    refine awp_block ?_
    refine awp_seq ?_
    refine awp_region rfl ?_
    refine rwp_det rfl rfl (det_move rfl rfl) ?_
    refine rwp_det rfl rfl (det_assign rfl rfl) ?_
    refine rwp_nil ?_
    refine awp_seq ?_
    refine awp_seq ?_
    refine awp_region rfl ?_
    refine rwp_det rfl rfl (det_field_lit rfl fd47_2 rfl) ?_
    refine rwp_det rfl rfl (det_load_one rfl one44 rfl (ptr_row 0 rfl) rfl) ?_
    refine rwp_det rfl rfl (det_move rfl rfl) ?_
    refine rwp_det rfl rfl (det_index_g rfl el44 rfl rfl (by omega) (getm (by assumption))) ?_
    refine rwp_det rfl rfl (det_field_g rfl fd106_2 rfl) ?_
    refine rwp_det rfl rfl (det_load_one rfl one104 rfl (ptr_g 1 rfl) rfl) ?_
    refine rwp_det rfl rfl (det_len_gm rfl el104 rfl) ?_
    refine rwp_det rfl rfl (det_move rfl rfl) ?_
    refine rwp_nil ?_
    refine awp_block ?_
    refine awp_weak ⟨[(85, .c _), (1, .c _), (5, .c _), (74, .c _), (75, .c _), (84, .c _)], [_, _]⟩ (Weak.mk [true, true] ⟨VLe.of_eq rfl, VLe.of_eq rfl, VLe.of_eq rfl, VLe.of_eq rfl, VLe.of_eq rfl, VLe.of_eq rfl, trivial⟩ rfl) ?_
    refine awp_loop_k 1 0 rfl rfl (Nat) (fun k5 => [(85, vI k5)]) (fun k5 => []) (fun k5 => k5 ≤ y.Dims.length) (fun k5 => y.Dims.length - k5) ⟨0, (by omega), Weak.mk [true, true] ⟨VLe.refl _, VLe.refl _, VLe.refl _, VLe.refl _, VLe.refl _, VLe.refl _, trivial⟩ rfl⟩ ?_
    rintro k5 hk5
    refine awp_seq ?_
    refine awp_region rfl ?_
    refine rwp_det rfl rfl (det_lss rfl rfl rfl) ?_
    refine rwp_nil ?_
    refine awp_seq ?_
    refine awp_cond rfl (fun c5 => ?_) (fun c5 => ?_)
    ·try simp only [sx, List.length_map] at c5
     obtain ⟨l, hl⟩ := ex_get y.Dims k5 (by omega)
     refine awp_skip ?_
     refine awp_seq ?_
     refine awp_block ?_
     refine awp_seq ?_
     refine awp_region rfl ?_
     refine rwp_det rfl rfl (det_move rfl rfl) ?_
     refine rwp_det rfl rfl (det_assign rfl rfl) ?_
     refine rwp_nil ?_
     refine awp_region rfl ?_
     refine rwp_det rfl rfl (det_field_lit rfl fd47_2 rfl) ?_
     refine rwp_det rfl rfl (det_load_one rfl one44 rfl (ptr_row 0 rfl) rfl) ?_
     refine rwp_det rfl rfl (det_move rfl rfl) ?_
     refine rwp_det rfl rfl (det_index_g rfl el44 rfl rfl (by omega) (getm (by assumption))) ?_
     refine rwp_det rfl rfl (det_field_g rfl fd106_2 rfl) ?_
     refine rwp_det rfl rfl (det_load_one rfl one104 rfl (ptr_g 1 rfl) rfl) ?_
     refine rwp_det rfl rfl (det_move rfl rfl) ?_
     refine rwp_det rfl rfl (det_index_g rfl el104 rfl rfl (by omega) (getm (by assumption))) ?_
     refine rwp_det rfl rfl (det_field_g rfl fd29_0 rfl) ?_
     refine rwp_det rfl rfl (det_load_one rfl one2 rfl (ptr_g 1 rfl) rfl) ?_
     refine rwp_det rfl rfl (det_add_g rfl rfl rfl) ?_
     refine rwp_det rfl rfl (det_index_g rfl el104 rfl rfl (by omega) (getm (by assumption))) ?_
     refine rwp_det rfl rfl (det_field_g rfl fd29_0 rfl) ?_
     refine rwp_det0 rfl rfl (det_store rfl sz2 rfl rfl rfl (st_g 1 rfl (Nat.le_refl _))) ?_
     refine rwp_nil ?_
     refine awp_region rfl ?_
     refine rwp_det rfl rfl (det_add_nw rfl rfl rfl ⟨by omega, by omega⟩) ?_
     refine rwp_det rfl rfl (det_move rfl rfl) ?_
     refine rwp_nil ?_
     refine ⟨k5 + 1, (by omega), (by omega), Weak.mk [true, true] ⟨VLe.refl _, VLe.refl _, VLe.refl _, VLe.refl _, VLe.refl _, VLe.refl _, trivial⟩ rfl⟩
    ·try simp only [sx, List.length_map] at c5
     refine awp_exit ?_
     refine awp_region rfl ?_
     refine rwp_det rfl rfl (det_field_lit rfl fd47_2 rfl) ?_
     refine rwp_det rfl rfl (det_load_one rfl one44 rfl (ptr_row 0 rfl) rfl) ?_
     refine rwp_det rfl rfl (det_move rfl rfl) ?_
     refine rwp_det rfl rfl (det_index_g rfl el44 rfl rfl (by omega) (getm (by assumption))) ?_
     refine rwp_det rfl rfl (det_field_g rfl fd106_0 rfl) ?_
     refine rwp_det rfl rfl (det_load_one rfl one9 rfl (ptr_g 1 rfl) rfl) ?_
     refine rwp_det rfl rfl (det_sadd_g rfl rfl rfl (by have h1 : (ByteArray.mk #[120]).size = 1 := rfl; rw [h1]; omega)) ?_
     refine rwp_det rfl rfl (det_index_g rfl el44 rfl rfl (by omega) (getm (by assumption))) ?_
     refine rwp_det rfl rfl (det_field_g rfl fd106_0 rfl) ?_
     refine rwp_det0 rfl rfl (det_store rfl sz9 rfl rfl rfl (st_g 1 rfl (Nat.le_add_right _ _))) ?_
     refine rwp_nil ?_
     refine awp_region rfl ?_
     refine rwp_det rfl rfl (det_add_nw rfl rfl rfl ⟨by omega, by omega⟩) ?_
     refine rwp_det rfl rfl (det_move rfl rfl) ?_
     refine rwp_nil ?_
     refine ⟨k4 + 1, (by omega), (by omega), Weak.mk [true, true] ⟨VLe.refl _, VLe.refl _, VLe.refl _, trivial⟩ rfl⟩
   ·try simp only [sx, List.length_map] at c4
    have he4 : k4 = p.Params.length := by omega
    subst he4
    refine awp_exit ?_
    refine awp_seq ?_
    refine awp_seq ?_
    refine awp_region rfl ?_
    refine rwp_det rfl rfl (det_field_lit rfl fd47_3 rfl) ?_
    refine rwp_det rfl rfl (det_load_one rfl one45 rfl (ptr_row 0 rfl) rfl) ?_
    refine rwp_det rfl rfl (det_len_gm rfl el45 rfl) ?_
    refine rwp_det rfl rfl (det_move rfl rfl) ?_
    refine rwp_nil ?_
    refine awp_block ?_
    refine awp_weak ⟨[(115, .c _), (1, .c _), (114, .c _)], [_, _]⟩ (Weak.mk [true, true] ⟨VLe.of_eq rfl, VLe.of_eq rfl, VLe.of_eq rfl, trivial⟩ rfl) ?_
    refine awp_loop_k 1 2 rfl rfl (Nat) (fun k6 => [(115, vI k6)]) (fun k6 => [E.row b1 47 (p.cells.map (Gc w0 bs m)), E.reg bs (Kp w0 bs (m + p.Sizes.length + p.Params.length + dcL (p.Defs.take k6)))]) (fun k6 => k6 ≤ p.Defs.length) (fun k6 => p.Defs.length - k6) ⟨0, (by omega), Weak.mk [true, true] ⟨VLe.refl _, VLe.refl _, VLe.refl _, trivial⟩ (by rw [List.take_zero]; rfl)⟩ ?_
    rintro k6 hk6
    refine awp_seq ?_
    refine awp_region rfl ?_
    refine rwp_det rfl rfl (det_lss rfl rfl rfl) ?_
    refine rwp_nil ?_
    refine awp_seq ?_
    refine awp_cond rfl (fun c6 => ?_) (fun c6 => ?_)
    ·try simp only [sx, List.length_map] at c6
     obtain ⟨d, hd⟩ := ex_get p.Defs k6 (by omega)
     have hd1 := hP.ds d (mem_of_get hd)
     have hd2 := hd1.1
     have hd3 := hd1.2.1
     have hd4 := hd1.2.2.2.2
     obtain ⟨hw1, hw2, hw3⟩ := Ex.parts hd4
     have hdc := dcL_le hd
     refine awp_skip ?_
     refine awp_seq ?_
     refine awp_block ?_
     refine awp_seq ?_
     refine awp_region rfl ?_
     refine rwp_det rfl rfl (det_move rfl rfl) ?_
     refine rwp_det rfl rfl (det_assign rfl rfl) ?_
     refine rwp_nil ?_
     refine awp_seq ?_
     refine awp_seq ?_
     refine awp_region rfl ?_
     refine rwp_det rfl rfl (det_field_lit rfl fd47_3 rfl) ?_
     refine rwp_det rfl rfl (det_load_one rfl one45 rfl (ptr_row 0 rfl) rfl) ?_
     refine rwp_det rfl rfl (det_move rfl rfl) ?_
     refine rwp_det rfl rfl (det_index_g rfl el45 rfl rfl (by omega) (getm (by assumption))) ?_
     refine rwp_det rfl rfl (det_field_g rfl fd35_2 rfl) ?_
     refine rwp_det rfl rfl (det_load_one rfl one24 rfl (ptr_g 1 rfl) rfl) ?_
     refine rwp_det rfl rfl (det_len_gm rfl el24 rfl) ?_
     refine rwp_det rfl rfl (det_move rfl rfl) ?_
     refine rwp_nil ?_
     refine awp_block ?_
     refine awp_weak ⟨[(125, .c _), (1, .c _), (7, .c _), (114, .c _), (115, .c _), (124, .c _)], [_, _]⟩ (Weak.mk [true, true] ⟨VLe.of_eq rfl, VLe.of_eq rfl, VLe.of_eq rfl, VLe.of_eq rfl, VLe.of_eq rfl, VLe.of_eq rfl, trivial⟩ rfl) ?_
     refine awp_loop_k 1 2 rfl rfl (Nat) (fun k7 => [(125, vI k7)]) (fun k7 => [E.row b1 47 (p.cells.map (Gc w0 bs m)), E.reg bs (Kp w0 bs (m + p.Sizes.length + p.Params.length + dcL (p.Defs.take k6) + k7))]) (fun k7 => k7 ≤ d.Dims.length) (fun k7 => d.Dims.length - k7) ⟨0, (by omega), Weak.mk [true, true] ⟨VLe.refl _, VLe.refl _, VLe.refl _, VLe.refl _, VLe.refl _, VLe.refl _, trivial⟩ rfl⟩ ?_
     rintro k7 hk7
     refine awp_seq ?_
     refine awp_region rfl ?_
     refine rwp_det rfl rfl (det_lss rfl rfl rfl) ?_
     refine rwp_nil ?_
     refine awp_seq ?_
     refine awp_cond rfl (fun c7 => ?_) (fun c7 => ?_)
     ·try simp only [sx, List.length_map] at c7
      obtain ⟨a, ha⟩ := ex_get d.Dims k7 (by omega)
      have hz := hS.dims d (mem_of_get hd) a (mem_of_get ha)
      refine awp_skip ?_
      refine awp_seq ?_
      refine awp_block ?_
      refine awp_seq ?_
      refine awp_region rfl ?_
      refine rwp_det rfl rfl (det_move rfl rfl) ?_
      refine rwp_det rfl rfl (det_assign rfl rfl) ?_
      refine rwp_nil ?_
      refine awp_region rfl ?_
      refine rwp_det rfl rfl (det_field_lit rfl fd47_3 rfl) ?_
      refine rwp_det rfl rfl (det_load_one rfl one45 rfl (ptr_row 0 rfl) rfl) ?_
      refine rwp_det rfl rfl (det_move rfl rfl) ?_
      refine rwp_det rfl rfl (det_index_g rfl el45 rfl rfl (by omega) (getm (by assumption))) ?_
      refine rwp_det rfl rfl (det_field_g rfl fd35_2 rfl) ?_
      refine rwp_det rfl rfl (det_load_one rfl one24 rfl (ptr_g 1 rfl) rfl) ?_
      refine rwp_det rfl rfl (det_move rfl rfl) ?_
      refine rwp_det rfl rfl (det_index_g rfl el24 rfl rfl (by omega) (getm (by assumption))) ?_
      refine rwp_det rfl rfl (det_field_g rfl fd88_0 rfl) ?_
      refine rwp_det rfl rfl (det_load_one rfl one9 rfl (ptr_g 1 rfl) rfl) ?_
      refine rwp_det rfl rfl (det_sadd_g rfl rfl rfl (by have h1 : (ByteArray.mk #[120]).size = 1 := rfl; rw [h1]; omega)) ?_
      refine rwp_det rfl rfl (det_index_g rfl el24 rfl rfl (by omega) (getm (by assumption))) ?_
      refine rwp_det rfl rfl (det_field_g rfl fd88_0 rfl) ?_
      refine rwp_det0 rfl rfl (det_store rfl sz9 rfl rfl rfl (st_g 1 rfl (Nat.le_add_right _ _))) ?_
      refine rwp_nil ?_
      refine awp_region rfl ?_
      refine rwp_det rfl rfl (det_add_nw rfl rfl rfl ⟨by omega, by omega⟩) ?_
      refine rwp_det rfl rfl (det_move rfl rfl) ?_
      refine rwp_nil ?_
      refine ⟨k7 + 1, (by omega), (by omega), Weak.mk [true, true] ⟨VLe.refl _, VLe.refl _, VLe.refl _, VLe.refl _, VLe.refl _, VLe.refl _, trivial⟩ rfl⟩
     ·try simp only [sx, List.length_map] at c7
      have he7 : k7 = d.Dims.length := by omega
      subst he7
      refine awp_exit ?_
      refine awp_seq ?_
      refine awp_seq ?_
      refine awp_region rfl ?_
      refine rwp_det rfl rfl (det_field_lit rfl fd47_3 rfl) ?_
      refine rwp_det rfl rfl (det_load_one rfl one45 rfl (ptr_row 0 rfl) rfl) ?_
      refine rwp_det rfl rfl (det_move rfl rfl) ?_
      refine rwp_det rfl rfl (det_index_g rfl el45 rfl rfl (by omega) (getm (by assumption))) ?_
      refine rwp_det rfl rfl (det_field_g rfl fd35_3 rfl) ?_
      refine rwp_det rfl rfl (det_load_one rfl one24 rfl (ptr_g 1 rfl) rfl) ?_
      refine rwp_det rfl rfl (det_len_gm rfl el24 rfl) ?_
      refine rwp_det rfl rfl (det_move rfl rfl) ?_
      refine rwp_nil ?_
      refine awp_block ?_
      refine awp_weak ⟨[(149, .c _), (1, .c _), (7, .c _), (114, .c _), (115, .c _), (148, .c _)], [_, _]⟩ (Weak.mk [true, true] ⟨VLe.of_eq rfl, VLe.of_eq rfl, VLe.of_eq rfl, VLe.of_eq rfl, VLe.of_eq rfl, VLe.of_eq rfl, trivial⟩ rfl) ?_
      refine awp_loop_k 1 0 rfl rfl (Nat) (fun k8 => [(149, vI k8)]) (fun k8 => []) (fun k8 => k8 ≤ d.Red.length) (fun k8 => d.Red.length - k8) ⟨0, (by omega), Weak.mk [true, true] ⟨VLe.refl _, VLe.refl _, VLe.refl _, VLe.refl _, VLe.refl _, VLe.refl _, trivial⟩ rfl⟩ ?_
      rintro k8 hk8
      refine awp_seq ?_
      refine awp_region rfl ?_
      refine rwp_det rfl rfl (det_lss rfl rfl rfl) ?_
      refine rwp_nil ?_
      refine awp_seq ?_
      refine awp_cond rfl (fun c8 => ?_) (fun c8 => ?_)
      ·try simp only [sx, List.length_map] at c8
       obtain ⟨b, hb⟩ := ex_get d.Red k8 (by omega)
       refine awp_skip ?_
       refine awp_seq ?_
       refine awp_block ?_
       refine awp_seq ?_
       refine awp_region rfl ?_
       refine rwp_det rfl rfl (det_move rfl rfl) ?_
       refine rwp_det rfl rfl (det_assign rfl rfl) ?_
       refine rwp_nil ?_
       refine awp_region rfl ?_
       refine rwp_det rfl rfl (det_field_lit rfl fd47_3 rfl) ?_
       refine rwp_det rfl rfl (det_load_one rfl one45 rfl (ptr_row 0 rfl) rfl) ?_
       refine rwp_det rfl rfl (det_move rfl rfl) ?_
       refine rwp_det rfl rfl (det_index_g rfl el45 rfl rfl (by omega) (getm (by assumption))) ?_
       refine rwp_det rfl rfl (det_field_g rfl fd35_3 rfl) ?_
       refine rwp_det rfl rfl (det_load_one rfl one24 rfl (ptr_g 1 rfl) rfl) ?_
       refine rwp_det rfl rfl (det_move rfl rfl) ?_
       refine rwp_det rfl rfl (det_index_g rfl el24 rfl rfl (by omega) (getm (by assumption))) ?_
       refine rwp_det rfl rfl (det_field_g rfl fd88_1 rfl) ?_
       refine rwp_det rfl rfl (det_field_g rfl fd29_0 rfl) ?_
       refine rwp_det rfl rfl (det_load_one rfl one2 rfl (ptr_g 1 rfl) rfl) ?_
       refine rwp_det rfl rfl (det_add_g rfl rfl rfl) ?_
       refine rwp_det rfl rfl (det_index_g rfl el24 rfl rfl (by omega) (getm (by assumption))) ?_
       refine rwp_det rfl rfl (det_field_g rfl fd88_1 rfl) ?_
       refine rwp_det rfl rfl (det_field_g rfl fd29_0 rfl) ?_
       refine rwp_det0 rfl rfl (det_store rfl sz2 rfl rfl rfl (st_g 1 rfl (Nat.le_refl _))) ?_
       refine rwp_nil ?_
       refine awp_region rfl ?_
       refine rwp_det rfl rfl (det_add_nw rfl rfl rfl ⟨by omega, by omega⟩) ?_
       refine rwp_det rfl rfl (det_move rfl rfl) ?_
       refine rwp_nil ?_
       refine ⟨k8 + 1, (by omega), (by omega), Weak.mk [true, true] ⟨VLe.refl _, VLe.refl _, VLe.refl _, VLe.refl _, VLe.refl _, VLe.refl _, trivial⟩ rfl⟩
      ·try simp only [sx, List.length_map] at c8
       refine awp_exit ?_
       refine awp_seq ?_
       refine awp_seq ?_
       refine awp_region rfl ?_
       refine rwp_det rfl rfl (det_field_lit rfl fd47_3 rfl) ?_
       refine rwp_det rfl rfl (det_load_one rfl one45 rfl (ptr_row 0 rfl) rfl) ?_
       refine rwp_det rfl rfl (det_move rfl rfl) ?_
       refine rwp_det rfl rfl (det_index_g rfl el45 rfl rfl (by omega) (getm (by assumption))) ?_
       refine rwp_det rfl rfl (det_field_g rfl fd35_5 rfl) ?_
       refine rwp_det rfl rfl (det_field_g rfl fd33_6 rfl) ?_
       refine rwp_det rfl rfl (det_load_one rfl one31 rfl (ptr_g 1 rfl) rfl) ?_
       refine rwp_det rfl rfl (det_len_gm rfl el31 rfl) ?_
       refine rwp_det rfl rfl (det_move rfl rfl) ?_
       refine rwp_nil ?_
       refine awp_block ?_
       refine awp_weak ⟨[(176, .c _), (1, .c _), (7, .c _), (114, .c _), (115, .c _), (175, .c _)], [_, _]⟩ (Weak.mk [true, true] ⟨VLe.of_eq rfl, VLe.of_eq rfl, VLe.of_eq rfl, VLe.of_eq rfl, VLe.of_eq rfl, VLe.of_eq rfl, trivial⟩ rfl) ?_
       refine awp_loop_k 1 0 rfl rfl (Nat) (fun k9 => [(176, vI k9)]) (fun k9 => []) (fun k9 => k9 ≤ d.Body.Args.length) (fun k9 => d.Body.Args.length - k9) ⟨0, (by omega), Weak.mk [true, true] ⟨VLe.refl _, VLe.refl _, VLe.refl _, VLe.refl _, VLe.refl _, VLe.refl _, trivial⟩ rfl⟩ ?_
       rintro k9 hk9
       refine awp_seq ?_
       refine awp_region rfl ?_
       refine rwp_det rfl rfl (det_lss rfl rfl rfl) ?_
       refine rwp_nil ?_
       refine awp_seq ?_
       refine awp_cond rfl (fun c9 => ?_) (fun c9 => ?_)
       ·try simp only [sx, List.length_map] at c9
        obtain ⟨c, hc⟩ := ex_get d.Body.Args k9 (by omega)
        refine awp_skip ?_
        refine awp_seq ?_
        refine awp_block ?_
        refine awp_seq ?_
        refine awp_region rfl ?_
        refine rwp_det rfl rfl (det_move rfl rfl) ?_
        refine rwp_det rfl rfl (det_assign rfl rfl) ?_
        refine rwp_nil ?_
        refine awp_region rfl ?_
        refine rwp_det rfl rfl (det_field_lit rfl fd47_3 rfl) ?_
        refine rwp_det rfl rfl (det_load_one rfl one45 rfl (ptr_row 0 rfl) rfl) ?_
        refine rwp_det rfl rfl (det_move rfl rfl) ?_
        refine rwp_det rfl rfl (det_index_g rfl el45 rfl rfl (by omega) (getm (by assumption))) ?_
        refine rwp_det rfl rfl (det_field_g rfl fd35_5 rfl) ?_
        refine rwp_det rfl rfl (det_field_g rfl fd33_6 rfl) ?_
        refine rwp_det rfl rfl (det_load_one rfl one31 rfl (ptr_g 1 rfl) rfl) ?_
        refine rwp_det rfl rfl (det_move rfl rfl) ?_
        refine rwp_det rfl rfl (det_index_g rfl el31 rfl rfl (by omega) (getmE hc)) ?_
        refine rwp_det rfl rfl (det_field_g rfl fd33_0 rfl) ?_
        refine rwp_det rfl rfl (det_load_one rfl one3 rfl (ptr_g 1 rfl) rfl) ?_
        refine rwp_det rfl rfl (det_add_g rfl rfl rfl) ?_
        refine rwp_det rfl rfl (det_index_g rfl el31 rfl rfl (by omega) (getmE hc)) ?_
        refine rwp_det rfl rfl (det_field_g rfl fd33_0 rfl) ?_
        refine rwp_det0 rfl rfl (det_store rfl sz3 rfl rfl rfl (st_g 1 rfl (Nat.le_refl _))) ?_
        refine rwp_nil ?_
        refine awp_region rfl ?_
        refine rwp_det rfl rfl (det_add_nw rfl rfl rfl ⟨by omega, by omega⟩) ?_
        refine rwp_det rfl rfl (det_move rfl rfl) ?_
        refine rwp_nil ?_
        refine ⟨k9 + 1, (by omega), (by omega), Weak.mk [true, true] ⟨VLe.refl _, VLe.refl _, VLe.refl _, VLe.refl _, VLe.refl _, VLe.refl _, trivial⟩ rfl⟩
       ·try simp only [sx, List.length_map] at c9
        refine awp_exit ?_
        refine awp_seq ?_
        refine awp_seq ?_
        refine awp_region rfl ?_
        refine rwp_det rfl rfl (det_field_lit rfl fd47_3 rfl) ?_
        refine rwp_det rfl rfl (det_load_one rfl one45 rfl (ptr_row 0 rfl) rfl) ?_
        refine rwp_det rfl rfl (det_move rfl rfl) ?_
        refine rwp_det rfl rfl (det_index_g rfl el45 rfl rfl (by omega) (getm (by assumption))) ?_
        refine rwp_det rfl rfl (det_field_g rfl fd35_5 rfl) ?_
        refine rwp_det rfl rfl (det_field_g rfl fd33_5 rfl) ?_
        refine rwp_det rfl rfl (det_load_one rfl one30 rfl (ptr_g 1 rfl) rfl) ?_
        refine rwp_det rfl rfl (det_len_gm rfl el30 rfl) ?_
        refine rwp_det rfl rfl (det_move rfl rfl) ?_
        refine rwp_nil ?_
        refine awp_block ?_
        refine awp_weak ⟨[(202, .c _), (1, .c _), (7, .c _), (114, .c _), (115, .c _), (201, .c _)], [_, _]⟩ (Weak.mk [true, true] ⟨VLe.of_eq rfl, VLe.of_eq rfl, VLe.of_eq rfl, VLe.of_eq rfl, VLe.of_eq rfl, VLe.of_eq rfl, trivial⟩ rfl) ?_
        refine awp_loop_k 1 2 rfl rfl (Nat) (fun k10 => [(202, vI k10)]) (fun k10 => [E.row b1 47 (p.cells.map (Gc w0 bs m)), E.reg bs (Kp w0 bs (m + p.Sizes.length + p.Params.length + dcL (p.Defs.take k6) + d.Dims.length + k10))]) (fun k10 => k10 ≤ d.Body.Idx.length) (fun k10 => d.Body.Idx.length - k10) ⟨0, (by omega), Weak.mk [true, true] ⟨VLe.refl _, VLe.refl _, VLe.refl _, VLe.refl _, VLe.refl _, VLe.refl _, trivial⟩ rfl⟩ ?_
        rintro k10 hk10
        refine awp_seq ?_
        refine awp_region rfl ?_
        refine rwp_det rfl rfl (det_lss rfl rfl rfl) ?_
        refine rwp_nil ?_
        refine awp_seq ?_
        refine awp_cond rfl (fun c10 => ?_) (fun c10 => ?_)
        ·try simp only [sx, List.length_map] at c10
         obtain ⟨i, hi⟩ := ex_get d.Body.Idx k10 (by omega)
         have hz := hS.idx d (mem_of_get hd) i (mem_of_get hi)
         refine awp_skip ?_
         refine awp_seq ?_
         refine awp_block ?_
         refine awp_seq ?_
         refine awp_region rfl ?_
         refine rwp_det rfl rfl (det_move rfl rfl) ?_
         refine rwp_det rfl rfl (det_assign rfl rfl) ?_
         refine rwp_nil ?_
         refine awp_region rfl ?_
         refine rwp_det rfl rfl (det_field_lit rfl fd47_3 rfl) ?_
         refine rwp_det rfl rfl (det_load_one rfl one45 rfl (ptr_row 0 rfl) rfl) ?_
         refine rwp_det rfl rfl (det_move rfl rfl) ?_
         refine rwp_det rfl rfl (det_index_g rfl el45 rfl rfl (by omega) (getm (by assumption))) ?_
         refine rwp_det rfl rfl (det_field_g rfl fd35_5 rfl) ?_
         refine rwp_det rfl rfl (det_field_g rfl fd33_5 rfl) ?_
         refine rwp_det rfl rfl (det_load_one rfl one30 rfl (ptr_g 1 rfl) rfl) ?_
         refine rwp_det rfl rfl (det_move rfl rfl) ?_
         refine rwp_det rfl rfl (det_index_g rfl el30 rfl rfl (by omega) (getm (by assumption))) ?_
         refine rwp_det rfl rfl (det_field_g rfl fd117_1 rfl) ?_
         refine rwp_det rfl rfl (det_load_one rfl one9 rfl (ptr_g 1 rfl) rfl) ?_
         refine rwp_det rfl rfl (det_sadd_g rfl rfl rfl (by have h1 : (ByteArray.mk #[120]).size = 1 := rfl; rw [h1]; omega)) ?_
         refine rwp_det rfl rfl (det_index_g rfl el30 rfl rfl (by omega) (getm (by assumption))) ?_
         refine rwp_det rfl rfl (det_field_g rfl fd117_1 rfl) ?_
         refine rwp_det0 rfl rfl (det_store rfl sz9 rfl rfl rfl (st_g 1 rfl (Nat.le_add_right _ _))) ?_
         refine rwp_nil ?_
         refine awp_region rfl ?_
         refine rwp_det rfl rfl (det_add_nw rfl rfl rfl ⟨by omega, by omega⟩) ?_
         refine rwp_det rfl rfl (det_move rfl rfl) ?_
         refine rwp_nil ?_
         refine ⟨k10 + 1, (by omega), (by omega), Weak.mk [true, true] ⟨VLe.refl _, VLe.refl _, VLe.refl _, VLe.refl _, VLe.refl _, VLe.refl _, trivial⟩ rfl⟩
        ·try simp only [sx, List.length_map] at c10
         have he10 : k10 = d.Body.Idx.length := by omega
         subst he10
         refine awp_exit ?_
         refine awp_region rfl ?_
         refine rwp_det rfl rfl (det_field_lit rfl fd47_3 rfl) ?_
         refine rwp_det rfl rfl (det_load_one rfl one45 rfl (ptr_row 0 rfl) rfl) ?_
         refine rwp_det rfl rfl (det_move rfl rfl) ?_
         refine rwp_det rfl rfl (det_index_g rfl el45 rfl rfl (by omega) (getm (by assumption))) ?_
         refine rwp_det rfl rfl (det_field_g rfl fd35_4 rfl) ?_
         refine rwp_det rfl rfl (det_load_one rfl one3 rfl (ptr_g 1 rfl) rfl) ?_
         refine rwp_det rfl rfl (det_add_g rfl rfl rfl) ?_
         refine rwp_det rfl rfl (det_index_g rfl el45 rfl rfl (by omega) (getm (by assumption))) ?_
         refine rwp_det rfl rfl (det_field_g rfl fd35_4 rfl) ?_
         refine rwp_det0 rfl rfl (det_store rfl sz3 rfl rfl rfl (st_g 1 rfl (Nat.le_refl _))) ?_
         refine rwp_nil ?_
         refine awp_region rfl ?_
         refine rwp_det rfl rfl (det_add_nw rfl rfl rfl ⟨by omega, by omega⟩) ?_
         refine rwp_det rfl rfl (det_move rfl rfl) ?_
         refine rwp_nil ?_
         refine ⟨k6 + 1, (by omega), (by omega), Weak.mk [true, true] ⟨VLe.refl _, VLe.refl _, VLe.refl _, trivial⟩ (by rw [dcL_next hd, ← Nat.add_assoc, ← Nat.add_assoc]; rfl)⟩
    ·try simp only [sx, List.length_map] at c6
     rw [take_all (l := p.Defs) (k := k6) (by omega)]
     refine awp_exit ?_
     refine awp_seq ?_
     refine awp_region rfl ?_
     refine rwp_det rfl rfl (det_field_lit rfl fd47_4 rfl) ?_
     refine rwp_det rfl rfl (det_load_one rfl one42 rfl (ptr_row 0 rfl) rfl) ?_
     refine rwp_det rfl rfl (det_len_gm rfl el42 rfl) ?_
     refine rwp_det rfl rfl (det_move rfl rfl) ?_
     refine rwp_nil ?_
     refine awp_block ?_
     refine awp_weak ⟨[(233, .c _), (1, .c _), (232, .c _)], [_, _]⟩ (Weak.mk [true, true] ⟨VLe.of_eq rfl, VLe.of_eq rfl, VLe.of_eq rfl, trivial⟩ rfl) ?_
     refine awp_loop_k 1 2 rfl rfl (Nat) (fun k11 => [(233, vI k11)]) (fun k11 => [E.row b1 47 (p.cells.map (Gc w0 bs m)), E.reg bs (Kp w0 bs (m + p.Sizes.length + p.Params.length + dcL p.Defs + k11))]) (fun k11 => k11 ≤ p.Outs.length) (fun k11 => p.Outs.length - k11) ⟨0, (by omega), Weak.mk [true, true] ⟨VLe.refl _, VLe.refl _, VLe.refl _, trivial⟩ rfl⟩ ?_
     rintro k11 hk11
     refine awp_seq ?_
     refine awp_region rfl ?_
     refine rwp_det rfl rfl (det_lss rfl rfl rfl) ?_
     refine rwp_nil ?_
     refine awp_seq ?_
     refine awp_cond rfl (fun c11 => ?_) (fun c11 => ?_)
     ·try simp only [sx, List.length_map] at c11
      obtain ⟨s2, hs2⟩ := ex_get p.Outs k11 (by omega)
      have hz := hS.outs s2 (mem_of_get hs2)
      refine awp_skip ?_
      refine awp_seq ?_
      refine awp_block ?_
      refine awp_seq ?_
      refine awp_region rfl ?_
      refine rwp_det rfl rfl (det_move rfl rfl) ?_
      refine rwp_det rfl rfl (det_assign rfl rfl) ?_
      refine rwp_nil ?_
      refine awp_region rfl ?_
      refine rwp_det rfl rfl (det_field_lit rfl fd47_4 rfl) ?_
      refine rwp_det rfl rfl (det_load_one rfl one42 rfl (ptr_row 0 rfl) rfl) ?_
      refine rwp_det rfl rfl (det_move rfl rfl) ?_
      refine rwp_det rfl rfl (det_index_g rfl el42 rfl rfl (by omega) (getm (by assumption))) ?_
      refine rwp_det rfl rfl (det_load_one rfl one9 rfl (ptr_g 1 rfl) rfl) ?_
      refine rwp_det rfl rfl (det_sadd_g rfl rfl rfl (by have h1 : (ByteArray.mk #[120]).size = 1 := rfl; rw [h1]; omega)) ?_
      refine rwp_det rfl rfl (det_index_g rfl el42 rfl rfl (by omega) (getm (by assumption))) ?_
      refine rwp_det0 rfl rfl (det_store rfl sz9 rfl rfl rfl (st_g 1 rfl (Nat.le_add_right _ _))) ?_
      refine rwp_nil ?_
      refine awp_region rfl ?_
      refine rwp_det rfl rfl (det_add_nw rfl rfl rfl ⟨by omega, by omega⟩) ?_
      refine rwp_det rfl rfl (det_move rfl rfl) ?_
      refine rwp_nil ?_
      refine ⟨k11 + 1, (by omega), (by omega), Weak.mk [true, true] ⟨VLe.refl _, VLe.refl _, VLe.refl _, trivial⟩ rfl⟩
     ·try simp only [sx, List.length_map] at c11
      have he11 : k11 = p.Outs.length := by omega
      subst he11
      refine awp_exit ?_
      repeat (first | refine then_exit ?_ | refine block_exit ?_)
      refine fin_end <| fin0 ?_
      exact ⟨[E.reg _ _], ⟨[E.row _ _ _], [], rfl⟩, rfl, rfl⟩

theorem program_CopyP (p : Pg) (hP : p.Ok) : Con cfg 48 [vPg p] [] fun r μ' => ∃ q : List Nat × P5, r = q.2.v ∧ μ' = [E.reg q.1 (RegR q.1 p.cells q.2.vals)] :=
  (Con.fresh (fun n => frPg n p) fun n hn => program_CopyF n hn p hP).mono fun r μ' ⟨bs, vs, h1, h2, h3⟩ => by
    obtain ⟨q, rfl⟩ := list5 (vs := vs) h2
    exact ⟨(bs, q), h1, h3⟩
theorem law17_spoilR (p : Pg) (bs : List Nat) (q : P5) (hS : p.Str 9000000000000000000) (hP : p.Ok) (hm : p.Sizes.length + p.Params.length + dcL p.Defs + p.Outs.length ≤ 90000000000000) : Con cfg 49 [q.v] [E.reg bs (RegR bs p.cells q.vals)] fun r μ' => r = .tup [] ∧ μ' = [E.reg bs fun _ => True] := by
  intro w I vs hH hv
  have hrep := hH.rep _ (List.mem_singleton.2 rfl)
  have H0 : Heap cfg w I [E.reg bs (Kp w bs 0)] :=
    ⟨hH.lo, hH.glob, hH.nodup, hH.own, hH.imm, fun en hen => by rw [List.mem_singleton.1 hen]; exact ⟨hrep.1, Kp.refl w bs 0⟩, fun en hen => by rw [List.mem_singleton.1 hen]; exact Kp.mono w bs 0⟩
  have hv' : V1Reps w I [vGp w bs 0 p] vs := by
    cases vs with
    | nil => exact hv.elim
    | cons u us =>
      refine ⟨?_, hv.2⟩
      obtain ⟨ws, e1, k⟩ := hv.1
      have e2 : ws = q.vals := lits_inv (vs := q.vals) k
      subst e2
      refine ⟨q.vals, e1, ?_⟩
      have hr : FReps w (fun b => b ∈ bs) p.cells q.vals := hrep.2
      generalize p.cells = cs at hr
      generalize q.vals = xs at hr
      clear hv e1 k hrep hH H0
      induction hr with
      | nil => exact .nil
      | cons h _ ih => exact .cons (CRep.gh _ _ h.one (ShV.of_kp h (.inl rfl))) ih
  refine (Con.dropG (law17_spoil_step w bs p hS hP 0 (by omega)) w I vs H0 hv').mono ?_
  rintro en w' ⟨v, r', μ', I', h1, ⟨rfl, rfl⟩, h3, h4, h5⟩
  have hrep' := h4.rep _ (List.mem_singleton.2 rfl)
  exact ⟨v, _, [E.reg bs fun _ => True], I', h1, ⟨rfl, rfl⟩, h3, ⟨h4.lo, h4.glob, h4.nodup, h4.own, h4.imm, fun en hen => by rw [List.mem_singleton.1 hen]; exact ⟨hrep'.1, trivial⟩, fun en hen => by rw [List.mem_singleton.1 hen]; exact fun _ _ _ _ => trivial⟩, ⟨h5.os, h5.tape, h5.output, h5.size, h5.block, h5.imm, h5.imm', h5.own'⟩⟩
theorem dc_short : ∀ {l : List Df}, (∀ d, d ∈ l → d.Dims.length ≤ 12 ∧ d.Body.wt ≤ 300) → dcL l ≤ 312 * l.length
  | [], _ => by simp [dcL]
  | d :: r, h => by
    have h1 := h d (by simp)
    have h2 := dc_short fun x hx => h x (List.mem_cons_of_mem d hx)
    have h3 := (Ex.parts h1.2).2.1
    rw [dcL, List.length_cons]
    omega

theorem law_ProgramCopies (p : Pg) (hF : p.Fit) (hS : p.Str 9000000000000000000) :
    Pur cfg 11 [vPg p] (vB true) := by
 refine con_intro Tryz.func11 rfl Tryz.ntmps11 Tryz.results11 rfl ?_
 intro z hz
 refine awp_seq ?_
 refine awp_region rfl ?_
 refine rwp_op rfl rfl (ope_box rfl rfl) ?_
 rintro _ _ ⟨b1, rfl, rfl⟩
 refine rwp_det rfl rfl (det_assign rfl rfl) ?_
 refine rwp_nil ?_
 refine awp_seq ?_
 refine awp_seq ?_
 refine awp_region rfl ?_
 refine rwp_det rfl rfl (det_load_agg rfl agg47 rfl (ptr_row 0 rfl) rfl) ?_
 refine rwp_det rfl rfl (det_call rfl ok45 (ref17_Long p 300 hF (by omega)) ⟨VLe.refl _, rfl, VLe.refl _, rfl, trivial⟩) ?_
 refine rwp_nil ?_
 refine awp_cond rfl (fun c1 => ?_) (fun c1 => ?_)
 ·try simp only [sx, List.length_map] at c1
  refine awp_seq ?_
  refine awp_region rfl ?_
  refine rwp_det rfl rfl (det_call rfl ok46 law17_examples trivial) ?_
  refine rwp_det rfl rfl (det_assign rfl rfl) ?_
  refine rwp_nil ?_
  refine awp_ret ?_
  repeat (first | refine thenQ_ret ?_ | refine blockQ_ret ?_)
  refine fin1 (rs_c rfl) ?_
  rfl
 ·try simp only [sx, List.length_map] at c1
  have hS1 := long_short c1
  have hP := hS1.ok
  have hWt : ∀ x, x ∈ p.Params → linsWt x.Dims ≤ 4294967296 := fun x hx => by obtain ⟨h1, h2⟩ := hS1.ps x hx; have := linsWt_le h2; omega
  have hmm : p.Sizes.length + p.Params.length + dcL p.Defs + p.Outs.length ≤ 90000000000000 := by have h1 := dc_short (l := p.Defs) (fun d hd => ⟨(hS1.ds d hd).1, (hS1.ds d hd).2.2.2.2⟩); have h2 := hS1.sizes; have h3 := hS1.params; have h4 := hS1.defs; have h5 := hS1.outs; omega
  refine awp_skip ?_
  refine awp_seq ?_
  refine awp_draw_c 6 3 [⟨0, .q [3]⟩, ⟨1, .q []⟩, ⟨2, .q [3]⟩, ⟨3, .e 2 []⟩, ⟨4, .f 1⟩, ⟨5, .f 0⟩] mixed (by kernel_rfl) (by kernel_rfl) rfl rfl rfl ?_
  refine fx_skip rfl ?_
  refine fx_skip rfl ?_
  refine fx_skip rfl ?_
  refine fx_skip rfl ?_
  refine fx_fresh rfl rfl (fresh_alloc' (ope_allocN [some 1, some 3, some 7, some 22, some 1] rfl zr47 rfl)) ?_
  refine fx_fresh rfl rfl (fresh_alloc' (ope_allocN [some 1, some 3, some 7, some 22, some 1] rfl zr47 rfl)) ?_
  refine fx_nil ?_
  refine sq_det rfl (by decide) rfl rfl (det_load_agg rfl agg47 rfl (ptr_row 0 rfl) rfl) ?_
  refine sq_det rfl (by decide) rfl rfl (det_call rfl ok47 (ref17_Twin p hP) ⟨VLe.refl _, rfl, trivial⟩) ?_
  refine sq_det rfl (by decide) rfl rfl (det_load_agg rfl agg47 rfl (ptr_row 0 rfl) rfl) ?_
  refine sq_op rfl rfl (by decide) rfl rfl (ope_call_newE rfl ok48 (program_CopyP p hP) ⟨VLe.refl _, rfl, trivial⟩) ?_
  rintro _ _ ⟨q, rfl, rfl⟩
  refine ⟨_, rfl, ?_⟩
  refine sq_fresh rfl rfl ?_
  rintro _ _ ⟨b2, rfl, rfl⟩
  refine sq_fresh rfl rfl ?_
  rintro _ _ ⟨b3, rfl, rfl⟩
  refine sq_nil rfl ?_
  refine rwp_det0 rfl rfl (det_store rfl sz47 rfl rfl rfl (st_row 1 rfl rfl)) ?_
  refine rwp_det0 rfl rfl (det_store rfl sz47 rfl rfl rfl (st_row 0 rfl rfl)) ?_
  refine rwp_nil ?_
  refine awp_seq ?_
  refine awp_seq ?_
  refine awp_region rfl ?_
  refine rwp_det rfl rfl (det_load_agg rfl agg47 rfl (ptr_row 0 rfl) rfl) ?_
  refine rwp_det rfl rfl (det_load_agg rfl agg47 rfl (ptr_row 3 rfl) rfl) ?_
  refine rwp_op rfl rfl (ope_call_reg 2 rfl rfl ok20 (Con.lendReg (args' := [q.2.v, vPg p]) (cs := p.cells) (us := q.2.vals) (base_Prog p p hP hWt) rfl ⟨.inr ⟨rfl, rfl⟩, .inl rfl, trivial⟩) ⟨VLe.refl _, rfl, VLe.refl _, rfl, trivial⟩) ?_
  rintro _ _ ⟨rfl, rfl⟩
  refine rwp_det rfl rfl (det_not rfl rfl) ?_
  refine rwp_nil ?_
  refine awp_cond rfl (fun c2 => ?_) (fun c2 => ?_)
  ·try simp only [sx, List.length_map] at c2
   refine awp_seq ?_
   refine awp_region rfl ?_
   refine rwp_det rfl rfl (det_assign rfl rfl) ?_
   refine rwp_nil ?_
   refine awp_ret ?_
   repeat (first | refine thenQ_ret ?_ | refine blockQ_ret ?_)
   refine fin1 (rs_c rfl) ?_
   simp at c2
  ·try simp only [sx, List.length_map] at c2
   refine awp_skip ?_
   refine awp_seq ?_
   refine awp_region rfl ?_
   refine rwp_det rfl rfl (det_load_agg rfl agg47 rfl (ptr_row 0 rfl) rfl) ?_
   refine rwp_op rfl rfl (ope_call_reg 2 rfl rfl ok49 (law17_spoilR p q.1 q.2 hS hP hmm) ⟨VLe.refl _, rfl, trivial⟩) ?_
   rintro _ _ ⟨rfl, rfl⟩
   refine rwp_nil ?_
   refine awp_seq ?_
   refine awp_region rfl ?_
   refine rwp_det rfl rfl (det_load_agg rfl agg47 rfl (ptr_row 3 rfl) rfl) ?_
   refine rwp_det rfl rfl (det_load_agg rfl agg47 rfl (ptr_row 1 rfl) rfl) ?_
   refine rwp_det rfl rfl (det_call rfl ok20 (base_Prog p p hP hWt) ⟨VLe.refl _, rfl, VLe.refl _, rfl, trivial⟩) ?_
   refine rwp_det rfl rfl (det_move rfl rfl) ?_
   refine rwp_lazy [] rfl rfl rfl rfl gv1 trivial (fun g7_3 => det_call rfl ok46 law17_examples trivial) rfl ?_
   refine rwp_det rfl rfl (det_and rfl rfl rfl (fun h => h) rfl) ?_
   refine rwp_det rfl rfl (det_assign rfl rfl) ?_
   refine rwp_nil ?_
   refine awp_ret ?_
   repeat (first | refine thenQ_ret ?_ | refine blockQ_ret ?_)
   refine fin1 (rs_c rfl) ?_
   simp

end Go.W
end
