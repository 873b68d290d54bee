/-
  The engine, part H: slice literals; regions whose order is open.
  Conditions: none; plain definitions and theorems over any program.
-/
import Derived.Test.YtgoggemkajhloaaGreatDoorEngG
import Derived.Orders
namespace Go.Eng
open Go Go.RowKit

/-! ## Slice literals -/

def idxOk : Nat → List (Nat × Operand) → Bool
  | _, [] => true
  | k, (i, _) :: r => Nat.beq i k && idxOk (k + 1) r

def rowsOf (size : Nat) : List V → Option (List (List C))
  | [] => some []
  | v :: r => match vcells v, rowsOf size r with
    | some cs, some rs => cond (Nat.beq cs.length size) (some (cs :: rs)) none
    | _, _ => none

theorem rowsOf_len {size : Nat} : ∀ {vs : List V} {rows : List (List C)}, rowsOf size vs = some rows → rows.length = vs.length ∧ ∀ r, r ∈ rows → r.length = size
  | [], rows, h => by simp only [rowsOf, Option.some.injEq] at h; subst h; simp
  | v :: vs, rows, h => by
    simp only [rowsOf] at h
    cases h1 : vcells v with
    | none => rw [h1] at h; cases h
    | some cs =>
      cases h2 : rowsOf size vs with
      | none => rw [h1, h2] at h; cases h
      | some rs =>
        rw [h1, h2] at h
        simp only at h
        cases hb : Nat.beq cs.length size with
        | false => rw [hb] at h; cases h
        | true =>
          rw [hb] at h
          simp only [cond_true, Option.some.injEq] at h
          subst h
          obtain ⟨h3, h4⟩ := rowsOf_len h2
          refine ⟨by simp [h3], fun r hr => ?_⟩
          rcases List.mem_cons.1 hr with rfl | hr
          · exact Nat.eq_of_beq_eq_true hb
          · exact h4 r hr

theorem afill_rows {size : Nat} {e : Operand → V} : ∀ {parts : List (Nat × Operand)} {rows : List (List C)} (k : Nat) (A Zs : List C), idxOk k parts = true → rowsOf size (parts.map fun p => e p.2) = some rows → A.length = k * size → Zs.length = parts.length * size →
    afill (fun i => some (i * size, size)) (A ++ Zs) (parts.map fun p => (p.1, e p.2)) = some (A ++ rows.flatten)
  | [], rows, k, A, Zs, _, h, _, hz => by
    simp only [List.map_nil, rowsOf, Option.some.injEq] at h
    subst h
    have : Zs = [] := List.eq_nil_of_length_eq_zero (by simpa using hz)
    subst this
    simp [afill]
  | (i, x) :: parts, rows, k, A, Zs, hi, h, hA, hz => by
    simp only [idxOk, Bool.and_eq_true] at hi
    have hik : i = k := Nat.eq_of_beq_eq_true hi.1
    subst hik
    simp only [List.map_cons, rowsOf] at h
    cases h1 : vcells (e x) with
    | none => rw [h1] at h; cases h
    | some cs =>
      cases h2 : rowsOf size (parts.map fun p => e p.2) with
      | none => rw [h1, h2] at h; cases h
      | some rs =>
        rw [h1, h2] at h
        simp only at h
        cases hb : Nat.beq cs.length size with
        | false => rw [hb] at h; cases h
        | true =>
          rw [hb] at h
          simp only [cond_true, Option.some.injEq] at h
          subst h
          have hcs : cs.length = size := Nat.eq_of_beq_eq_true hb
          simp only [List.length_cons, Nat.succ_mul] at hz
          simp only [List.map_cons, afill, h1, hb, Bool.true_and]
          have hle : Nat.ble (i * size + size) (A ++ Zs).length = true := Nat.ble_eq_true_of_le (by rw [List.length_append, hA]; omega)
          rw [hle, cond_true, spl_eq _ _ _ (by rw [List.length_append, hA]; omega), ← hA, List.take_left, List.drop_append]
          rw [List.drop_of_length_le (by omega), List.nil_append, Nat.add_sub_cancel_left]
          have ih := afill_rows (size := size) (e := e) (parts := parts) (rows := rs) (i + 1) (A ++ cs) (Zs.drop cs.length) hi.2 h2 (by rw [List.length_append, hA, hcs, Nat.succ_mul]) (by rw [List.length_drop, hcs]; omega)
          rw [ih]
          simp

section lits
variable {X : Cfg} {o : Oper} {e : Operand → V} {μ : List E} {t : TypeId}

theorem run_bslice {et : TypeId} {size bytes len : Nat} {zs : List Value} {parts : List (Nat × Operand)} {rows : List (List C)} {a : Act} {w : World} {I : Nat → Prop} (ho : o.op = .buildSlice t len parts.toArray) (ht : elemT X.P t = some (et, size, bytes)) (hz0 : zeroT X.P et = some zs) (hlim : Nat.ble (len * size) 16777216 = true)
    (hidx : idxOk 0 parts = true) (hlen : Nat.beq parts.length len = true) (hrows : rowsOf size (parts.map fun p => e p.2) = some rows) (hops : ∀ x, x ∈ o.op.operands → VRep w I (e x) (a.eval x)) :
    ∃ us : List Value, (execOp a.eval o).run X.P w = .ok (.value (.slice (some ⟨w.heap.size, 0, none⟩) len len)) (w.alloc (.cells us.toArray et)) ∧ CReps w I rows.flatten us ∧ us.length = len * size := by
  obtain ⟨hu, inf, z, hinf, hz, hs, hby, hzs, hpos⟩ := elemT_parts ht
  have hl : parts.length = len := Nat.eq_of_beq_eq_true hlen
  have hlim' : len * size ≤ 16777216 := Nat.le_of_ble_eq_true hlim
  have hall : ∀ i, i < z.cells.size → (z.cells[i]!).oneCell' = true := by
    unfold zeroT at hz0
    rw [hinf] at hz0
    simp only [hz] at hz0
    split at hz0
    · rename_i h
      rw [Array.all_eq_true_iff_forall_mem] at h
      intro i hi
      rw [getElem!_pos z.cells i hi]
      exact h _ (Array.getElem_mem hi)
    · cases hz0
  let zv : Array Value := if len * size = 0 then #[] else z.cells
  let Z : List Value := (List.range (len * size)).map fun i => zv[i % zv.size]!
  have hZ : ∀ v, v ∈ Z → v.oneCell' = true := by
    intro v hv
    obtain ⟨i, hi, rfl⟩ := List.mem_map.1 hv
    have hi' := List.mem_range.1 hi
    have e1 : zv = z.cells := if_neg (by omega)
    simp only [e1]
    exact hall _ (Nat.mod_lt _ (by omega))
  have hfill := afill_rows (size := size) (e := e) (parts := parts) 0 [] (Z.map .lit) hidx hrows (by simp) (by simp [Z, hl])
  simp only [List.nil_append] at hfill
  obtain ⟨us, hf, hc⟩ := afill_run (w := w) (I := I) (a := a) (e := e) (fun i => some (i * size, size)) (parts := parts) (fun p hp => hops p.2 (by rw [ho]; simp [Op.operands]; exact ⟨p.1, hp⟩)) (CReps.lits Z hZ) hfill
  have hul := rows_of_flat (size := size) (rowsOf_len hrows).2 hc
  have hrl := (rowsOf_len hrows).1
  simp only [List.length_map] at hrl
  refine ⟨us, ?_, hc, by rw [hul, hrl, hl]⟩
  have hZa : (Array.range (len * size)).map (fun i => zv[i % zv.size]!) = Z.toArray := by
    apply Array.toList_inj.1
    simp [Z]
  have hparts : (Array.map (fun (p : Nat × Operand) => (p.1, a.eval p.2)) parts.toArray).toList = parts.map fun p => (p.1, a.eval p.2) := by simp
  simp only [execOp, ho, Instr.buildSlice, Sem.run_bind, run_underlying hu, Result.andThen_ok, sizeOf, typeInfo, run_program, hinf, Sem.run_pure, hs]
  rw [if_neg (by omega)]
  by_cases h0 : len * size = 0
  · have e1 : zv = #[] := if_pos h0
    rw [if_pos h0]
    simp only [Sem.run_bind, Sem.run_pure, Result.andThen_ok, ← e1]
    rw [hZa, hparts, hf]
    simp [newRow, go_sem]
  · have e1 : zv = z.cells := if_neg h0
    rw [if_neg h0]
    simp only [Sem.run_bind, Sem.run_pure, Result.andThen_ok, zeroValue, typeInfo, run_program, hinf, hz, ← e1]
    rw [hZa, hparts, hf]
    simp [newRow, go_sem]

/-- A slice literal that nobody writes any more. -/
theorem det_bslice {et : TypeId} {size bytes len : Nat} {zs : List Value} {parts : List (Nat × Operand)} {rows : List (List C)} (ho : o.op = .buildSlice t len parts.toArray) (ht : elemT X.P t = some (et, size, bytes)) (hz : zeroT X.P et = some zs) (hlim : Nat.ble (len * size) 16777216 = true)
    (hidx : idxOk 0 parts = true) (hlen : Nat.beq parts.length len = true) (hrows : rowsOf size (parts.map fun p => e p.2) = some rows) : Det X o e μ (.c (.sl size rows)) μ := by
  intro a w I hH hops K Q k
  obtain ⟨us, hrun, hc, hul⟩ := run_bslice (X := X) (I := I) ho ht hz hlim hidx hlen hrows hops
  have hl : parts.length = len := Nat.eq_of_beq_eq_true hlen
  obtain ⟨hrl, hrs⟩ := rowsOf_len hrows
  simp only [List.length_map] at hrl
  have hpos := (elemT_parts ht).2
  obtain ⟨_, _, _, _, _, _, _, hpos⟩ := hpos
  let w' := w.alloc (.cells us.toArray et)
  have hsz : w'.heap.size = w.heap.size + 1 := by show (w.heap.push _).size = _; simp
  have hold : ∀ b, b < w.heap.size → w'.heap[b]? = w.heap[b]? := fun b hb => Below.heap_alloc w _ b hb
  let I' : Nat → Prop := fun b => I b ∨ b = w.heap.size
  have hII : ∀ b, I b → I' b := fun b h => .inl h
  have still : ∀ b, I b → w'.heap[b]? = w.heap[b]? := fun b hb => hold b (hH.imm b hb)
  have hH' : Heap X w' I' μ := by
    refine ⟨by have := hH.lo; omega, X.hG _ _ (fun b hb => hold b (by have := hH.lo; omega)) hH.glob, hH.nodup, fun b hb => ⟨(hH.own b hb).1, ?_⟩, ?_, fun en hen => ?_, hH.mono⟩
    · rintro (h | h)
      · exact (hH.own b hb).2 h
      · have := hH.lt hb; omega
    · rintro b (h | h)
      · have := hH.imm b h; omega
      · omega
    · exact (hH.rep en hen).mono (hH.mono en hen) still hII fun b hb => hold b ((hH.rep en hen).lt hb)
  have hx' : Ext w I μ w' I' μ := ⟨rfl, rfl, rfl, by omega, fun b hb _ => hold b hb, hII, fun b hb => hb.imp id fun h => .inr (by omega), fun b hb => .inl hb⟩
  refine wp_value hrun (k _ _ μ I' w' ⟨rfl, rfl⟩ ?_ hH' hx')
  have hcell : ∀ j u, us[j]? = some u → w'.cell? ⟨w.heap.size, j, none⟩ = some u := fun j u hj => by
    rw [cell_of_row w' w.heap.size j us.toArray et (0, 0) (heap_alloc_new w _)]
    simpa using hj
  have hc' : CReps w' I' rows.flatten us := hc.mono still hII
  have hat : ∀ (i : Nat) r, rows[i]? = some r → ∀ (j : Nat) c, r[j]? = some c → ∃ u, us[i * size + j]? = some u ∧ CRep w' I' c u := by
    intro i r hi j c hj
    obtain ⟨A, B, e', hA⟩ := flat_at hrs hi
    rw [e'] at hc'
    refine hc'.at_ ?_
    have hjl : j < r.length := (List.getElem?_eq_some_iff.1 hj).1
    rw [List.append_assoc, List.getElem?_append_right (by omega), hA, Nat.add_sub_cancel_left, List.getElem?_append_left hjl]
    exact hj
  show CRep w' I' (.sl size rows) (.slice (some ⟨w.heap.size, 0, none⟩) len len)
  have hlr : len = rows.length := by omega
  rw [hlr]
  refine .sl size rows _ _ (fun i j => (us[i * size + j]?).getD undef) (.inr rfl) hrs (Nat.le_refl _) (fun i j hi hj => ?_) (fun i r hi j c hj => ?_)
  · obtain ⟨u, hu, _⟩ := hat i rows[i] (List.getElem?_eq_getElem hi) j ((rows[i])[j]'(by rw [hrs _ (List.getElem_mem hi)]; exact hj)) (List.getElem?_eq_getElem _)
    rw [add_none, Nat.zero_add, hcell _ u hu, hu]
    rfl
  · obtain ⟨u, hu, hcu⟩ := hat i r hi j c hj
    simp only [hu, Option.getD_some]
    exact hcu

end lits
end Go.Eng
