/-
  The engine, part L: what an argument that reads is, as abstract cells; and how a contract answers a row.
  Conditions: none; plain definitions and theorems over any program.
-/
import Derived.Test.YtgoggemkajhloaaGreatDoorEngK
import Derived.OpenShut
import Derived.Carry
import Derived.ChangeSame
namespace Go.Eng
open Go Go.RowKit Go.ChangeShapes

/-! ### how much a reading holds, from below -/
mutual
def dB {H : Type} : DataW H → Nat
  | .lit (.string b) => b.length + 1
  | .ptr d => dB d + 1
  | .slice es _ => dBs es + 1
  | .agg ps => dBs ps
  | _ => 1
def dBs {H : Type} : List (DataW H) → Nat
  | [] => 0
  | d :: r => dB d + dBs r
end

mutual
def C.bulk : C → Nat
  | .lit (.string s) => s.size + 1
  | .sl _ rows => bulkR rows + 1
  | .iptr cells => bulkL cells + 1
  | _ => 1
def bulkL : List C → Nat
  | [] => 0
  | c :: r => c.bulk + bulkL r
def bulkR : List (List C) → Nat
  | [] => 0
  | l :: r => bulkL l + bulkR r
end

theorem bulkL_append (a b : List C) : bulkL (a ++ b) = bulkL a + bulkL b := by
  induction a with
  | nil => simp [bulkL]
  | cons x r ih => simp only [List.cons_append, bulkL, ih]; omega

/-! ### the shape of cells of a type -/
def Sh (P : Program) : Nat → TypeId → List C → Prop
  | 0, _, _ => False
  | fuel + 1, t, l => match P.underlying t with
    | some .bool => ∃ b, l = [.lit (.bool b)]
    | some (.int k) => ∃ n, l = [.lit (.int k n)] ∧ (Lit.int k n).wf = true
    | some .string => ∃ s : ByteArray, l = [.lit (.string s)] ∧ s.size ≤ maxLen
    | some (.slice e) => ∃ rows, l = [.sl (P.cellsOf e) rows] ∧ (rows.length ≤ maxLen ∧ rows.length * P.bytesOf e ≤ reachBytes) ∧ ∀ r, r ∈ rows → Sh P fuel e r
    | some (.pointer e) => l = [.lit (.pointer none)] ∨ ∃ r, l = [.iptr r] ∧ Sh P fuel e r
    | some (.struct fs) => l.length = P.cellsOf t ∧ ∀ f, f ∈ fs.toList → Sh P fuel f.type ((l.drop f.offset).take (P.cellsOf f.type))
    | some (.array n e) => l.length = P.cellsOf t ∧ ∀ i, i < n → Sh P fuel e ((l.drop (i * P.cellsOf e)).take (P.cellsOf e))
    | _ => True

section
variable {P : Program} {f : Nat} {t e : TypeId} {l : List C}
theorem Sh.int {k : IntKind} (hu : P.underlying t = some (.int k)) (h : Sh P (f + 1) t l) : ∃ n, l = [.lit (.int k n)] ∧ (Lit.int k n).wf = true := by unfold Sh at h; rw [hu] at h; exact h
theorem Sh.str (hu : P.underlying t = some .string) (h : Sh P (f + 1) t l) : ∃ s : ByteArray, l = [.lit (.string s)] ∧ s.size ≤ maxLen := by unfold Sh at h; rw [hu] at h; exact h
theorem Sh.slice (hu : P.underlying t = some (.slice e)) (h : Sh P (f + 1) t l) : ∃ rows, l = [.sl (P.cellsOf e) rows] ∧ (rows.length ≤ maxLen ∧ rows.length * P.bytesOf e ≤ reachBytes) ∧ ∀ r, r ∈ rows → Sh P f e r := by unfold Sh at h; rw [hu] at h; exact h
theorem Sh.struct {fs : Array Field} (hu : P.underlying t = some (.struct fs)) (h : Sh P (f + 1) t l) : l.length = P.cellsOf t ∧ ∀ g, g ∈ fs.toList → Sh P f g.type ((l.drop g.offset).take (P.cellsOf g.type)) := by unfold Sh at h; rw [hu] at h; exact h
end

/-- The fields stand one behind the other. -/
def tile (P : Program) (n : Nat) : List Field → Nat → Bool
  | [], o => o == n
  | f :: r, o => f.offset == o && tile P n r (o + P.cellsOf f.type)

def okT (P : Program) (ts : List TypeId) (t : TypeId) : Bool := match P.underlying t with
  | some (.slice e) => decide (0 < P.cellsOf e) && ts.contains e
  | some (.pointer e) => decide (0 < P.cellsOf e) && ts.contains e
  | some (.struct fs) => tile P (P.cellsOf t) fs.toList 0 && fs.toList.all fun f => ts.contains f.type
  | some (.array n e) => P.cellsOf t == n * P.cellsOf e && ts.contains e
  | some .bool => true
  | some (.int _) => true
  | some .string => true
  | _ => false

/-- Single cells of any other type. -/
theorem lit_cells {w : World} {I : Nat → Prop} {H : Type} {d : DataW H} (v : Value) (h : v.oneCell' = true) (hs : ∀ s, v ≠ .string s) (hd : 1 ≤ dB d) : ∃ l : List C, CReps w I l [v] ∧ bulkL l ≤ dB d ∧ True := by
  refine ⟨[.lit v], .cons (.lit v h) .nil, ?_, trivial⟩
  have e : bulkL [C.lit v] = 1 := by
    cases v <;> first | rfl | exact absurd rfl (hs _)
  omega

section
variable {P : Program} {w : World} {H : Type} {enc : TypeId × Value → H} {sp : Nat → Bool}

theorem tile_parts {I : Nat → Prop} {n : Nat} {Q : TypeId → List C → Prop} : ∀ (fs : List Field) (xs : List (DataW H)) (o : Nat) (cs : List Value), cs.length = n → o ≤ n → tile P n fs o = true → xs.length = fs.length →
    (∀ (i : Nat) f x, fs[i]? = some f → xs[i]? = some x → ∃ l : List C, CReps w I l ((cs.drop f.offset).take (P.cellsOf f.type)) ∧ bulkL l ≤ dB x ∧ Q f.type l) →
    ∃ l : List C, CReps w I l (cs.drop o) ∧ bulkL l ≤ dBs xs ∧ ∀ f, f ∈ fs → o ≤ f.offset ∧ Q f.type ((l.drop (f.offset - o)).take (P.cellsOf f.type))
  | [], xs, o, cs, hl, _, ht, hx, _ => by
    have ho : o = n := by simpa [tile] using ht
    have : cs.drop o = [] := by rw [List.drop_eq_nil_iff]; omega
    rw [this]
    refine ⟨[], .nil, by simp [bulkL], fun f hf => by cases hf⟩
  | f :: r, x :: xs, o, cs, hl, hon, ht, hx, h => by
    simp only [tile, Bool.and_eq_true, beq_iff_eq] at ht
    obtain ⟨hfo, ht⟩ := ht
    have hle : o + P.cellsOf f.type ≤ n := by
      clear h
      have aux : ∀ (fs : List Field) (o : Nat), tile P n fs o = true → o ≤ n := by
        intro fs
        induction fs with
        | nil => intro o h; exact Nat.le_of_eq (by simpa [tile] using h)
        | cons f r ih => intro o h; simp only [tile, Bool.and_eq_true, beq_iff_eq] at h; have := ih _ h.2; omega
      exact aux r _ ht
    obtain ⟨l0, h0, b0, q0⟩ := h 0 f x rfl rfl
    rw [hfo] at h0
    obtain ⟨l1, h1, b1, q1⟩ := tile_parts r xs (o + P.cellsOf f.type) cs hl hle ht (by simpa using hx) (fun i f x hf hx => h (i + 1) f x (by simpa using hf) (by simpa using hx))
    have hl0 : l0.length = P.cellsOf f.type := by
      rw [h0.length, List.length_take, List.length_drop]; omega
    refine ⟨l0 ++ l1, ?_, by rw [bulkL_append, dBs]; omega, ?_⟩
    · have e : cs.drop o = (cs.drop o).take (P.cellsOf f.type) ++ cs.drop (o + P.cellsOf f.type) := by
        rw [← List.drop_drop]; exact (List.take_append_drop _ _).symm
      rw [e]; exact h0.append h1
    · intro g hg
      rcases List.mem_cons.1 hg with rfl | hg
      · refine ⟨by omega, ?_⟩
        have e : g.offset - o = 0 := by omega
        rw [e, List.drop_zero, List.take_append_of_le_length (by omega), List.take_of_length_le (by omega)]
        exact q0
      · obtain ⟨h2, h3⟩ := q1 g hg
        refine ⟨by omega, ?_⟩
        have e : g.offset - o = l0.length + (g.offset - (o + P.cellsOf f.type)) := by omega
        rw [e, List.drop_append, List.drop_of_length_le (by omega), Nat.add_sub_cancel_left, List.nil_append]
        exact h3
  | _ :: _, [], _, _, _, _, _, hx, _ => by simp at hx

theorem array_parts {I : Nat → Prop} {c : Nat} {Q : List C → Prop} : ∀ (n : Nat) (xs : List (DataW H)) (cs : List Value), cs.length = n * c → xs.length = n →
    (∀ i x, xs[i]? = some x → ∃ l : List C, CReps w I l ((cs.drop (i * c)).take c) ∧ bulkL l ≤ dB x ∧ Q l) →
    ∃ l : List C, CReps w I l cs ∧ bulkL l ≤ dBs xs ∧ ∀ i, i < n → Q ((l.drop (i * c)).take c)
  | 0, [], cs, hl, _, _ => by
    have : cs = [] := by simpa using hl
    subst this
    exact ⟨[], .nil, by simp [bulkL], fun i hi => by omega⟩
  | n + 1, x :: xs, cs, hl, hx, h => by
    have hl' : cs.length = n * c + c := by rw [hl, Nat.succ_mul]
    obtain ⟨l0, h0, b0, q0⟩ := h 0 x rfl
    simp only [Nat.zero_mul, List.drop_zero] at h0
    obtain ⟨l1, h1, b1, q1⟩ := array_parts (c := c) n xs (cs.drop c) (by rw [List.length_drop]; omega) (by simpa using hx) (fun i x hx => by
      obtain ⟨l, h1, h2⟩ := h (i + 1) x (by simpa using hx)
      refine ⟨l, ?_, h2⟩
      rw [List.drop_drop]
      have e : c + i * c = (i + 1) * c := by rw [Nat.succ_mul]; omega
      rw [e]; exact h1)
    have hl0 : l0.length = c := by rw [h0.length, List.length_take]; omega
    refine ⟨l0 ++ l1, ?_, by rw [bulkL_append, dBs]; omega, ?_⟩
    · have e : cs = cs.take c ++ cs.drop c := (List.take_append_drop _ _).symm
      rw [e]; exact h0.append h1
    · intro i hi
      cases i with
      | zero => rw [Nat.zero_mul, List.drop_zero, List.take_append_of_le_length (by omega), List.take_of_length_le (by omega)]; exact q0
      | succ i =>
        have e : (i + 1) * c = l0.length + i * c := by rw [Nat.succ_mul]; omega
        rw [e, List.drop_append, List.drop_of_length_le (by omega), Nat.add_sub_cancel_left, List.nil_append]
        exact q1 i (by omega)
  | 0, _ :: _, _, _, hx, _ => by simp at hx
  | _ + 1, [], _, _, hx, _ => by simp at hx

theorem rows_parts {I : Nat → Prop} {c : Nat} {Q : List C → Prop} {a : Addr} : ∀ (xs : List (DataW H)) (o : Nat),
    (∀ i x, xs[i]? = some x → ∃ (cs : List Value) (l : List C), cs.length = c ∧ (∀ j, j < c → w.cell? (a.add ((o + i) * c + j)) = cs[j]?) ∧ CReps w I l cs ∧ bulkL l ≤ dB x ∧ Q l) →
    ∃ (rows : List (List C)) (us : Nat → Nat → Value), rows.length = xs.length ∧ (∀ r, r ∈ rows → r.length = c ∧ Q r) ∧ bulkR rows ≤ dBs xs ∧
      (∀ i j, i < rows.length → j < c → w.cell? (a.add ((o + i) * c + j)) = some (us i j)) ∧ (∀ (i : Nat) r, rows[i]? = some r → ∀ (j : Nat) x, r[j]? = some x → CRep w I x (us i j))
  | [], o, _ => ⟨[], fun _ _ => .nilFunc, rfl, fun r hr => by simp at hr, by simp [bulkR], fun i j hi => by simp at hi, fun i r hr => by simp at hr⟩
  | x :: xs, o, h => by
    obtain ⟨cs, l, hl, hc, hr, hb, hq⟩ := h 0 x rfl
    obtain ⟨rows, us, h1, h2, h3, h4, h5⟩ := rows_parts xs (o + 1) (fun i x hx => by
      obtain ⟨cs, l, k1, k2, k3⟩ := h (i + 1) x (by simpa using hx)
      exact ⟨cs, l, k1, fun j hj => by rw [← k2 j hj, show o + 1 + i = o + (i + 1) by omega], k3⟩)
    refine ⟨l :: rows, fun i j => match i with | 0 => cs.getD j .nilFunc | i + 1 => us i j, by simp [h1], ?_, by rw [bulkR, dBs]; omega, ?_, ?_⟩
    · intro r hr'
      rcases List.mem_cons.1 hr' with rfl | hr'
      · exact ⟨by rw [hr.length, hl], hq⟩
      · exact h2 r hr'
    · intro i j hi hj
      cases i with
      | zero =>
        show _ = some (cs.getD j .nilFunc)
        rw [hc j hj, List.getD_eq_getElem?_getD, List.getElem?_eq_getElem (by omega)]; rfl
      | succ i => rw [← h4 i j (by simpa using hi) hj, show o + 1 + i = o + (i + 1) by omega]
    · intro i r hr' j y hy
      cases i with
      | zero =>
        simp at hr'; subst hr'
        obtain ⟨v, hv, k⟩ := hr.at_ hy
        show CRep w I y (cs.getD j .nilFunc)
        rw [List.getD_eq_getElem?_getD, hv]; exact k
      | succ i => exact h5 i r (by simpa using hr') j y hy

theorem mem_weightsAll {e : TypeId} {n : Nat} : ∀ {l : List (DataW H)} {i : Nat} {d : DataW H}, l[i]? = some d → n ∈ d.weights P e → n ∈ DataW.weightsAll P e l
  | [], _, _, h, _ => by simp at h
  | x :: r, i, d, h, hn => by
    rw [DataW.weightsAll, List.mem_append]
    cases i with
    | zero => simp at h; subst h; exact .inl hn
    | succ i => exact .inr (mem_weightsAll (i := i) (by simpa using h) hn)
theorem mem_weightsEach {n : Nat} : ∀ {us : List TypeId} {l : List (DataW H)} (i : Nat) {t : TypeId} {d : DataW H}, us[i]? = some t → l[i]? = some d → n ∈ d.weights P t → n ∈ DataW.weightsEach P us l
  | [], _, _, _, _, h, _, _ => by simp at h
  | _ :: _, [], _, _, _, _, h, _ => by simp at h
  | u :: us, x :: r, i, t, d, hu, h, hn => by
    rw [DataW.weightsEach, List.mem_append]
    cases i with
    | zero => simp at h hu; subst h hu; exact .inl hn
    | succ i => exact .inr (mem_weightsEach i (by simpa using hu) (by simpa using h) hn)
theorem weights_each {us : List TypeId} {l : List (DataW H)} (h : (DataW.weightsEach P us l).all (· ≤ reachBytes) = true) (i : Nat) {t : TypeId} {d : DataW H} (hu : us[i]? = some t) (hd : l[i]? = some d) : ∀ n, n ∈ d.weights P t → n ≤ reachBytes :=
  fun n hn => of_decide_eq_true (List.all_eq_true.1 h n (mem_weightsEach i hu hd hn))

/-- WHAT READS IS ABSTRACT CELLS OF ITS TYPE's SHAPE. -/
theorem open_trod {ts : List TypeId} (hT : ts.all (okT P ts) = true) : ∀ (fuel : Nat) (t : TypeId) (cs : List Value) (x : DataW H × List MemPlace), t ∈ ts → (∀ n, n ∈ x.1.weights P t → n ≤ reachBytes) →
    DataW.trod enc P w 0 sp true fuel t cs = some x → ∃ l : List C, CReps w (fun b => b < w.heap.size) l cs ∧ bulkL l ≤ dB x.1 ∧ Sh P fuel t l
  | 0, _, _, _, _, _, h => by simp [DataW.trod] at h
  | fuel + 1, t, cs, x, ht, hz, h => by
    have hk : okT P ts t = true := List.all_eq_true.1 hT t ht
    have ih := fun t cs x ht hz h => open_trod hT fuel t cs x ht hz h
    unfold okT at hk
    unfold Sh
    split at hk
    · rename_i e hu
      rw [hu]
      simp only [Bool.and_eq_true, decide_eq_true_eq, List.contains_iff_mem] at hk
      rcases DataW.trod_slice hu h with ⟨rfl, rfl⟩ | ⟨a, len, cap, elems, rest, n, hn, rfl, rfl, _, hlc, hcm, hel, hat, _, _⟩
      · exact ⟨[.sl _ []], .cons (.nil _ none 0) .nil, by simp [bulkL, C.bulk, bulkR, dB], [], rfl, ⟨by simp, by simp⟩, fun r hr => by simp at hr⟩
      · obtain rfl : fuel = n := by omega
        have hparts := rows_parts (w := w) (I := fun b => b < w.heap.size) (c := P.cellsOf e) (Q := Sh P fuel e) (a := a) (elems.map (·.1)) 0 (fun i x hx => by
          obtain ⟨y, hy, rfl⟩ : ∃ y, elems[i]? = some y ∧ y.1 = x := by simpa using hx
          have hi : i < len := by rw [← hel]; exact (List.getElem?_eq_some_iff.1 hy).1
          have hh := hat i hi
          rw [hy] at hh
          obtain ⟨cs', hc1, hc2⟩ := Option.bind_eq_some_iff.1 hh
          obtain ⟨_, hc4, hc5⟩ := World.cells?_some hc1
          obtain ⟨l, k1, k2, k3⟩ := ih e cs' y hk.2 (fun m hm => hz m (by simp only [DataW.weights, hu, List.mem_cons, List.mem_append]; exact .inr (.inl (mem_weightsAll (i := i) (by simp [hy]) hm)))) hc2
          exact ⟨cs', l, hc4, fun j hj => by rw [← hc5 j hj, Addr.add_add, Nat.zero_add], k1, k2, k3⟩)
        obtain ⟨rows, us, h1, h2, h3, h4, h5⟩ := hparts
        have hz0 : ((elems.map (·.1)).length + (rest.map (·.1)).length) * P.bytesOf e ≤ reachBytes := hz _ (by simp only [DataW.weights, hu]; exact List.mem_cons_self)
        have h1' : rows.length = len := by rw [h1, List.length_map, hel]
        refine ⟨[.sl (P.cellsOf e) rows], ?_, by simp only [bulkL, C.bulk, dB]; omega, rows, rfl, ⟨by omega, Nat.le_trans (Nat.mul_le_mul_right _ (by rw [h1]; exact Nat.le_add_right _ _)) hz0⟩, fun r hr => (h2 r hr).2⟩
        by_cases h0 : len = 0
        · subst h0
          have : rows = [] := List.length_eq_zero_iff.1 h1'
          subst this
          exact .cons (.nil _ (some a) cap) .nil
        · have hI : a.block < w.heap.size := by
            have hh := hat 0 (by omega)
            rw [List.getElem?_eq_getElem (by omega)] at hh
            obtain ⟨cs', hc1, _⟩ := Option.bind_eq_some_iff.1 hh
            have := World.cells?_block hc1 hk.1
            rwa [Nat.zero_mul, show (a.add 0).block = a.block by unfold Addr.add; split <;> rfl] at this
          rw [← h1']
          exact .cons (.sl _ rows a cap us hI (fun r hr => (h2 r hr).1) (by omega) (fun i j hi hj => by have := h4 i j hi hj; rwa [Nat.zero_add] at this) h5) .nil
    · rename_i e hu
      rw [hu]
      simp only [Bool.and_eq_true, decide_eq_true_eq, List.contains_iff_mem] at hk
      rcases DataW.trod_pointer hu h with ⟨rfl, rfl⟩ | ⟨a, cs', y, n, hn, rfl, rfl, hc, hy⟩
      · exact ⟨[.lit (.pointer none)], .cons (.lit _ rfl) .nil, by simp [bulkL, C.bulk, dB], Or.inl rfl⟩
      · obtain rfl : fuel = n := by omega
        obtain ⟨l, k1, k2, k3⟩ := ih e cs' y hk.2 (fun m hm => hz m (by simp only [DataW.weights, hu]; exact hm)) hy
        have hI := World.cells?_block hc hk.1
        obtain ⟨_, hl, hc5⟩ := World.cells?_some hc
        refine ⟨[.iptr l], .cons (.iptr l a (fun j => cs'.getD j .nilFunc) hI (fun j hj => ?_) (fun j c hj => ?_)) .nil, by simp only [bulkL, C.bulk, dB]; omega, Or.inr ⟨l, rfl, k3⟩⟩
        · have hj' : j < cs'.length := by rw [← k1.length]; exact hj
          rw [hc5 j (by omega), List.getD_eq_getElem?_getD, List.getElem?_eq_getElem hj']; rfl
        · obtain ⟨v, hv, k⟩ := k1.at_ hj
          show CRep w _ c (cs'.getD j .nilFunc)
          rw [List.getD_eq_getElem?_getD, hv]; exact k
    · rename_i fs hu
      rw [hu]
      simp only [Bool.and_eq_true] at hk
      obtain ⟨xs, n, hn, rfl, hl, hxl, hat⟩ := DataW.trod_struct hu h
      obtain rfl : fuel = n := by omega
      obtain ⟨l, k1, k2, k3⟩ := tile_parts (P := P) (w := w) (I := fun b => b < w.heap.size) (n := P.cellsOf t) (Q := Sh P fuel) fs.toList (xs.map (·.1)) 0 cs hl (Nat.zero_le _) hk.1 (by simpa using hxl) (fun i f x hf hx => by
        obtain ⟨y, hy, rfl⟩ : ∃ y, xs[i]? = some y ∧ y.1 = x := by simpa using hx
        have hh := hat i f (by simpa using hf)
        rw [hy] at hh
        have hm : ts.contains f.type = true := List.all_eq_true.1 hk.2 f (List.mem_of_getElem? hf)
        exact ih _ _ y (List.contains_iff_mem.1 hm) (fun m hm => hz m (by simp only [DataW.weights, hu]; exact mem_weightsEach i (by simp [hf]) (by simp [hy]) hm)) hh)
      rw [List.drop_zero] at k1
      refine ⟨l, k1, by simpa [dB] using k2, by rw [k1.length, hl], fun f hf => ?_⟩
      have := (k3 f hf).2
      rwa [Nat.sub_zero] at this
    · rename_i n' e hu
      rw [hu]
      simp only [Bool.and_eq_true, beq_iff_eq, List.contains_iff_mem] at hk
      obtain ⟨xs, n, hn, rfl, hl, hxl, hat⟩ := DataW.trod_array hu h
      obtain rfl : fuel = n := by omega
      obtain ⟨l, k1, k2, k3⟩ := array_parts (w := w) (I := fun b => b < w.heap.size) (c := P.cellsOf e) (Q := Sh P fuel e) n' (xs.map (·.1)) cs (by rw [hl, hk.1]) (by simpa using hxl) (fun i x hx => by
        obtain ⟨y, hy, rfl⟩ : ∃ y, xs[i]? = some y ∧ y.1 = x := by simpa using hx
        have hi : i < n' := by rw [← hxl]; exact (List.getElem?_eq_some_iff.1 hy).1
        have hh := hat i hi
        rw [hy] at hh
        exact ih _ _ y hk.2 (fun m hm => hz m (by simp only [DataW.weights, hu]; exact mem_weightsAll (i := i) (by simp [hy]) hm)) hh)
      exact ⟨l, k1, by simpa [dB] using k2, by rw [k1.length, hl], k3⟩
    · rename_i hu; rw [hu]; obtain ⟨b, rfl, rfl⟩ := DataW.trod_bool hu h; exact ⟨_, .cons (.lit _ rfl) .nil, by simp [bulkL, C.bulk, dB], b, rfl⟩
    · rename_i hu; rw [hu]; obtain ⟨m, rfl, rfl, hw⟩ := DataW.trod_int hu h; exact ⟨_, .cons (.lit _ rfl) .nil, by simp [bulkL, C.bulk, dB], m, rfl, hw⟩
    · rename_i hu; rw [hu]; obtain ⟨s, rfl, rfl, hs⟩ := DataW.trod_string hu h; exact ⟨_, .cons (.lit _ rfl) .nil, by simp only [bulkL, C.bulk, dB, Array.length_toList, ByteArray.size_data]; omega, s, rfl, hs⟩
    · simp at hk

/-- ONE ARGUMENT: its value, as a register holds it. -/
def isAggT (P : Program) (t : TypeId) : Bool := match P.underlying t with | some (.struct _) => true | some (.array _ _) => true | _ => false

theorem open_arg {ts : List TypeId} (hT : ts.all (okT P ts) = true) {r : Reach} {base : Nat} {t : TypeId} {v : Value} {d : DataW H} {ps : List MemPlace} (ht : t ∈ ts)
    (hval : Value.okWide P w r base t v) (hz : ∀ n, n ∈ d.weights P t → n ≤ reachBytes) (hd : DataW.Trod enc P w 0 sp true t v d ps) :
    ∃ fuel l, Sh P fuel t l ∧ bulkL l ≤ dB d ∧ V1Rep w (fun b => b < w.heap.size) (if isAggT P t then .agg l else .c (l.headD (.lit .nilFunc))) v := by
  obtain ⟨fuel, hf⟩ := hd
  obtain ⟨l, h1, h2, h3⟩ := open_trod hT fuel t _ _ ht hz hf
  refine ⟨fuel, l, h3, h2, ?_⟩
  have hk : okT P ts t = true := List.all_eq_true.1 hT t ht
  unfold Value.okWide at hval
  unfold isAggT
  unfold okT at hk
  have agg : (∃ cs, v = .agg cs ∧ cs.size = P.cellsOf t ∧ Row.okWide P w r base t cs) → V1Rep w (fun b => b < w.heap.size) (.agg l) v := by
    rintro ⟨cs, rfl, _, _⟩
    exact ⟨cs.toList, by simp, h1⟩
  have one : v.cells = #[v] → V1Rep w (fun b => b < w.heap.size) (.c (l.headD (.lit .nilFunc))) v := by
    intro hv
    rw [hv] at h1
    cases h1 with
    | cons h t => cases t; exact h
  have notagg : Cell.okWide P w r base t v → v.cells = #[v] := by
    intro hc
    unfold Cell.okWide at hc
    split at hc <;> first | rfl | skip
    unfold Cell.ok at hc
    split at hc <;> first | rfl | exact hc.elim
  split at hk
  all_goals first | (rename_i hu; rw [hu] at hval ⊢; first | exact agg hval | exact one (notagg hval)) | simp at hk

/-- THE ARGUMENTS READ BEHIND THE CALL AS BEFORE. -/
theorem trodAll_stays {ts : List TypeId} (hl : laidOutB P = true) {W W' : World} {sp' : Nat → Bool} (hB : Below W.heap.size W W') : ∀ (us : List TypeId) (vs : List Value) (ds : List (DataW H)) (ps : List MemPlace),
    (∀ t ∈ us, P.readableRec t = true ∧ t < P.types.size) → DataW.TrodAll enc P W 0 (fun _ => true) true us vs ds ps → (∀ p ∈ ps, p.block < W.heap.size) → (∀ p ∈ ps, sp' p.block = true) →
    DataW.TrodAll enc P W' 0 sp' true us vs ds ps
  | [], [], [], ps, _, h, _, _ => h
  | t :: us, v :: vs, d :: ds, ps, hr, h, hlt, hsp => by
    obtain ⟨p, q, h1, h2, rfl⟩ := h
    exact ⟨p, q, WideElems.Trod_stays hl (hr t (by simp)).1 (hr t (by simp)).2 h1 (fun x hx => hB.same (hlt x (by simp [hx]))) (fun x hx => hsp x (by simp [hx])),
      trodAll_stays (ts := ts) hl hB us vs ds q (fun t ht => hr t (by simp [ht])) h2 (fun x hx => hlt x (by simp [hx])) (fun x hx => hsp x (by simp [hx])), rfl⟩
  | [], _ :: _, _, _, _, h, _, _ => h.elim
  | [], [], _ :: _, _, _, h, _, _ => h.elim
  | _ :: _, [], _, _, _, h, _, _ => h.elim
  | _ :: _, _ :: _, [], _, _, h, _, _ => h.elim

theorem Ext.below {w w' : World} {I I' : Nat → Prop} {μ' : List E} (h : Ext w I [] w' I' μ') : Below w.heap.size w w' :=
  ⟨h.os, h.tape, h.output, h.size, fun b hb => h.block b hb (by simp [blocksOf])⟩

/-- A LAW THAT ANSWERS TRUE ANSWERS ITS ROW. -/
theorem law_row {X : Cfg} {f : FuncId} {fn : Func} {s : ChangeSpec} {W : World} {args : Array Value} {vs : List V} {ds gs : List (DataW H)} {before : List MemPlace} {tb : TypeId}
    (hcon : Pur X f vs (.c (.lit (.bool true)))) (hH : Heap X W (fun b => b < W.heap.size) []) (hvs : V1Reps W (fun b => b < W.heap.size) vs args.toList)
    (hvars : s.vars = []) (hres : fn.resultTypes = #[tb]) (htb : X.P.underlying tb = some .bool) (hl : laidOutB X.P = true)
    (hr : ∀ t ∈ fn.params.toList, X.P.readableRec t = true ∧ t < X.P.types.size)
    (hspec : ∀ gs, gs = [] → (s.fn H (ds ++ gs)).results = [.lit (.bool true)] ∧ (s.fn H (ds ++ gs)).args = ds ∧ (s.fn H (ds ++ gs)).vars = [])
    (hW : DataW.Whole enc X.P fn.params.toList s.vars false W args.toList ds gs before) :
    Calls X.P f args W fun e W' => ∃ v, e = .returned v ∧ s.post enc X.P fn false true false false W args v W' := by
  have hW' := hW
  obtain ⟨p, q, hA, hV, rfl, _, _⟩ := hW
  rw [hvars] at hV
  have hgq : gs = [] ∧ q = [] := by
    cases gs with
    | nil => exact ⟨rfl, hV⟩
    | cons _ _ => exact hV.elim
  obtain ⟨rfl, rfl⟩ := hgq
  obtain ⟨e1, e2, e3⟩ := hspec [] rfl
  have hc := hcon W _ args.toList hH hvs
  rw [Array.toArray_toList] at hc
  refine hc.mono ?_
  rintro en W' ⟨v, r, μ', I', rfl, rfl, hv, hH', hE⟩
  have hB := hE.below
  have hv' : v = .bool true := by
    cases hv; rfl
  subst hv'
  have hlt : ∀ x ∈ p, x.block < W.heap.size := fun x hx => by simpa using hW'.lt x (by simp [hx])
  refine ⟨_, rfl, ds, [], p ++ [], [], p, [], hW', ?_, ?_, ?_, hB.frame _, fun h => by cases h⟩
  · rw [e1, hres]
    exact trodAll_cons_mk (shut_bool htb _) trodAll_mk0
  · rw [e2]
    exact trodAll_stays (ts := []) hl hB _ _ _ _ hr hA hlt (fun x hx => by simpa using hlt x hx)
  · rw [hvars, e3]; rfl
end
end Go.Eng
