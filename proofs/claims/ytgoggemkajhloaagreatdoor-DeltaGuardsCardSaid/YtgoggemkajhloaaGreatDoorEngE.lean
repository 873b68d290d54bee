/-
  The engine, part E: new memory, stores, slices, append.
  Conditions: none; plain definitions and theorems over any program.
-/
import Derived.Test.YtgoggemkajhloaaGreatDoorEngD
import Derived.Maps.AppendAt
namespace Go.Eng
open Go Go.RowKit

def setN {α : Type} : List α → Nat → α → List α
  | [], _, _ => []
  | _ :: l, 0, y => y :: l
  | x :: l, i + 1, y => x :: setN l i y

def delN {α : Type} : List α → Nat → List α
  | [], _ => []
  | _ :: l, 0 => l
  | x :: l, i + 1 => x :: delN l i

theorem nth_perm {α : Type} : ∀ {l : List α} {p : Nat} {x : α}, nth l p = some x → l.Perm (x :: delN l p)
  | [], _, _, h => by simp [nth] at h
  | y :: l, 0, x, h => by simp only [nth, Option.some.injEq] at h; subst h; exact List.Perm.refl _
  | y :: l, p + 1, x, h => ((nth_perm (l := l) (p := p) h).cons y).trans (List.Perm.swap x y _)

theorem setN_perm {α : Type} (y : α) : ∀ {l : List α} {p : Nat} {x : α}, nth l p = some x → (setN l p y).Perm (y :: delN l p)
  | [], _, _, h => by simp [nth] at h
  | z :: l, 0, x, h => List.Perm.refl _
  | z :: l, p + 1, x, h => ((setN_perm y (l := l) (p := p) h).cons z).trans (List.Perm.swap y z _)

/-- One owned entry is written, or moves to new memory. -/
theorem Heap.write {X : Cfg} {w w' : World} {I : Nat → Prop} {μ : List E} (hH : Heap X w I μ) {p : Nat} {en en' : E} (hp : nth μ p = some en) (hos : w'.os = w.os) (htp : w'.tape = w.tape) (hout : w'.output = w.output) (hsz : w.heap.size ≤ w'.heap.size)
    (hb : ∀ b, b < w.heap.size → b ∉ en.blocks → w'.heap[b]? = w.heap[b]?) (hnd : en'.blocks.Nodup) (hnew : ∀ b, b ∈ en'.blocks → b ∈ en.blocks ∨ w.heap.size ≤ b) (hm : en'.Mono) (hr : ERep w' I en') :
    Heap X w' I (setN μ p en') ∧ Ext w I μ w' I (setN μ p en') := by
  have p1 := nth_perm hp
  have p2 := setN_perm en' hp
  have h1 : Heap X w I ([en] ++ delN μ p) := hH.perm p1
  have hbl : blocksOf [en] = en.blocks := by simp [blocksOf]
  have hbl' : blocksOf [en'] = en'.blocks := by simp [blocksOf]
  have hen := h1.left
  have still : ∀ b, I b → w'.heap[b]? = w.heap[b]? := fun b hI => hb b (hH.imm b hI) fun hm' => (hen.own b (by rw [hbl]; exact hm')).2 hI
  have glob : ∀ b, b < X.N → w'.heap[b]? = w.heap[b]? := fun b hlt => hb b (by have := hH.lo; omega) fun hm' => by have := (hen.own b (by rw [hbl]; exact hm')).1; omega
  have h2 : Heap X w' I [en'] := by
    refine ⟨by have := hH.lo; omega, X.hG _ _ glob hH.glob, by rw [hbl']; exact hnd, fun b hb' => ?_, fun b hI => by have := hH.imm b hI; omega, fun e he => by rw [List.mem_singleton.1 he]; exact hr, fun e he => by rw [List.mem_singleton.1 he]; exact hm⟩
    rw [hbl'] at hb'
    rcases hnew b hb' with h | h
    · exact hen.own b (by rw [hbl]; exact h)
    · exact ⟨by have := hH.lo; omega, fun hI => by have := hH.imm b hI; omega⟩
  have x2 : Ext w I [en] w' I [en'] := ⟨hos, htp, hout, hsz, fun b hlt hn => hb b hlt (by rw [hbl] at hn; exact hn), fun _ h => h, fun _ h => .inl h, fun b hb' => by rw [hbl'] at hb'; rw [hbl]; exact hnew b hb'⟩
  obtain ⟨h3, x3⟩ := h1.frame h2 x2
  exact ⟨h3.perm p2.symm, x3.perm p1.symm p2.symm⟩

/-- Cells laid over others from off on. -/
def spl : List C → Nat → List C → List C
  | cs, 0, new => new ++ cs.drop new.length
  | [], _ + 1, _ => []
  | c :: cs, off + 1, new => c :: spl cs off new

theorem spl_eq : ∀ (cs : List C) (off : Nat) (new : List C), off ≤ cs.length → spl cs off new = cs.take off ++ new ++ cs.drop (off + new.length)
  | cs, 0, new, _ => by cases cs <;> simp [spl]
  | [], off + 1, new, h => by simp at h
  | c :: cs, off + 1, new, h => by
    have := spl_eq cs off new (by simpa using h)
    simp [spl, this, Nat.succ_add]

theorem spl_length {cs : List C} {off : Nat} {new : List C} (h : off + new.length ≤ cs.length) : (spl cs off new).length = cs.length := by
  rw [spl_eq cs off new (by omega)]
  simp; omega

def vcells : V → Option (List C)
  | .c x => some [x]
  | .agg l => some l
  | _ => none

theorem vcells_rep {w : World} {I : Nat → Prop} {x : V} {v : Value} {cs : List C} (h : VRep w I x v) (hc : vcells x = some cs) : CReps w I cs v.cells.toList := by
  cases x with
  | c x =>
    simp only [vcells, Option.some.injEq] at hc
    subst hc
    have h' : CRep w I x v := h
    have : v.cells = #[v] := by
      have := h'.one
      cases v <;> first | rfl | (simp [Value.oneCell'] at this)
    rw [this]
    exact .cons h' .nil
  | agg l =>
    simp only [vcells, Option.some.injEq] at hc
    subst hc
    obtain ⟨vs, rfl, hv⟩ := h.agg_inv
    simpa [Value.cells] using hv
  | _ => simp [vcells] at hc

section mem
variable {X : Cfg} {o : Oper} {e : Operand → V} {μ : List E}

theorem ope_new {t : TypeId} {cells : List C} (h : ∀ (a : Act) (w : World) (I : Nat → Prop), (∀ x, x ∈ o.op.operands → VRep w I (e x) (a.eval x)) → ∃ vs : List Value, (execOp a.eval o).run X.P w = .ok (.value (.pointer (some ⟨w.heap.size, 0, none⟩))) (w.alloc (.cells vs.toArray t)) ∧ CReps w I cells vs) :
    OpE X o e μ fun r μ' => ∃ b, r = .c (.lit (.pointer (some ⟨b, 0, none⟩))) ∧ μ' = .row b t cells :: μ := by
  intro a w I hH hops K Q k
  obtain ⟨vs, hrun, hc⟩ := h a w I hops
  have hold : ∀ b, I b → (w.alloc (.cells vs.toArray t)).heap[b]? = w.heap[b]? := fun b hb => Below.heap_alloc w _ b (hH.imm b hb)
  obtain ⟨h1, h2⟩ := fresh_alloc hH (.cells vs.toArray t) (.row w.heap.size t cells) rfl trivial ⟨vs, heap_alloc_new w _, hc.mono hold fun _ h => h⟩
  exact wp_value hrun (k _ _ _ _ _ ⟨w.heap.size, rfl, rfl⟩ (CRep.lit _ rfl) h1 h2)

theorem ope_box {t : TypeId} {x : Operand} {cells : List C} (ho : o.op = .box t x) (hx : vcells (e x) = some cells) : OpE X o e μ fun r μ' => ∃ b, r = .c (.lit (.pointer (some ⟨b, 0, none⟩))) ∧ μ' = .row b t cells :: μ :=
  ope_new fun a w I hops => ⟨(a.eval x).cells.toList, by simp [execOp, ho, Instr.box, newVar, newRow, go_sem], vcells_rep (hops x (by rw [ho]; simp [Op.operands])) hx⟩

theorem ope_alloc {t : TypeId} {zs : List Value} (ho : o.op = .alloc t) (hz : zeroT X.P t = some zs) : OpE X o e μ fun r μ' => ∃ b, r = .c (.lit (.pointer (some ⟨b, 0, none⟩))) ∧ μ' = .row b t (zs.map .lit) :: μ :=
  ope_new fun a w I hops => by
    unfold zeroT at hz
    split at hz
    · rename_i i hi
      split at hz
      · rename_i v hv
        split at hz
        · rename_i hall
          simp only [Option.some.injEq] at hz
          subst hz
          refine ⟨v.cells.toList, by simp [execOp, ho, Instr.alloc, zeroValue, typeInfo, hi, hv, newVar, newRow, go_sem], CReps.lits _ fun u hu => ?_⟩
          rw [Array.all_eq_true_iff_forall_mem] at hall
          exact hall u (by simpa using hu)
        · cases hz
      · cases hz
    · cases hz

/-- Writing those cells where c points turns μ into μ'. -/
def StoreTo (μ : List E) (c : C) (new : List C) (μ' : List E) : Prop :=
  ∀ (X : Cfg) (w : World) (I : Nat → Prop) (v : Value) (us : List Value), Heap X w I μ → CRep w I c v → CReps w I new us →
    ∃ a w', v = .pointer (some a) ∧ (storeCells a us).run X.P w = .ok () w' ∧ Heap X w' I μ' ∧ Ext w I μ w' I μ'

theorem st_row {μ : List E} {b off : Nat} {t : TypeId} {cs new : List C} (p : Nat) (h : nth μ p = some (.row b t cs)) (hl : Nat.ble (off + new.length) cs.length = true) :
    StoreTo μ (.lit (.pointer (some ⟨b, off, none⟩))) new (setN μ p (.row b t (spl cs off new))) := by
  intro X w I v us hH hv hus
  cases hv
  have hle := Nat.le_of_ble_eq_true hl
  obtain ⟨vs, hh, hc⟩ := hH.rep _ (nth_mem h)
  have hlen := hc.length
  have hlen' := hus.length
  have hst := run_storeCells_at X.P b off t us 0 vs.toArray w hh (by simp; omega) hus.one
  refine ⟨_, _, rfl, hst, ?_⟩
  have still : ∀ k, I k → (w.setRow b (vs.take (off + 0) ++ us ++ vs.drop (off + 0 + us.length)).toArray).heap[k]? = w.heap[k]? := fun k hk => setRow_other w b k _ (fun e => (hH.own b (mem_blocksOf (nth_mem h) (by simp [E.blocks]))).2 (e ▸ hk))
  refine Heap.write hH h rfl rfl rfl (by simp) (fun k _ hk => setRow_other w b k _ (by simpa [E.blocks] using hk)) (by simp [E.blocks]) (fun k hk => .inl hk) trivial ⟨vs.take off ++ us ++ vs.drop (off + us.length), ?_, ?_⟩
  · simpa using setRow_heap w b vs.toArray (vs.take off ++ us ++ vs.drop (off + us.length)).toArray t (0, 0) hh
  · rw [spl_eq cs off new (by omega)]
    refine CReps.mono still (fun _ h => h) (((hc.take off).append hus).append ?_)
    rw [hlen']
    exact hc.drop _

theorem flat_set {size : Nat} : ∀ {rows : List (List C)} {i : Nat} {row new : List C}, (∀ r, r ∈ rows → r.length = size) → rows[i]? = some row → (rows.set i new).flatten = rows.flatten.take (i * size) ++ new ++ rows.flatten.drop (i * size + size)
  | [], i, row, new, _, h => by simp at h
  | r :: rows, 0, row, new, hl, h => by
    have := hl r (by simp)
    simp [← this]
  | r :: rows, i + 1, row, new, hl, h => by
    have ih := flat_set (size := size) (rows := rows) (i := i) (row := row) (new := new) (fun r hr => hl r (by simp [hr])) (by simpa using h)
    have hr := hl r (by simp)
    rw [List.set_cons_succ, List.flatten_cons, ih, List.flatten_cons, Nat.succ_mul]
    have e1 : (r ++ rows.flatten).take (i * size + size) = r ++ rows.flatten.take (i * size) := by
      rw [List.take_append, hr, Nat.add_sub_cancel, List.take_of_length_le (by omega)]
    have e2 : (r ++ rows.flatten).drop (i * size + size + size) = rows.flatten.drop (i * size + size) := by
      rw [List.drop_append, hr, Nat.add_sub_cancel, List.drop_of_length_le (by omega), List.nil_append]
    rw [e1, e2]
    simp

theorem splice_get {α : Type} (A us : List α) (p j : Nat) (h : p + us.length ≤ A.length) : (A.take p ++ us ++ A.drop (p + us.length))[j]? = if j < p then A[j]? else if j < p + us.length then us[j - p]? else A[j]? := by
  by_cases h1 : j < p
  · rw [if_pos h1, List.append_assoc, List.getElem?_append_left (by simp; omega), List.getElem?_take, if_pos h1]
  · rw [if_neg h1]
    by_cases h2 : j < p + us.length
    · rw [if_pos h2, List.append_assoc, List.getElem?_append_right (by simp; omega), List.length_take, Nat.min_eq_left (by omega), List.getElem?_append_left (by omega)]
    · rw [if_neg h2, List.getElem?_append_right (by simp; omega), List.getElem?_drop]
      congr 1
      simp; omega

theorem splice_take {α : Type} (A us : List α) (p n : Nat) (h : p + us.length ≤ n) (hn : n ≤ A.length) : (A.take p ++ us ++ A.drop (p + us.length)).take n = (A.take n).take p ++ us ++ (A.take n).drop (p + us.length) := by
  apply List.ext_getElem?
  intro j
  rw [List.getElem?_take, splice_get A us p j (by omega), splice_get (A.take n) us p j (by simp; omega), List.getElem?_take]
  by_cases h1 : j < p
  · rw [if_pos h1, if_pos h1]
  · rw [if_neg h1, if_neg h1]
    by_cases h2 : j < p + us.length
    · rw [if_pos h2, if_pos h2, if_pos (by omega)]
    · rw [if_neg h2, if_neg h2]

theorem st_vec {μ : List E} {sv : Value} {size i off : Nat} {t : TypeId} {rows : List (List C)} {row new : List C} (p : Nat) (h : nth μ p = some (.vec sv t size rows)) (hi : rows[i]? = some row) (hl : Nat.ble (off + new.length) row.length = true) :
    StoreTo μ (.vptr sv size i off) new (setN μ p (.vec sv t size (rows.set i (spl row off new)))) := by
  intro X w I v us hH hv hus
  cases hv with
  | vptr b n cap _ _ _ =>
    have hle := Nat.le_of_ble_eq_true hl
    rcases hH.rep _ (nth_mem h) with ⟨_, _, rfl⟩ | ⟨hne, xs, hown, hc, hr⟩
    · simp at hi
    have hsvB : svB (.slice (some ⟨b, 0, none⟩) n cap) = [b] := by cases cap with | zero => exact absurd rfl hne | succ c => rfl
    have hrow : row.length = size := hr row (List.mem_of_getElem? hi)
    have hilt : i < rows.length := (List.getElem?_eq_some_iff.1 hi).1
    have hlenx := hown.1
    have hus' := hus.length
    have hmul : i * size + size ≤ rows.length * size := by
      have := Nat.mul_le_mul_right size (show i + 1 ≤ rows.length by omega)
      rwa [Nat.succ_mul] at this
    rcases hown.2 with ⟨h0, _⟩ | ⟨g, cap', cur, h1, _, hh, hcap, hmax, hsz, htake⟩
    · cases h0
    · cases h1
      have hcur : rows.length * size ≤ cur.size := by rw [hsz]; exact Nat.mul_le_mul_right size hcap
      have hst := run_storeCells_at X.P b (i * size + off) t us 0 cur w hh (by omega) hus.one
      refine ⟨_, _, rfl, hst, ?_⟩
      have still : ∀ k, I k → (w.setRow b (cur.toList.take (i * size + off + 0) ++ us ++ cur.toList.drop (i * size + off + 0 + us.length)).toArray).heap[k]? = w.heap[k]? := fun k hk => setRow_other w b k _ (fun e => (hH.own b (mem_blocksOf (nth_mem h) (by simp [E.blocks, hsvB]))).2 (e ▸ hk))
      refine Heap.write hH h rfl rfl rfl (by simp) (fun k _ hk => setRow_other w b k _ (by simpa [E.blocks, hsvB] using hk)) (by simp [E.blocks, hsvB]) (fun k hk => .inl (by simpa [E.blocks] using hk)) trivial (.inr ⟨hne, xs.take (i * size + off) ++ us ++ xs.drop (i * size + off + us.length), ?_, ?_, ?_⟩)
      · refine ⟨by simp; omega, .inr ⟨b, cap, _, by simp, Nat.zero_le _, setRow_heap w b cur _ t (0, 0) hh, by simpa using hcap, hmax, by simp; omega, ?_⟩⟩
        rw [List.length_set, ← htake]
        simp only [Nat.add_zero]
        exact splice_take cur.toList us (i * size + off) (rows.length * size) (by omega) (by simpa using hcur)
      · rw [flat_set hr hi, spl_eq row off new (by omega)]
        obtain ⟨A, B, e', hA⟩ := flat_at hr hi
        have h1 : rows.flatten.take (i * size) = A := by rw [e', List.append_assoc, ← hA, List.take_left]
        have h2 : rows.flatten.drop (i * size + size) = B := by
          rw [e', ← hA, ← hrow, ← List.length_append, List.drop_left]
        rw [h1, h2]
        rw [e'] at hc
        have hc1 := hc.take (i * size + off)
        have hc2 := hc.drop (i * size + off + new.length)
        have e1 : (A ++ row ++ B).take (i * size + off) = A ++ row.take off := by
          rw [List.append_assoc, List.take_append, hA, Nat.add_sub_cancel_left, List.take_of_length_le (by omega), List.take_append_of_le_length (by omega)]
        have e2 : (A ++ row ++ B).drop (i * size + off + new.length) = row.drop (off + new.length) ++ B := by
          rw [List.append_assoc, List.drop_append, hA, List.drop_of_length_le (by omega), List.nil_append, show i * size + off + new.length - i * size = off + new.length by omega, List.drop_append_of_le_length (by omega)]
        rw [e1] at hc1
        rw [e2] at hc2
        refine CReps.mono still (fun _ h => h) ?_
        have := (hc1.append hus).append hc2
        rw [← hus']
        simpa [List.append_assoc] using this
      · intro r hr'
        rcases List.mem_or_eq_of_mem_set hr' with h | h
        · exact hr r h
        · rw [h, spl_length (by omega), hrow]

theorem det_store {t : TypeId} {x y : Operand} {c : C} {new : List C} {μ' : List E} {m : Nat} (ho : o.op = .store t x y) (ht : (X.P.info? t).map (·.size) = some m) (hx : e x = .c c) (hy : vcells (e y) = some new) (hnm : Nat.beq new.length m = true) (hst : StoreTo μ c new μ') : Det X o e μ .un μ' := by
  obtain rfl : new.length = m := Nat.eq_of_beq_eq_true hnm
  intro a w I hH hops K Q k
  have hxv := hops x (by rw [ho]; simp [Op.operands])
  rw [hx] at hxv
  have hyv := vcells_rep (hops y (by rw [ho]; simp [Op.operands])) hy
  obtain ⟨ad, w', ha, hrun, hH', hx'⟩ := hst X w I _ _ hH hxv hyv
  refine wp_unit ?_ (k undef .un μ' I w' ⟨rfl, rfl⟩ trivial hH' hx')
  obtain ⟨i, hi, hs⟩ := Option.map_eq_some_iff.1 ht
  have hsz : (a.eval y).cells.size = i.size := by rw [hs, hyv.length]; simp
  simp only [execOp, ho, ha, Instr.storeAt, Instr.sureAddr, storeVar, Sem.run_bind, Sem.run_pure, Result.andThen_ok, sizeOf, typeInfo, run_program, hi, hsz, ne_eq, not_true_eq_false, if_false, hrun]

/-! ## Slices -/

theorem elemT_parts {P : Program} {t et : TypeId} {size bytes : Nat} (h : elemT P t = some (et, size, bytes)) : P.underlying t = some (.slice et) ∧ ∃ i z, P.info? et = some i ∧ i.zero = some z ∧ i.size = size ∧ i.bytes = bytes ∧ z.cells.size = size ∧ 0 < size := by
  unfold elemT at h
  split at h
  · rename_i e hu
    split at h
    · rename_i i hi
      split at h
      · rename_i zv hz
        split at h
        · rename_i hc
          simp only [Option.some.injEq, Prod.mk.injEq] at h
          obtain ⟨rfl, rfl, rfl⟩ := h
          exact ⟨hu, i, zv, hi, hz, rfl, rfl, hc.1, hc.2⟩
        · cases h
      · cases h
    · cases h
  · cases h

theorem det_index_sl {t et : TypeId} {x y : Operand} {size bytes : Nat} {rows : List (List C)} {row : List C} {k : IntKind} {i : Int} (ho : o.op = .indexAddr t x y) (ht : elemT X.P t = some (et, size, bytes)) (hx : e x = .c (.sl size rows)) (hy : e y = .c (.lit (.int k i)))
    (h0 : 0 ≤ i) (hrow : rows[i.toNat]? = some row) : Det X o e μ (.c (.iptr row)) μ :=
  det_same fun a w I hH hops => by
    obtain ⟨hu, inf, z, hi, hz, hs, hby, hzs, hpos⟩ := elemT_parts ht
    have hxv := hops x (by rw [ho]; simp [Op.operands])
    have hyv := hops y (by rw [ho]; simp [Op.operands])
    rw [hx] at hxv
    rw [hy] at hyv
    have h2 := hyv.lit_inv
    have hxv' : CRep w I (.sl size rows) (a.eval x) := hxv
    have hlt : i.toNat < rows.length := (List.getElem?_eq_some_iff.1 hrow).1
    generalize hv : a.eval x = v at hxv'
    cases hxv' with
    | nil => simp at hlt
    | sl _ _ ad cap us hI hl hcap hc hr =>
      have hlt' : i < (rows.length : Int) := by omega
      refine ⟨.pointer (some (ad.add (i.toNat * size))), ?_, ?_⟩
      · simp [execOp, ho, hv, h2, Instr.indexAt, asIntOf, run_underlying hu, h0, hlt', sizeOf, typeInfo, hi, hs]
      · refine CRep.iptr _ _ (us i.toNat) (by rw [add_block]; exact hI) (fun j hj => ?_) (fun j c hj => hr _ _ hrow j c hj)
        rw [add_of_add]
        exact hc _ _ hlt (by rw [hl row (List.mem_of_getElem? hrow)] at hj; exact hj)

theorem det_index_vec {t et et' : TypeId} {x y : Operand} {size bytes : Nat} {rows : List (List C)} {sv : Value} {k : IntKind} {i : Int} (p : Nat) (ho : o.op = .indexAddr t x y) (ht : elemT X.P t = some (et, size, bytes)) (hx : e x = .c (.lit sv)) (hp : nth μ p = some (.vec sv et' size rows)) (hy : e y = .c (.lit (.int k i)))
    (h0 : 0 ≤ i) (hlt : i.toNat < rows.length) : Det X o e μ (.c (.vptr sv size i.toNat 0)) μ :=
  det_same fun a w I hH hops => by
    obtain ⟨hu, inf, z, hi, hz, hs, hby, hzs, hpos⟩ := elemT_parts ht
    have hxv := hops x (by rw [ho]; simp [Op.operands])
    have hyv := hops y (by rw [ho]; simp [Op.operands])
    rw [hx] at hxv
    rw [hy] at hyv
    have h1 := hxv.lit_inv
    have h2 := hyv.lit_inv
    rcases hH.rep _ (nth_mem hp) with ⟨_, _, rfl⟩ | ⟨_, xs, ⟨hl, hown⟩, hc, hr⟩
    · simp at hlt
    rcases hown with ⟨_, hn⟩ | ⟨g, cap, cur, rfl, _⟩
    · omega
    · have hlt' : i < (rows.length : Int) := by omega
      refine ⟨.pointer (some ⟨g, i.toNat * size + 0, none⟩), ?_, CRep.vptr g rows.length cap size i.toNat 0⟩
      have := add_none g 0 (i.toNat * size)
      rw [Nat.zero_add] at this
      simp [execOp, ho, h1, h2, Instr.indexAt, asIntOf, run_underlying hu, h0, hlt', sizeOf, typeInfo, hi, hs, this]

theorem det_len_sl {t et : TypeId} {x : Operand} {size bytes : Nat} {rows : List (List C)} (ho : o.op = .call { callee := .builtin .len, args := #[x], argTypes := #[t] }) (ht : elemT X.P t = some (et, size, bytes)) (hx : e x = .c (.sl size rows)) : Det X o e μ (.c (.lit (.int .i64 rows.length))) μ :=
  det_same fun a w I hH hops => by
    obtain ⟨hu, _⟩ := elemT_parts ht
    have hxv := hops x (by rw [ho]; simp [Op.operands, Call.operands])
    rw [hx] at hxv
    have hxv' : CRep w I (.sl size rows) (a.eval x) := hxv
    refine ⟨.int .i64 rows.length, ?_, CRep.lit _ rfl⟩
    generalize hv : a.eval x = v at hxv'
    cases hxv' with
    | nil => simp [execOp, ho, hv, resolve, invoke, builtin, Builtin.len_, run_underlying hu, goInt]
    | sl _ _ ad cap us hI hl hcap hc hr => simp [execOp, ho, hv, resolve, invoke, builtin, Builtin.len_, run_underlying hu, goInt]

theorem det_len_vec {t et et' : TypeId} {x : Operand} {size bytes : Nat} {rows : List (List C)} {sv : Value} (p : Nat) (ho : o.op = .call { callee := .builtin .len, args := #[x], argTypes := #[t] }) (ht : elemT X.P t = some (et, size, bytes)) (hx : e x = .c (.lit sv)) (hp : nth μ p = some (.vec sv et' size rows)) : Det X o e μ (.c (.lit (.int .i64 rows.length))) μ :=
  det_same fun a w I hH hops => by
    obtain ⟨hu, _⟩ := elemT_parts ht
    have hxv := hops x (by rw [ho]; simp [Op.operands, Call.operands])
    rw [hx] at hxv
    have h1 := hxv.lit_inv
    refine ⟨.int .i64 rows.length, ?_, CRep.lit _ rfl⟩
    rcases hH.rep _ (nth_mem hp) with ⟨_, rfl, rfl⟩ | ⟨_, xs, ⟨hl, hown⟩, hc, hr⟩
    · simp [execOp, ho, h1, resolve, invoke, builtin, Builtin.len_, run_underlying hu, goInt]
    rcases hown with ⟨rfl, hn⟩ | ⟨g, cap, cur, rfl, _⟩
    · simp [execOp, ho, h1, resolve, invoke, builtin, Builtin.len_, run_underlying hu, goInt, hn]
    · simp [execOp, ho, h1, resolve, invoke, builtin, Builtin.len_, run_underlying hu, goInt]

theorem det_len_str {t : TypeId} {x : Operand} {s : ByteArray} (ho : o.op = .call { callee := .builtin .len, args := #[x], argTypes := #[t] }) (ht : X.P.underlying t = some .string) (hx : e x = .c (.lit (.string s))) : Det X o e μ (.c (.lit (.int .i64 s.size))) μ :=
  det_same fun a w I hH hops => by
    have hxv := hops x (by rw [ho]; simp [Op.operands, Call.operands])
    rw [hx] at hxv
    have h1 := hxv.lit_inv
    exact ⟨.int .i64 s.size, by simp [execOp, ho, h1, resolve, invoke, builtin, Builtin.len_, run_underlying ht, goInt], CRep.lit _ rfl⟩

theorem rows_of_flat {w : World} {I : Nat → Prop} {size : Nat} : ∀ {rows : List (List C)} {us : List Value}, (∀ r, r ∈ rows → r.length = size) → CReps w I rows.flatten us → us.length = rows.length * size
  | [], us, _, h => by simpa using h.length.symm
  | r :: rows, us, hl, h => by
    have := h.length
    have h2 : ∀ rows : List (List C), (∀ r, r ∈ rows → r.length = size) → rows.flatten.length = rows.length * size := by
      intro rows hl
      induction rows with
      | nil => simp
      | cons r rows ih => simp [ih fun r hr => hl r (by simp [hr]), hl r (by simp), Nat.succ_mul, Nat.add_comm]
    rw [← this, h2 _ hl]

/-- The cells behind a slice that is left alone, flat. -/
theorem sl_flat {w : World} {I : Nat → Prop} {size : Nat} {rows : List (List C)} {v : Value} (h : CRep w I (.sl size rows) v) :
    (rows = [] ∧ ∃ a cap, v = .slice a 0 cap) ∨ ∃ ad cap us, v = .slice (some ad) rows.length cap ∧ CReps w I rows.flatten us ∧ us.length = rows.length * size ∧ (∀ r, r ∈ rows → r.length = size) ∧ ∀ j u, us[j]? = some u → w.cell? (ad.add j) = some u := by
  cases h with
  | nil _ a cap => exact .inl ⟨rfl, a, cap, rfl⟩
  | sl _ _ ad cap us hI hl hcap hc hr =>
    refine .inr ⟨ad, cap, (List.range rows.length).flatMap fun i => (List.range size).map fun j => us i j, rfl, ?_, ?_, hl, ?_⟩
    · clear hc hcap
      induction rows generalizing us with
      | nil => simp; exact .nil
      | cons r rows ih =>
        have ih' := ih (fun i => us (i + 1)) (fun i r' h j c => hr (i + 1) r' (by simpa using h) j c) (fun r hr' => hl r (by simp [hr']))
        rw [List.length_cons, List.range_succ_eq_map, List.flatMap_cons, List.flatten_cons]
        refine CReps.append ?_ (by simpa [List.flatMap_map] using ih')
        refine CReps.of_at (by simp [hl r (by simp)]) fun j c v hj hv => ?_
        have hlt : j < size := by rw [← hl r (by simp)]; exact (List.getElem?_eq_some_iff.1 hj).1
        rw [List.getElem?_map, List.getElem?_range hlt] at hv
        simp only [Option.map_some, Option.some.injEq] at hv
        subst hv
        exact hr 0 r (by simp) j c hj
    · have : ∀ n, ((List.range n).flatMap fun i => (List.range size).map fun j => us i j).length = n * size := by
        intro n
        induction n with
        | zero => simp
        | succ n ih => rw [List.range_succ, List.flatMap_append, List.length_append, ih]; simp [Nat.succ_mul]
      exact this _
    · have key : ∀ n, n ≤ rows.length → ∀ j u, ((List.range n).flatMap fun i => (List.range size).map fun j => us i j)[j]? = some u → w.cell? (ad.add j) = some u := by
        intro n
        induction n with
        | zero => intro _ j u h; simp at h
        | succ n ih =>
          intro hn j u h
          have hlen : ((List.range n).flatMap fun i => (List.range size).map fun j => us i j).length = n * size := by
            clear ih h hn
            induction n with
            | zero => simp
            | succ n ih => rw [List.range_succ, List.flatMap_append, List.length_append, ih]; simp [Nat.succ_mul]
          rw [List.range_succ, List.flatMap_append] at h
          by_cases hj : j < n * size
          · rw [List.getElem?_append_left (by rw [hlen]; exact hj)] at h
            exact ih (by omega) j u h
          · rw [List.getElem?_append_right (by rw [hlen]; omega), hlen] at h
            simp only [List.flatMap_cons, List.flatMap_nil, List.append_nil] at h
            have hlt : j - n * size < size := by have := (List.getElem?_eq_some_iff.1 h).1; simpa using this
            rw [List.getElem?_map, List.getElem?_range hlt] at h
            simp only [Option.map_some, Option.some.injEq] at h
            subst h
            have := hc n (j - n * size) (by omega) hlt
            rwa [show n * size + (j - n * size) = j by omega] at this
      exact key _ (Nat.le_refl _)

theorem run_append_nothing {P : Program} (w : World) (base : Nat) (t ty e : TypeId) (i : TypeInfo) (size : Nat) (ht : P.underlying t = some (.slice e)) (hi : P.info? e = some i)
    (v : Value) (n : Nat) (xs : List Value) (hown : w.ownsRow base e size v n xs) (a : Option Addr) (c : Nat) : (Builtin.append_ #[t, t] ty #[v, .slice a 0 c]).run P w = .ok v w := by
  have hl : ∀ ad : Addr, (loadCells ad 0).run P w = .ok #[] w := fun ad => by simp [loadCells, loadCellsFrom]
  rcases hown.2 with ⟨rfl, rfl⟩ | ⟨g, cap, cur, rfl, _, _, hnc, _⟩
  · cases a <;> simp [Builtin.append_, run_underlying ht, sizeOf, typeInfo, hi, Builtin.lenOf, Builtin.firstCells, hl]
  · cases a <;> simp [Builtin.append_, run_underlying ht, sizeOf, typeInfo, hi, Builtin.lenOf, Builtin.firstCells, hnc, storeCells, hl]

theorem run_append_flat {P : Program} (w : World) (base : Nat) (t ty et : TypeId) (size bytes : Nat) (ht : elemT P t = some (et, size, bytes)) (v : Value) (n : Nat) (xs : List Value) (hown : w.ownsRow base et size v n xs)
    {I : Nat → Prop} {news : List (List C)} {u : Value} (hu : CRep w I (.sl size news) u) (h63 : n + news.length ≤ maxLen) (hbytes : (n + news.length) * bytes ≤ 140737488355328) (hbase : base ≤ w.heap.size) :
    ∃ v' w' us, (Builtin.append_ #[t, t] ty #[v, u]).run P w = .ok v' w' ∧ w'.ownsRow base et size v' (n + news.length) (xs ++ us) ∧ w.grownBy w' v.ownBlock ∧ (v'.ownBlock = v.ownBlock ∨ v'.ownBlock = some w.heap.size) ∧ CReps w I news.flatten us ∧ (∀ r, r ∈ news → r.length = size) := by
  obtain ⟨htu, i, z, hi, hz, hs, hby, hzs, hpos⟩ := elemT_parts ht
  rcases sl_flat hu with ⟨rfl, a, cap, rfl⟩ | ⟨ad, cap, us, rfl, hc, hl, hrl, hcell⟩
  · exact ⟨v, w, [], run_append_nothing w base t ty et i size htu hi v n xs hown a cap, by simpa using hown, World.grownBy.refl w _, .inl rfl, by simp; exact .nil, by simp⟩
  · obtain ⟨v', w', hrun, h2, h3, _, h5⟩ := run_append_own_at (P := P) w base t ty et i z size bytes htu hi hz hs hby hzs hpos v n xs hown ad news.length cap us hl hcell hc.one h63 hbytes hbase
    exact ⟨v', w', us, hrun, h2, h3, h5, hc, hrl⟩

theorem run_append_none {P : Program} (w : World) (t ty e : TypeId) (i : TypeInfo) (ht : P.underlying t = some (.slice e)) (hi : P.info? e = some i) (a a' : Option Addr) (c : Nat) :
    (Builtin.append_ #[t, t] ty #[.slice a 0 0, .slice a' 0 c]).run P w = .ok (.slice a 0 0) w := by
  have hl : ∀ ad : Addr, (loadCells ad 0).run P w = .ok #[] w := fun ad => by simp [loadCells, loadCellsFrom]
  cases a <;> cases a' <;> simp [Builtin.append_, run_underlying ht, sizeOf, typeInfo, hi, Builtin.lenOf, Builtin.firstCells, storeCells, hl]

theorem run_append_vec {P : Program} {w : World} {I : Nat → Prop} {t ty et : TypeId} {size bytes : Nat} (ht : elemT P t = some (et, size, bytes)) {sv : Value} {rows : List (List C)} (hrep : ERep w I (.vec sv et size rows)) {news : List (List C)} {u : Value} (hu : CRep w I (.sl size news) u)
    (himm : ∀ b, I b → b < w.heap.size ∧ b ∉ svB sv) (h63 : rows.length + news.length ≤ maxLen) (hbytes : (rows.length + news.length) * bytes ≤ 140737488355328) :
    ∃ v' w', (Builtin.append_ #[t, t] ty #[sv, u]).run P w = .ok v' w' ∧ w'.os = w.os ∧ w'.tape = w.tape ∧ w'.output = w.output ∧ w.heap.size ≤ w'.heap.size ∧ (∀ b, b < w.heap.size → b ∉ (E.vec sv et size rows).blocks → w'.heap[b]? = w.heap[b]?) ∧
      (∀ b, b ∈ (E.vec v' et size (rows ++ news)).blocks → b ∈ (E.vec sv et size rows).blocks ∨ w.heap.size ≤ b) ∧ ERep w' I (.vec v' et size (rows ++ news)) ∧ v'.oneCell' = true := by
  rcases hrep with ⟨a, rfl, rfl⟩ | ⟨hne, xs, hown, hc, hr⟩
  · obtain ⟨htu, i, z, hi, hz, hs, hby, hzs, hpos⟩ := elemT_parts ht
    by_cases h0 : news = []
    · subst h0
      rcases sl_flat hu with ⟨_, a', cap, rfl⟩ | ⟨ad, cap, us, rfl, _⟩
      · exact ⟨_, w, run_append_none w t ty et i htu hi a a' cap, rfl, rfl, rfl, Nat.le_refl _, fun _ _ _ => rfl, fun b h => .inl h, .inl ⟨a, rfl, rfl⟩, rfl⟩
      · exact ⟨_, w, run_append_none w t ty et i htu hi a (some ad) cap, rfl, rfl, rfl, Nat.le_refl _, fun _ _ _ => rfl, fun b h => .inl h, .inl ⟨a, rfl, rfl⟩, rfl⟩
    · have hlen : 0 < news.length := List.length_pos_iff.2 h0
      rcases sl_flat hu with ⟨h, _⟩ | ⟨ad, cap, us, rfl, hcu, hl, hrl, hcell⟩
      · exact absurd h h0
      · simp only [List.length_nil, Nat.zero_add] at h63 hbytes
        have h63' : (news.length : Int) ≤ 9223372036854775807 := by simp only [maxLen] at h63; omega
        subst hs hby
        have hrun : (Builtin.append_ #[t, t] ty #[.slice a 0 0, .slice (some ad) news.length cap]).run P w =
            .ok (.slice (some ⟨w.heap.size, 0, none⟩) news.length (grownCap w news.length 0 et)) (w.drew.alloc (.cells (us.toArray ++ Builtin.zeroCells z.cells (grownCap w news.length 0 et - news.length)) et)) := by
          cases a with
          | none => exact run_append_nil (P := P) w t ty et i z htu hi hz ad news.length cap us hl hcell hlen h63' (by omega)
          | some a =>
            have := run_append_grow (P := P) w t ty et i z htu hi hz a 0 0 [] (by simp) (fun j v h => by simp at h) ad news.length cap us hl hcell (by omega) (by omega) (by rw [Nat.zero_add, nextslicecap_zero hlen]; omega)
            simpa using this
        have hge := grownCap_ge w news.length 0 et
        have hcm : grownCap w news.length 0 et ≤ maxLen := grownCap_le_maxLen w news.length 0 et h63
        generalize grownCap w news.length 0 et = gc at *
        have hold : ∀ b, b < w.heap.size → (w.drew.alloc (.cells (us.toArray ++ Builtin.zeroCells z.cells (gc - news.length)) et)).heap[b]? = w.heap[b]? := fun b hb => heap_alloc_old w.drew _ hb
        refine ⟨_, _, hrun, rfl, rfl, rfl, by simp, fun b hb _ => hold b hb, fun b hb => ?_, ?_, rfl⟩
        · have := svB_own hb
          simp only [Value.ownBlock, Option.some.injEq] at this
          exact .inr (Nat.le_of_eq this)
        · refine vec_of_owns (xs := us) ⟨by simpa using hl, .inr ⟨w.heap.size, gc, _, by simp, Nat.zero_le _, heap_alloc_new w.drew _, by simpa using hge, hcm, ?_, ?_⟩⟩ ?_ (by simpa using hrl)
          · simp only [Array.size_append, List.size_toArray, size_zeroCells, hzs, hl, ← Nat.add_mul]
            congr 1
            omega
          · simp only [Array.toList_append, List.nil_append]
            rw [← hl]
            exact List.take_left
          · simpa using hcu.mono (fun b hb => hold b (himm b hb).1) fun _ h => h
  · obtain ⟨v', w', us, hrun, hown', hg, hblk, hcu, hrl⟩ := run_append_flat (P := P) w 0 t ty et size bytes ht sv rows.length xs hown hu h63 hbytes (Nat.zero_le _)
    have still : ∀ b, I b → w'.heap[b]? = w.heap[b]? := fun b hb => hg.block b (himm b hb).1 fun e' => (himm b hb).2 (svB_of hne e'.symm)
    have hone : v'.oneCell' = true := by
      rcases hown'.2 with ⟨rfl, _⟩ | ⟨g, cap, cur, rfl, _⟩ <;> rfl
    refine ⟨v', w', hrun, hg.os, hg.tape, hg.output, hg.size, fun b hb hnb => hg.block b hb fun e' => hnb (svB_of hne e'.symm), fun b hb' => ?_, ?_, hone⟩
    · have h1 := svB_own hb'
      rcases hblk with h | h
      · rw [h] at h1; exact .inl (svB_of hne h1)
      · rw [h] at h1; simp only [Option.some.injEq] at h1; exact .inr (Nat.le_of_eq h1)
    · exact vec_of_owns (xs := xs ++ us) (by rw [List.length_append]; exact hown') (by rw [List.flatten_append]; exact (hc.mono still fun _ h => h).append (hcu.mono still fun _ h => h)) fun r hr' => by
        rcases List.mem_append.1 hr' with h | h
        · exact hr r h
        · exact hrl r h

theorem ope_append {t et : TypeId} {x y : Operand} {size bytes : Nat} {rows news : List (List C)} {sv : Value} (p : Nat) (ho : o.op = .call { callee := .builtin .append, args := #[x, y], argTypes := #[t, t] }) (ht : elemT X.P t = some (et, size, bytes))
    (hx : e x = .c (.lit sv)) (hp : nth μ p = some (.vec sv et size rows)) (hy : e y = .c (.sl size news)) (hb : (rows.length + news.length) * bytes ≤ 140737488355328) (hn : rows.length + news.length ≤ 140737488355328) :
    OpE X o e μ fun r μ' => ∃ sv', r = .c (.lit sv') ∧ μ' = setN μ p (.vec sv' et size (rows ++ news)) := by
  intro a w I hH hops K Q k
  have hxv := hops x (by rw [ho]; simp [Op.operands, Call.operands])
  have hyv := hops y (by rw [ho]; simp [Op.operands, Call.operands])
  rw [hx] at hxv
  rw [hy] at hyv
  have h1 := hxv.lit_inv
  obtain ⟨v', w', hrun, e1, e2, e3, e4, e5, e6, e7, hone⟩ := run_append_vec (P := X.P) (ty := o.type) ht (hH.rep _ (nth_mem hp)) hyv (fun b hb => ⟨hH.imm b hb, fun h => (hH.own b (mem_blocksOf (nth_mem hp) h)).2 hb⟩) (by simp only [maxLen]; omega) hb
  obtain ⟨hH', hx'⟩ := Heap.write (w' := w') hH (en' := .vec v' et size (rows ++ news)) hp e1 e2 e3 e4 e5 (by simp only [E.blocks]; unfold svB; split <;> simp) e6 trivial e7
  refine wp_value ?_ (k v' _ _ I w' ⟨v', rfl, rfl⟩ (CRep.lit _ hone) hH' hx')
  simp only [execOp, ho, resolve, invoke, builtin, Sem.run_bind, Sem.run_pure, Result.andThen_ok, List.map_toArray, List.map_cons, List.map_nil, h1, hrun]

end mem
end Go.Eng
