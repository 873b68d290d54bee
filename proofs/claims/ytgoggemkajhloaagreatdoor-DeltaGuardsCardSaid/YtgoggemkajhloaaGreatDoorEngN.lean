/-
  The engine, part N: structs held against each other; slices of the call's own made by literals, cuts and calls; leaving memory alone that other memory points to.
  Conditions: none; plain definitions and theorems over any program.
-/
import Derived.Test.YtgoggemkajhloaaGreatDoorEngM
import Derived.Laws.StructEq
namespace Go.Eng
open Go Go.RowKit

/-! ## Structs of numbers, strings and truth values -/

inductive FK where
  | int
  | str
  | bool

def cEq : C → C → Bool
  | .lit (.int _ a), .lit (.int _ b) => decide (a = b)
  | .lit (.string a), .lit (.string b) => decide (a = b)
  | .lit (.bool a), .lit (.bool b) => a == b
  | _, _ => false

def litsEq : List C → List C → Bool
  | x :: xs, y :: ys => cEq x y && litsEq xs ys
  | _, _ => true

def fkT (P : Program) (t : TypeId) : Option FK := match P.underlying t with
  | some (.int _) => some .int
  | some .string => some .str
  | some .bool => some .bool
  | _ => none

def flatF (P : Program) : List Field → Nat → Option (List FK)
  | [], _ => some []
  | f :: r, o =>
    if f.name ≠ "_" ∧ f.offset = o then
      match fkT P f.type, flatF P r (o + 1) with
      | some k, some ks => some (k :: ks)
      | _, _ => none
    else none

def flatK (P : Program) (t : TypeId) : Option (List FK) := match P.underlying t with
  | some (.struct fs) => if P.stoodInHeld t = false ∧ P.eqGuardType P.depth t = false then flatF P fs.toList 0 else none
  | _ => none

def fitK : List FK → List C → List C → Bool
  | .int :: ks, .lit (.int .i64 _) :: xs, .lit (.int .i64 _) :: ys => fitK ks xs ys
  | .str :: ks, .lit (.string _) :: xs, .lit (.string _) :: ys => fitK ks xs ys
  | .bool :: ks, .lit (.bool _) :: xs, .lit (.bool _) :: ys => fitK ks xs ys
  | [], [], [] => true
  | _, _, _ => false

theorem eqStep {P : Program} {w : World} {d : Nat} {US VS : Array Value} {f : Field} {r : List Field} {o : Nat} {u v : Value} {b c : Bool} (hn : f.name ≠ "_") (ho : f.offset = o) (hagg : (isAgg f.type).run P w = .ok false w) (hu : US[o]? = some u) (hv : VS[o]? = some v)
    (he : (Op.equalIn (d + 1) f.type u v).run P w = .ok b w) (ih : (Op.eqFields (d + 1) US VS r).run P w = .ok c w) : (Op.eqFields (d + 1) US VS (f :: r)).run P w = .ok (b && c) w := by
  cases b <;> simp [Op.eqFields, hn, part, ho, hagg, hu, hv, he, ih]

theorem drop_get {α : Type} {l : List α} {o : Nat} {u : α} {us : List α} (h : l.drop o = u :: us) : l[o]? = some u ∧ l.drop (o + 1) = us := by
  constructor
  · have := congrArg (fun l => l[0]?) h
    simpa using this
  · have := congrArg List.tail h
    simpa using this

theorem eqFields_run {P : Program} {w : World} {I : Nat → Prop} (d : Nat) {US VS : Array Value} : ∀ (fs : List Field) (o : Nat) (ks : List FK) (xs ys : List C) (us vs : List Value), flatF P fs o = some ks → fitK ks xs ys = true → CReps w I xs us → CReps w I ys vs →
    US.toList.drop o = us → VS.toList.drop o = vs → (Op.eqFields (d + 1) US VS fs).run P w = .ok (litsEq xs ys) w
  | [], o, ks, xs, ys, us, vs, hf, hk, _, _, _, _ => by
    simp only [flatF, Option.some.injEq] at hf
    subst hf
    match xs, ys, hk with
    | [], [], _ => simp [Op.eqFields, litsEq]
  | f :: r, o, ks, xs, ys, us, vs, hf, hk, hx, hy, hu, hv => by
    unfold flatF at hf
    split at hf
    · rename_i hn
      split at hf
      · rename_i k ks' hk1 hk2
        simp only [Option.some.injEq] at hf
        subst hf
        cases k with
        | int =>
          have ht : ∃ k, P.underlying f.type = some (.int k) := by
            unfold fkT at hk1; split at hk1 <;> first | exact ⟨_, by assumption⟩ | cases hk1
          obtain ⟨kk, ht⟩ := ht
          match xs, ys, hk, hx, hy with
          | .lit (.int .i64 a) :: xs, .lit (.int .i64 b) :: ys, hk, .cons h1 hx, .cons h2 hy =>
            cases h1; cases h2
            obtain ⟨u0, u1⟩ := drop_get hu
            obtain ⟨v0, v1⟩ := drop_get hv
            have := eqStep hn.1 hn.2 (by simp [isAgg, run_underlying ht]) (by simpa using u0) (by simpa using v0) (run_equalIn_int w d f.type .i64 kk a b ht) (eqFields_run d r (o + 1) ks' xs ys _ _ hk2 hk hx hy u1 v1)
            simp only [litsEq, cEq]
            exact this
        | str =>
          have ht : P.underlying f.type = some .string := by
            unfold fkT at hk1; split at hk1 <;> first | assumption | cases hk1
          match xs, ys, hk, hx, hy with
          | .lit (.string a) :: xs, .lit (.string b) :: ys, hk, .cons h1 hx, .cons h2 hy =>
            cases h1; cases h2
            obtain ⟨u0, u1⟩ := drop_get hu
            obtain ⟨v0, v1⟩ := drop_get hv
            have := eqStep hn.1 hn.2 (by simp [isAgg, run_underlying ht]) (by simpa using u0) (by simpa using v0) (run_equalIn_string w d f.type a b ht) (eqFields_run d r (o + 1) ks' xs ys _ _ hk2 hk hx hy u1 v1)
            rw [str_beq] at this
            simpa [litsEq, cEq] using this
        | bool =>
          have ht : P.underlying f.type = some .bool := by
            unfold fkT at hk1; split at hk1 <;> first | assumption | cases hk1
          match xs, ys, hk, hx, hy with
          | .lit (.bool a) :: xs, .lit (.bool b) :: ys, hk, .cons h1 hx, .cons h2 hy =>
            cases h1; cases h2
            obtain ⟨u0, u1⟩ := drop_get hu
            obtain ⟨v0, v1⟩ := drop_get hv
            have := eqStep hn.1 hn.2 (by simp [isAgg, run_underlying ht]) (by simpa using u0) (by simpa using v0) (run_equalIn_bool' w d f.type a b ht) (eqFields_run d r (o + 1) ks' xs ys _ _ hk2 hk hx hy u1 v1)
            simpa [litsEq, cEq] using this
      · cases hf
    · cases hf

section aeq
variable {X : Cfg} {o : Oper} {e : Operand → V} {μ : List E} {t ty : TypeId} {x y : Operand} {ks : List FK} {xs ys : List C}

theorem run_flat {w : World} {I : Nat → Prop} {US VS : List Value} (ht : flatK X.P t = some ks) (hk : fitK ks xs ys = true) (hx : CReps w I xs US) (hy : CReps w I ys VS) :
    X.P.eqGuardType X.P.depth t = false ∧ (Op.equalIn 10000 t (.agg US.toArray) (.agg VS.toArray)).run X.P w = .ok (litsEq xs ys) w := by
  unfold flatK at ht
  split at ht
  · rename_i fs hu
    split at ht
    · rename_i hg
      have hfs : X.P.fieldsOf t = fs := by simp [Program.fieldsOf, hu]
      refine ⟨hg.2, ?_⟩
      rw [run_equalIn_struct w 9999 t _ _ (by rw [hfs]; exact hu) hg.1, hfs]
      exact eqFields_run 9998 fs.toList 0 ks xs ys _ _ ht hk hx hy (by simp) (by simp)
    · cases ht
  · cases ht

theorem det_aeql (ho : o.op = .binOp .eql t x y ty) (ht : flatK X.P t = some ks) (hx : e x = .agg xs) (hy : e y = .agg ys) (hk : fitK ks xs ys = true) : Det X o e μ (.c (.lit (.bool (litsEq xs ys)))) μ :=
  det_same fun a w I _ hops => by
    have hxv := hops x (by rw [ho]; simp [Op.operands])
    have hyv := hops y (by rw [ho]; simp [Op.operands])
    rw [hx] at hxv
    rw [hy] at hyv
    obtain ⟨us, h0, hu⟩ := hxv.agg_inv
    obtain ⟨vs, h2, hv⟩ := hyv.agg_inv
    obtain ⟨h3, h4⟩ := run_flat ht hk hu hv
    refine ⟨.bool (litsEq xs ys), ?_, CRep.lit _ rfl⟩
    simp only [execOp, ho, h0, h2, Sem.run_bind, run_eqGuard_agg w _ _ _ _ _ _ h3, run_eql_struct, h4, Result.andThen_ok, Sem.run_pure]

theorem det_aneq (ho : o.op = .binOp .neq t x y ty) (ht : flatK X.P t = some ks) (hx : e x = .agg xs) (hy : e y = .agg ys) (hk : fitK ks xs ys = true) : Det X o e μ (.c (.lit (.bool (!litsEq xs ys)))) μ :=
  det_same fun a w I _ hops => by
    have hxv := hops x (by rw [ho]; simp [Op.operands])
    have hyv := hops y (by rw [ho]; simp [Op.operands])
    rw [hx] at hxv
    rw [hy] at hyv
    obtain ⟨us, h0, hu⟩ := hxv.agg_inv
    obtain ⟨vs, h2, hv⟩ := hyv.agg_inv
    obtain ⟨h3, h4⟩ := run_flat ht hk hu hv
    refine ⟨.bool (!litsEq xs ys), ?_, CRep.lit _ rfl⟩
    simp only [execOp, ho, h0, h2, Sem.run_bind, run_eqGuard_agg w _ _ _ _ _ _ h3, run_neq_struct, h4, Result.andThen_ok, Sem.run_pure]
end aeq

/-! ## Slices of the call's own -/
section own
variable {X : Cfg} {o : Oper} {e : Operand → V} {μ : List E} {t : TypeId}

/-- A slice literal that the call goes on writing. -/
theorem ope_bslice {et : TypeId} {size bytes len : Nat} {zs : List Value} {parts : List (Nat × Operand)} {rows : List (List C)} (ho : o.op = .buildSlice t len parts.toArray) (ht : elemT X.P t = some (et, size, bytes)) (hz : zeroT X.P et = some zs) (hlim : Nat.ble (len * size) 16777216 = true)
    (hidx : idxOk 0 parts = true) (hlen : Nat.beq parts.length len = true) (hrows : rowsOf size (parts.map fun p => e p.2) = some rows) : OpE X o e μ fun r μ' => ∃ sv, r = .c (.lit sv) ∧ μ' = .vec sv et size rows :: μ := by
  intro a w I hH hops K Q k
  obtain ⟨us, hrun, hc, hul⟩ := run_bslice (X := X) (I := I) ho ht hz hlim hidx hlen hrows hops
  have hl : parts.length = len := Nat.eq_of_beq_eq_true hlen
  obtain ⟨hrl, hrs⟩ := rowsOf_len hrows
  simp only [List.length_map] at hrl
  obtain ⟨_, _, _, _, _, _, _, _, hpos⟩ := elemT_parts ht
  have hlr : len = rows.length := by omega
  have hmax : len ≤ maxLen := by
    have h1 := Nat.le_of_ble_eq_true hlim
    have h2 : len * 1 ≤ len * size := Nat.mul_le_mul_left _ hpos
    simp only [maxLen]; omega
  subst hlr
  have hold : ∀ b, b < w.heap.size → (w.alloc (.cells us.toArray et)).heap[b]? = w.heap[b]? := fun b hb => Below.heap_alloc w _ b hb
  have hrep : ERep (w.alloc (.cells us.toArray et)) I (.vec (.slice (some ⟨w.heap.size, 0, none⟩) rows.length rows.length) et size rows) :=
    vec_of_owns (xs := us) ⟨hul, .inr ⟨w.heap.size, rows.length, us.toArray, rfl, Nat.zero_le _, heap_alloc_new w _, Nat.le_refl _, hmax, by simpa using hul, by simp [← hul]⟩⟩ (hc.mono (fun b hb => hold b (hH.imm b hb)) fun _ h => h) hrs
  cases hn : rows.length with
  | zero =>
    rw [hn] at hrep hrun
    obtain ⟨h1, h2⟩ := fresh_alloc hH (.cells us.toArray et) (.row w.heap.size et (us.map .lit)) rfl trivial ⟨us, heap_alloc_new w _, CReps.lits us hc.one⟩
    have h1' : Heap X (w.alloc (.cells us.toArray et)) I μ := h1.tail
    have e0 : blocksOf (.vec (.slice (some ⟨w.heap.size, 0, none⟩) 0 0) et size rows :: μ) = blocksOf μ := by simp [blocksOf, E.blocks, svB]
    refine wp_value hrun (k _ _ _ I _ ⟨_, rfl, rfl⟩ (CRep.lit _ rfl) ⟨h1'.lo, h1'.glob, by rw [e0]; exact h1'.nodup, fun b hb => h1'.own b (by rw [← e0]; exact hb), h1'.imm, fun en hen => ?_, fun en hen => ?_⟩ (h2.less fun b hb => by rw [e0] at hb; rw [blocksOf_cons]; exact List.mem_append.2 (.inr hb)))
    · rcases List.mem_cons.1 hen with rfl | h
      · exact hrep
      · exact h1'.rep en h
    · rcases List.mem_cons.1 hen with rfl | h
      · trivial
      · exact h1'.mono en h
  | succ n =>
    rw [hn] at hrep hrun
    obtain ⟨h1, h2⟩ := fresh_alloc hH (.cells us.toArray et) (.vec (.slice (some ⟨w.heap.size, 0, none⟩) (n + 1) (n + 1)) et size rows) rfl trivial hrep
    exact wp_value hrun (k _ _ _ I _ ⟨_, rfl, rfl⟩ (CRep.lit _ rfl) h1 h2)

/-- 's[:0:0]' -/
theorem ope_cut0 {et : TypeId} {size bytes : Nat} {rows : List (List C)} {x hi mx : Operand} (ho : o.op = .slice t x none (some hi) (some mx)) (ht : elemT X.P t = some (et, size, bytes)) (hx : e x = .c (.sl size rows))
    (h1 : e hi = .c (.lit (.int .i64 0))) (h2 : e mx = .c (.lit (.int .i64 0))) : OpE X o e μ fun r μ' => ∃ sv, r = .c (.lit sv) ∧ μ' = .vec sv et size [] :: μ := by
  intro a w I hH hops K Q k
  obtain ⟨hu, inf, z, hinf, hz, hs, hby, hzs, hpos⟩ := elemT_parts ht
  have hxv := hops x (by rw [ho]; simp [Op.operands])
  have hhv := hops hi (by rw [ho]; simp [Op.operands])
  have hmv := hops mx (by rw [ho]; simp [Op.operands])
  rw [hx] at hxv
  rw [h1] at hhv
  rw [h2] at hmv
  have e1 := hhv.lit_inv
  have e2 := hmv.lit_inv
  have hxv' : CRep w I (.sl size rows) (a.eval x) := hxv
  obtain ⟨ad, n, cap, hv⟩ : ∃ ad n cap, a.eval x = .slice ad n cap := by
    generalize a.eval x = v at hxv'
    cases hxv' with
    | nil _ ad cap => exact ⟨ad, 0, cap, rfl⟩
    | sl _ _ ad cap us hI hl' hcap hc hr => exact ⟨some ad, rows.length, cap, rfl⟩
  have hrun : (execOp a.eval o).run X.P w = .ok (.value (.slice ad 0 0)) w := by
    have hb : ∀ m code, (Instr.sliceBound (.int .i64 0) m code).run X.P w = .ok 0 w := fun m code => by simp [Instr.sliceBound, asIntOf]
    simp [execOp, ho, hv, e1, e2, Instr.sliceAt, Instr.slice, run_underlying hu, Instr.sliceBounds, hb, sizeOf, typeInfo, hinf]
  have e0 : blocksOf (.vec (.slice ad 0 0) et size [] :: μ) = blocksOf μ := by cases ad <;> simp [blocksOf, E.blocks, svB]
  refine wp_value hrun (k _ _ _ I w ⟨_, rfl, rfl⟩ (CRep.lit _ rfl) ⟨hH.lo, hH.glob, by rw [e0]; exact hH.nodup, fun b hb => hH.own b (by rw [← e0]; exact hb), hH.imm, fun en hen => ?_, fun en hen => ?_⟩ ((Ext.refl _ _ _).less fun b hb => by rw [e0] at hb; exact hb))
  · rcases List.mem_cons.1 hen with rfl | h
    · exact .inl ⟨ad, rfl, rfl⟩
    · exact hH.rep en h
  · rcases List.mem_cons.1 hen with rfl | h
    · trivial
    · exact hH.mono en h

/-- The function returns a slice of its own that nobody else knows. -/
abbrev OwnR (X : Cfg) (f : FuncId) (args : List V) (et : TypeId) (size : Nat) (rows : List (List C)) : Prop := Con X f args [] fun r μ' => ∃ sv, r = .c (.lit sv) ∧ μ' = [.vec sv et size rows]

theorem ope_call_own {f : FuncId} {as : List Operand} {ts : Array TypeId} {args : List V} {et : TypeId} {size : Nat} {rows : List (List C)} (ho : o.op = .call { callee := .value (.func f), args := as.toArray, argTypes := ts }) (hf : callOk X.P f = true) (hc : OwnR X f args et size rows) (ha : vles (as.map e) args) :
    OpE X o e μ fun r μ' => ∃ sv, r = .c (.lit sv) ∧ μ' = .vec sv et size rows :: μ :=
  (ope_call ho hf (hc.frame μ) ha).mono fun r μ' ⟨_, ⟨sv, h1, h2⟩, h3⟩ => ⟨sv, h1, by rw [h3, h2]; rfl⟩

/-- The same, the slice left alone from then on. -/
theorem OwnR.pur {f : FuncId} {args : List V} {et : TypeId} {size : Nat} {rows : List (List C)} (h : OwnR X f args et size rows) : Pur X f args (.c (.sl size rows)) := by
  intro w I vs hH ha
  refine (h w I vs hH ha).mono ?_
  rintro en w' ⟨v, r, μ', I', rfl, ⟨sv, rfl, rfl⟩, hv, hH', x⟩
  have hrep := hH'.rep _ (List.mem_singleton.2 rfl)
  have e1 : v = sv := hv.lit_inv
  subst e1
  refine ⟨v, _, [], fun b => I' b ∨ b ∈ (E.vec v et size rows).blocks, rfl, rfl, ?_, ?_, ?_⟩
  · exact vec_sl (hrep.mono (w' := w') trivial (fun _ _ => rfl) (fun b h => .inl h) fun _ _ => rfl) fun b hb => .inr hb
  · refine ⟨hH'.lo, hH'.glob, by simp [blocksOf], fun b hb => by simp [blocksOf] at hb, ?_, fun en hen => by simp at hen, fun en hen => by simp at hen⟩
    rintro b (h | h)
    · exact hH'.imm b h
    · exact hrep.lt h
  · refine ⟨x.os, x.tape, x.output, x.size, x.block, fun b h => .inl (x.imm b h), ?_, fun b h => by simp [blocksOf] at h⟩
    rintro b (h | h)
    · exact x.imm' b h
    · rcases x.own' b (mem_blocksOf (List.mem_singleton.2 rfl) h) with h | h
      · simp [blocksOf] at h
      · exact .inr (.inr h)
end own

/-! ## Leaving a slice alone to which other memory points -/

structure EFle (sv : Value) (size : Nat) (rows : List (List C)) (e e' : E) : Prop where
  blocks : e'.blocks = e.blocks
  mono : e.Mono → e'.Mono
  rep : ∀ w I, CRep w I (.sl size rows) sv → ERep w I e → ERep w I e'

section efle
variable {sv : Value} {size : Nat} {rows : List (List C)}

theorem EFle.refl (e : E) : EFle sv size rows e e := ⟨rfl, fun h => h, fun _ _ _ h => h⟩

theorem EFle.row {b : Nat} {t : TypeId} {cs ds : List C} (h : cfle sv size rows cs ds) : EFle sv size rows (.row b t cs) (.row b t ds) :=
  ⟨rfl, fun _ => trivial, fun _ _ hs ⟨vs, h1, h2⟩ => ⟨vs, h1, cfle_reps hs h h2⟩⟩

theorem cfle_length {xs ys : List C} (h : cfle sv size rows xs ys) : ys.length = xs.length := by
  induction xs generalizing ys with
  | nil => cases ys with
    | nil => rfl
    | cons y ys => exact h.elim
  | cons x xs ih => cases ys with
    | nil => exact h.elim
    | cons y ys => simp [ih h.2]

theorem cfle_refl (xs : List C) : cfle sv size rows xs xs := by
  induction xs with
  | nil => trivial
  | cons x xs ih => exact ⟨.inl rfl, ih⟩

theorem cfle_append {xs ys xs' ys' : List C} (h : cfle sv size rows xs ys) (k : cfle sv size rows xs' ys') : cfle sv size rows (xs ++ xs') (ys ++ ys') := by
  induction xs generalizing ys with
  | nil => cases ys with
    | nil => exact k
    | cons y ys => exact h.elim
  | cons x xs ih => cases ys with
    | nil => exact h.elim
    | cons y ys => exact ⟨h.1, ih h.2⟩

theorem flat_cfle {R : List (List C)} {i : Nat} {r r' : List C} (hi : R[i]? = some r) (h : cfle sv size rows r r') : cfle sv size rows R.flatten (R.set i r').flatten := by
  induction R generalizing i with
  | nil => simp at hi
  | cons q R ih =>
    cases i with
    | zero =>
      simp at hi; subst hi
      simpa using cfle_append h (cfle_refl R.flatten)
    | succ i => simpa using cfle_append (cfle_refl q) (ih (by simpa using hi))

/-- One row of a slice of the call's own points to it. -/
theorem EFle.vec {s : Value} {t : TypeId} {n i : Nat} {R : List (List C)} {r r' : List C} (hi : R[i]? = some r) (h : cfle sv size rows r r') : EFle sv size rows (.vec s t n R) (.vec s t n (R.set i r')) := by
  refine ⟨rfl, fun _ => trivial, fun w I hs k => ?_⟩
  rcases k with ⟨_, _, rfl⟩ | ⟨h1, xs, h2, h3, h4⟩
  · simp at hi
  · refine .inr ⟨h1, xs, by rw [List.length_set]; exact h2, cfle_reps hs (flat_cfle hi h) h3, fun q hq => ?_⟩
    rcases List.mem_or_eq_of_mem_set hq with h | h
    · exact h4 q h
    · subst h; rw [cfle_length ‹_›]; exact h4 r (List.mem_of_getElem? hi)

def efles (sv : Value) (size : Nat) (rows : List (List C)) : List E → List E → Prop
  | [], [] => True
  | e :: es, e' :: es' => EFle sv size rows e e' ∧ efles sv size rows es es'
  | _, _ => False

theorem efles_blocks : ∀ {μ μ' : List E}, efles sv size rows μ μ' → blocksOf μ' = blocksOf μ
  | [], [], _ => rfl
  | _ :: _, _ :: _, h => by rw [blocksOf_cons, blocksOf_cons, h.1.blocks, efles_blocks h.2]
  | [], _ :: _, h => h.elim
  | _ :: _, [], h => h.elim

theorem efles_mem : ∀ {μ μ' : List E}, efles sv size rows μ μ' → ∀ e', e' ∈ μ' → ∃ e, e ∈ μ ∧ EFle sv size rows e e'
  | [], [], _, _, h => by simp at h
  | e :: _, _ :: _, h, e', hm => by
    rcases List.mem_cons.1 hm with rfl | hm
    · exact ⟨e, by simp, h.1⟩
    · obtain ⟨e0, h1, h2⟩ := efles_mem h.2 e' hm
      exact ⟨e0, by simp [h1], h2⟩
  | [], _ :: _, h, _, _ => h.elim
  | _ :: _, [], h, _, _ => h.elim

def fles (sv : Value) (size : Nat) (rows : List (List C)) (regs : List (Nat × V)) : List (Nat × V) → Prop
  | [] => True
  | (t, y) :: r => FLe sv size rows (look regs t) y ∧ fles sv size rows regs r

theorem fles_rep {regs : List (Nat × V)} {w : World} {I : Nat → Prop} {a : Act} (hs : CRep w I (.sl size rows) sv) (hR : ∀ t, VRep w I (look regs t) (a.tmps.getD t undef)) : ∀ {r : List (Nat × V)}, fles sv size rows regs r → ∀ t, VRep w I (look (r ++ regs) t) (a.tmps.getD t undef)
  | [], _, t => hR t
  | (s, y) :: r, h, t => by
    rw [List.cons_append, look_putR]
    split
    · rename_i e; subst e; exact h.1 w I _ hs (hR s)
    · exact fles_rep hs hR h.2 t

theorem weak_freezeM {regs regs' : List (Nat × V)} {μ μ' : List E} {et : TypeId} (p : Nat) (hp : nth μ p = some (.vec sv et size rows)) (hr : fles sv size rows regs regs') (hμ : efles sv size rows (delN μ p) μ') : Weak ⟨regs, μ⟩ ⟨regs' ++ regs, μ'⟩ := by
  intro X n z a w ⟨I, hH, hR, hx, hd, hs⟩
  have pm := nth_perm hp
  have h1 : Heap X w I ([E.vec sv et size rows] ++ delN μ p) := hH.perm pm
  have hrep := hH.rep _ (nth_mem hp)
  let I' : Nat → Prop := fun b => I b ∨ b ∈ (E.vec sv et size rows).blocks
  have hII : ∀ b, I b → I' b := fun b h => .inl h
  have hsl : CRep w I' (.sl size rows) sv := vec_sl (hrep.mono (w' := w) (I' := I') trivial (fun _ _ => rfl) hII fun _ _ => rfl) fun b hb => .inr hb
  have hn := h1.nodup
  rw [blocksOf_append] at hn
  obtain ⟨_, hn2, hn3⟩ := List.nodup_append.1 hn
  have hb1 : blocksOf [E.vec sv et size rows] = (E.vec sv et size rows).blocks := by simp [blocksOf]
  have hmem : ∀ b, b ∈ blocksOf (delN μ p) → b ∈ blocksOf μ := fun b hb => (blocksOf_perm pm).mem_iff.2 (by rw [blocksOf_cons]; exact List.mem_append.2 (.inr hb))
  have hbs := efles_blocks hμ
  refine ⟨I', ⟨hH.lo, hH.glob, by rw [hbs]; exact hn2, fun b hb => ?_, ?_, fun en hen => ?_, fun en hen => ?_⟩, ?_, ?_, hd, hs⟩
  · rw [hbs] at hb
    refine ⟨(hH.own b (hmem b hb)).1, ?_⟩
    rintro (h | h)
    · exact (hH.own b (hmem b hb)).2 h
    · exact hn3 b (by rw [hb1]; exact h) b hb rfl
  · rintro b (h | h)
    · exact hH.imm b h
    · exact hrep.lt h
  · obtain ⟨e0, h0, hf⟩ := efles_mem hμ en hen
    have hm : e0 ∈ μ := pm.mem_iff.2 (List.mem_cons_of_mem _ h0)
    exact hf.rep w I' hsl ((hH.rep e0 hm).mono (hH.mono e0 hm) (fun _ _ => rfl) hII fun _ _ => rfl)
  · obtain ⟨e0, h0, hf⟩ := efles_mem hμ en hen
    exact hf.mono (hH.mono e0 (pm.mem_iff.2 (List.mem_cons_of_mem _ h0)))
  · exact fles_rep hsl (fun t => (hR t).mono (fun _ _ => rfl) hII) hr
  · refine ⟨hx.os, hx.tape, hx.output, hx.size, hx.block, fun b h => .inl (hx.imm b h), fun b hb => ?_, fun b hb => hx.own' b (hmem b (by rw [← hbs]; exact hb))⟩
    rcases hb with h | h
    · exact hx.imm' b h
    · rcases hx.own' b (mem_blocksOf (nth_mem hp) h) with h' | h'
      · exact .inr (.inl h')
      · exact .inr (.inr h')
end efle

/-! ## Leaving a variable alone -/

theorem row_iptr {w : World} {I : Nat → Prop} {b : Nat} {t : TypeId} {cells : List C} (h : ERep w I (.row b t cells)) (hI : I b) : CRep w I (.iptr cells) (.pointer (some ⟨b, 0, none⟩)) := by
  obtain ⟨vs, hh, hc⟩ := h
  refine .iptr cells ⟨b, 0, none⟩ (fun j => (vs[j]?).getD undef) hI (fun j hj => ?_) (fun j c hj => ?_)
  · rw [add_none, Nat.zero_add, cell_of_row w b j vs.toArray t (0, 0) hh]
    have : j < vs.length := by rw [← hc.length]; exact hj
    simp [this]
  · obtain ⟨v, hv, hr⟩ := hc.at_ hj
    simp only [hv, Option.getD_some]
    exact hr

/-- x may be read as y where the variable b is left alone. -/
def PLe (b : Nat) (cells : List C) (x y : V) : Prop := ∀ w I v, CRep w I (.iptr cells) (.pointer (some ⟨b, 0, none⟩)) → VRep w I x v → VRep w I y v

theorem PLe.ptr {b : Nat} {cells : List C} : PLe b cells (.c (.lit (.pointer (some ⟨b, 0, none⟩)))) (.c (.iptr cells)) := by
  intro w I v h hv
  rw [hv.lit_inv]
  exact h

def pcfle (b : Nat) (cells : List C) : List C → List C → Prop
  | [], [] => True
  | x :: xs, y :: ys => (x = y ∨ (x = .lit (.pointer (some ⟨b, 0, none⟩)) ∧ y = .iptr cells)) ∧ pcfle b cells xs ys
  | _, _ => False

theorem pcfle_reps {b : Nat} {cells : List C} {w : World} {I : Nat → Prop} (h : CRep w I (.iptr cells) (.pointer (some ⟨b, 0, none⟩))) : ∀ {xs ys : List C} {vs : List Value}, pcfle b cells xs ys → CReps w I xs vs → CReps w I ys vs
  | [], [], _, _, k => k
  | x :: xs, y :: ys, _, hc, .cons hd tl => by
    refine .cons ?_ (pcfle_reps h hc.2 tl)
    rcases hc.1 with rfl | ⟨rfl, rfl⟩
    · exact hd
    · cases hd; exact h
  | [], _ :: _, _, h, _ => h.elim
  | _ :: _, [], _, h, _ => h.elim

theorem PLe.fn {b : Nat} {cells : List C} {f : Fn} {fs xs ys : List C} (h : pcfle b cells xs ys) : PLe b cells (.c (.fn f fs xs)) (.c (.fn f fs ys)) := by
  intro w I v hp hv
  have hv' : CRep w I (.fn f fs xs) v := hv
  cases hv' with
  | fn _ _ _ us vs h1 h2 hr1 hr2 =>
    have k := pcfle_reps hp h (CReps.of_at h2.symm hr2)
    exact CRep.fn f fs ys us vs h1 k.length.symm hr1 (fun j c u hc hu => by
      obtain ⟨u', hu', hr⟩ := k.at_ hc
      rw [hu] at hu'; cases hu'; exact hr)

/-- From now on the variable is left alone. -/
theorem weak_freeze_row {regs : List (Nat × V)} {μ : List E} {b : Nat} {ty : TypeId} {cells : List C} (p : Nat) (hp : nth μ p = some (.row b ty cells)) (t : Nat) (y : V) (hy : PLe b cells (look regs t) y) : Weak ⟨regs, μ⟩ ⟨(t, y) :: regs, delN μ p⟩ := by
  intro X n z a w ⟨I, hH, hR, hx, hd, hs⟩
  have pm := nth_perm hp
  have h1 : Heap X w I ([E.row b ty cells] ++ delN μ p) := hH.perm pm
  have hrep := hH.rep _ (nth_mem hp)
  let I' : Nat → Prop := fun k => I k ∨ k ∈ (E.row b ty cells).blocks
  have hII : ∀ b, I b → I' b := fun b h => .inl h
  have hsl : CRep w I' (.iptr cells) (.pointer (some ⟨b, 0, none⟩)) := row_iptr (hrep.mono (w' := w) (I' := I') trivial (fun _ _ => rfl) hII fun _ _ => rfl) (.inr (by simp [E.blocks]))
  have hn := h1.nodup
  rw [blocksOf_append] at hn
  obtain ⟨_, hn2, hn3⟩ := List.nodup_append.1 hn
  have hb1 : blocksOf [E.row b ty cells] = (E.row b ty cells).blocks := by simp [blocksOf]
  have hmem : ∀ b, b ∈ blocksOf (delN μ p) → b ∈ blocksOf μ := fun b hb => (blocksOf_perm pm).mem_iff.2 (by rw [blocksOf_cons]; exact List.mem_append.2 (.inr hb))
  refine ⟨I', ⟨hH.lo, hH.glob, hn2, fun b hb => ⟨(hH.own b (hmem b hb)).1, ?_⟩, ?_, fun en hen => ?_, fun en hen => ?_⟩, fun t' => ?_, ?_, hd, hs⟩
  · rintro (h | h)
    · exact (hH.own b (hmem b hb)).2 h
    · exact hn3 b (by rw [hb1]; exact h) b hb rfl
  · rintro b (h | h)
    · exact hH.imm b h
    · exact hrep.lt h
  · have hm : en ∈ μ := pm.mem_iff.2 (List.mem_cons_of_mem _ hen)
    exact (hH.rep en hm).mono (hH.mono en hm) (fun _ _ => rfl) hII fun _ _ => rfl
  · exact hH.mono en (pm.mem_iff.2 (List.mem_cons_of_mem _ hen))
  · have hold : VRep w I' (look regs t') (a.tmps.getD t' undef) := (hR t').mono (fun _ _ => rfl) hII
    show VRep w I' (look ((t, y) :: regs) t') _
    rw [look_putR]
    split
    · rename_i e; subst e; exact hy w I' _ hsl hold
    · exact hold
  · refine ⟨hx.os, hx.tape, hx.output, hx.size, hx.block, fun b h => .inl (hx.imm b h), fun b hb => ?_, fun b hb => hx.own' b (hmem b hb)⟩
    rcases hb with h | h
    · exact hx.imm' b h
    · rcases hx.own' b (mem_blocksOf (nth_mem hp) h) with h' | h'
      · exact .inr (.inl h')
      · exact .inr (.inr h')

/-! ## More operators -/
section ops2
variable {X : Cfg} {o : Oper} {e : Operand → V} {μ : List E} {t ty : TypeId} {x y : Operand}
theorem det_sgeq {a b : ByteArray} (ho : o.op = .binOp .geq t x y ty) (hx : e x = .c (.lit (.string a))) (hy : e y = .c (.lit (.string b))) : Det X o e μ (.c (.lit (.bool (!strLt a b)))) μ := det_bin ho hx hy (fun w => by simp only [eqGuard, binOp, Op.stringOp]; rfl) rfl
theorem det_sleq {a b : ByteArray} (ho : o.op = .binOp .leq t x y ty) (hx : e x = .c (.lit (.string a))) (hy : e y = .c (.lit (.string b))) : Det X o e μ (.c (.lit (.bool (strLt a b || decide (a = b))))) μ := det_bin ho hx hy (fun w => by simp only [eqGuard, binOp, Op.stringOp, str_beq]; rfl) rfl
theorem det_shl {k k' : IntKind} {a b : Int} (ho : o.op = .binOp .shl t x y ty) (hx : e x = .c (.lit (.int k a))) (hy : e y = .c (.lit (.int k' b))) (h0 : 0 ≤ b) : Det X o e μ (.c (.lit (.int k (k.wrap (a * 2 ^ (min b.toNat k.bits)))))) μ :=
  det_bin ho hx hy (fun w => by
    have : ¬ b < 0 := by omega
    simp [eqGuard, binOp, Op.shift, this]) rfl
theorem det_shr {k k' : IntKind} {a b : Int} (ho : o.op = .binOp .shr t x y ty) (hx : e x = .c (.lit (.int k a))) (hy : e y = .c (.lit (.int k' b))) (h0 : 0 ≤ b) : Det X o e μ (.c (.lit (.int k (a.fdiv (2 ^ (min b.toNat k.bits)))))) μ :=
  det_bin ho hx hy (fun w => by
    have : ¬ b < 0 := by omega
    simp [eqGuard, binOp, Op.shift, this]) rfl
theorem det_bits {op : BinOp} {k : IntKind} {a b : Int} {r : Value} (ho : o.op = .binOp op t x y ty) (hop : op = .and ∨ op = .or ∨ op = .xor) (hx : e x = .c (.lit (.int k a))) (hy : e y = .c (.lit (.int k b))) (hr : ∀ (P : Program) w, (Op.intBits op k a b).run P w = .ok r w) (h1 : r.oneCell' = true) : Det X o e μ (.c (.lit r)) μ :=
  det_bin ho hx hy (fun w => by rcases hop with rfl | rfl | rfl <;> simp [eqGuard, binOp, hr]) h1
theorem run_equalIn_fn_nil {P : Program} {w : World} {d : Nat} {t : TypeId} {f : Fn} {us vs : Array Value} {ps rs : Array TypeId} {vd : Bool} (ht : P.underlying t = some (.func ps rs vd)) : (Op.equalIn (d + 1) t (.func f us vs) .nilFunc).run P w = .ok false w := by
  simp [Op.equalIn, run_underlying ht]
/-- A function value held against nil. -/
theorem det_fn_nil {f : Fn} {first cap : List C} {u : Value} (ho : o.op = .binOp .eql t x y ty) (hu : u = .nilFunc) {ps : Array TypeId} {rs : Array TypeId} {vd : Bool} (ht : X.P.underlying t = some (.func ps rs vd)) (hx : e x = .c (.fn f first cap)) (hy : e y = .c (.lit u)) : Det X o e μ (.c (.lit (.bool false))) μ :=
  det_same fun a w I _ hops => by
    subst hu
    have hxv := hops x (by rw [ho]; simp [Op.operands])
    have hyv := hops y (by rw [ho]; simp [Op.operands])
    rw [hx] at hxv
    rw [hy] at hyv
    have h2 := hyv.lit_inv
    have hxv' : CRep w I (.fn f first cap) (a.eval x) := hxv
    obtain ⟨us, vs, h0⟩ : ∃ us vs, a.eval x = .func f us vs := by
      generalize a.eval x = v at hxv'
      cases hxv' with
      | fn _ _ _ us vs _ _ _ _ => exact ⟨_, _, rfl⟩
    refine ⟨.bool false, ?_, CRep.lit _ rfl⟩
    have h3 : (Op.equalIn 10000 t (.func f us vs) .nilFunc).run X.P w = .ok false w := run_equalIn_fn_nil (d := 9999) ht
    have h4 : (binOp .eql t (.func f us vs) .nilFunc).run X.P w = .ok (.bool false) w := by simp only [binOp]; simp [Op.equal, Op.maxDepth, h3]
    have h5 : (eqGuard .eql t x y (.func f us vs) .nilFunc).run X.P w = .ok () w := by simp [eqGuard]
    simp only [execOp, ho, h0, h2, Sem.run_bind, h5, h4, Result.andThen_ok, Sem.run_pure]
end ops2

/-! ## Weaker ends; ranges over functions with named memory -/

theorem awp_wk {X : Cfg} {n : Nat} {z : Z} {c : Code} {Q : Exit → S → Prop} {σ : S} (h : AWP X n z c (fun e σ => ∃ τ, Weak σ τ ∧ Q e τ) σ) : AWP X n z c Q σ := by
  intro z1 hz1 a w s
  refine wpIn_mono (h z1 hz1 a w s) ?_
  rintro e a' w' ⟨z2, σ', hz2, ⟨τ, hw, q⟩, s'⟩
  exact ⟨z2, τ, hz2, q, hw _ _ _ _ _ s'⟩

theorem rwp_weak {X : Cfg} {n : Nat} {z : Z} {Q : Exit → S → Prop} {σ : S} {ops : Array Oper} {l : List Oper} (τ : S) (h : Weak σ τ) (k : RWP X n z ops l Q τ) : RWP X n z ops l Q σ :=
  fun hall z1 hz1 a w s => k hall z1 hz1 a w (h X n z1 a w s)

def roundK {α : Type} (inv : List α → Prop) (hμ : List α → List E) (invx : Code → List α → Prop) (hμx : Code → List α → List E) (bμ : List E) (pre : List α) : Exit → S → Prop
  | .normal, τ => inv pre ∧ τ.μ = hμ pre ++ bμ
  | .ret, τ => invx .ret pre ∧ τ.μ = hμx .ret pre ++ bμ
  | .exit i, τ => invx (.exit i) pre ∧ τ.μ = hμx (.exit i) pre ++ bμ
  | _, _ => False

theorem round_fin {P : Exit → S → Prop} {e : Exit} {σ τ : S} (h : Weak σ τ) (k : P e τ) : ∃ τ', Weak σ τ' ∧ P e τ' := ⟨τ, h, k⟩

theorem awp_range_k {α : Type} {X : Cfg} {n : Nat} {z : Z} (hz : RdOk z) {Q : Exit → S → Prop} {regs : List (Nat × V)} {μ bμ : List E} {g : Operand} {ps : List Tmp} {assign body : Code} {gf : FuncId} {first cap : List C} (kμ : Nat) (_hm : dropN kμ μ = some bμ)
    (hg : ev regs g = .c (.fn (.func gf) first cap)) (hgf : callOk X.P gf = true) {xs : List α} {enc : α → List V} (hit : Iter X gf first cap xs enc) (hps : ∀ x, x ∈ xs → ps.length = (enc x).length) (hpn : ps.all (fun t => Nat.blt t n) = true)
    (inv : List α → Prop) (hμ : List α → List E) (invx : Code → List α → Prop) (hμx : Code → List α → List E) (h0 : inv [] ∧ μ = hμ [] ++ bμ)
    (hround : ∀ pre x suf, xs = pre ++ x :: suf → inv pre → ∀ z, RdOk z → AWP X n z assign (thenQ (fun τ => ∀ z, RdOk z → AWP X n z body (fun e σ => ∃ τ', Weak σ τ' ∧ roundK inv hμ invx hμx bμ (pre ++ [x]) e τ') τ) fun _ _ => False) ⟨psetR ps (enc x) regs, hμ pre ++ bμ⟩)
    (hdone : inv xs → Q .normal ⟨regs, hμ xs ++ bμ⟩)
    (hret : ∀ pre x suf, xs = pre ++ x :: suf → invx .ret (pre ++ [x]) → Q .ret ⟨regs, hμx .ret (pre ++ [x]) ++ bμ⟩)
    (hexit : ∀ i pre x suf, xs = pre ++ x :: suf → invx (.exit i) (pre ++ [x]) → Q (.exit i) ⟨regs, hμx (.exit i) (pre ++ [x]) ++ bμ⟩) :
    AWP X n z (.rangeFunc g ps.toArray assign body) Q ⟨regs, μ⟩ := by
  refine awp_rangeFunc hz hg hgf hit hps hpn (fun pre μ' => inv pre ∧ μ' = hμ pre ++ bμ) (fun c pre μ' => invx c pre ∧ μ' = hμx c pre ++ bμ) h0 ?_ ?_ ?_ ?_
  · rintro l pre x suf μ' hxs ⟨hi, rfl⟩ z1 hz1 _ _
    refine awp_mono (hround pre x suf hxs hi z1 hz1) ?_
    intro e σ q
    cases e with
    | normal =>
      intro z2 hz2 _ _
      refine awp_mono (awp_wk (Q := roundK inv hμ invx hμx bμ (pre ++ [x])) (q z2 hz2)) ?_
      intro e τ k
      cases e <;> exact k
    | _ => exact q
  · rintro μ' ⟨hi, rfl⟩; exact hdone hi
  · rintro pre x suf μ' hxs ⟨hi, rfl⟩; exact hret pre x suf hxs hi
  · rintro i pre x suf μ' hxs ⟨hi, rfl⟩; exact hexit i pre x suf hxs hi

/-! ## Nil slices -/

theorem VLe.nil {n : Nat} : VLe (.c (.lit (.slice none 0 0))) (.c (.sl n [])) := by
  intro w I v h
  rw [h.lit_inv]
  exact CRep.nil n none 0

/-- The nil slices among the cells, read as empty lists. -/
def unN : List (Option Nat) → List C → List C
  | some n :: m, _ :: r => .sl n [] :: unN m r
  | none :: m, c :: r => c :: unN m r
  | _, r => r

def isNil : C → Bool
  | .lit (.slice none 0 0) => true
  | _ => false

def okN : List (Option Nat) → List C → Bool
  | some _ :: m, c :: r => isNil c && okN m r
  | none :: m, _ :: r => okN m r
  | _, _ => true

theorem isNil_eq {c : C} (h : isNil c = true) : c = .lit (.slice none 0 0) := by
  unfold isNil at h
  split at h
  · rfl
  · cases h

theorem unN_reps {w : World} {I : Nat → Prop} : ∀ {m : List (Option Nat)} {cs : List C} {vs : List Value}, okN m cs = true → CReps w I cs vs → CReps w I (unN m cs) vs
  | some n :: m, c :: r, _, h, .cons hd tl => by
    simp only [okN, Bool.and_eq_true] at h
    rw [isNil_eq h.1] at hd
    cases hd
    exact .cons (.nil n none 0) (unN_reps h.2 tl)
  | none :: m, c :: r, _, h, .cons hd tl => .cons hd (unN_reps (m := m) h tl)
  | [], [], _, _, k => k
  | [], _ :: _, _, _, k => k
  | some _ :: _, [], _, _, k => k
  | none :: _, [], _, _, k => k

theorem VLe.nils {m : List (Option Nat)} {cs : List C} (h : okN m cs = true) : VLe (.agg cs) (.agg (unN m cs)) := by
  intro w I v hv
  obtain ⟨vs, rfl, hc⟩ := hv.agg_inv
  exact ⟨vs, rfl, unN_reps h hc⟩

theorem Det.weaken {X : Cfg} {o : Oper} {e : Operand → V} {μ μ' : List E} {r r' : V} (h : Det X o e μ r μ') (hle : VLe r r') : Det X o e μ r' μ' := by
  intro a w I hH hops K Q k
  refine h a w I hH hops K Q ?_
  rintro v _ _ I' w' ⟨rfl, rfl⟩ hv hH' x
  exact k v _ _ I' w' ⟨rfl, rfl⟩ (hle _ _ _ hv) hH' x

section
variable {X : Cfg} {o : Oper} {e : Operand → V} {μ : List E} {t : TypeId}
theorem det_buildN (m : List (Option Nat)) {zs : List Value} {ps : List (Nat × Nat)} {parts : List (Nat × Operand)} {cells : List C} (ho : o.op = .build t parts.toArray) (hz : zeroT X.P t = some zs) (hp : placesT X.P t = some ps) (hf : afill (nth ps) (zs.map .lit) (parts.map fun p => (p.1, e p.2)) = some cells) (hok : okN m cells = true) :
    Det X o e μ (.agg (unN m cells)) μ := (det_build ho hz hp hf).weaken (VLe.nils hok)
theorem det_assignN (n : Nat) {x : Operand} (ho : o.op = .assign x) (hx : e x = .c (.lit (.slice none 0 0))) : Det X o e μ (.c (.sl n [])) μ := (det_assign ho hx).weaken VLe.nil
theorem det_moveN (n : Nat) {x : Operand} (ho : o.op = .move x) (hx : e x = .c (.lit (.slice none 0 0))) : Det X o e μ (.c (.sl n [])) μ := (det_move ho hx).weaken VLe.nil

theorem row_unN {w : World} {I : Nat → Prop} {b : Nat} {m : List (Option Nat)} {cs : List C} (h : okN m cs = true) (k : ERep w I (.row b t cs)) : ERep w I (.row b t (unN m cs)) := by
  obtain ⟨vs, h1, h2⟩ := k
  exact ⟨vs, h1, unN_reps h h2⟩

theorem ope_allocN (m : List (Option Nat)) {zs : List Value} (ho : o.op = .alloc t) (hz : zeroT X.P t = some zs) (hok : okN m (zs.map .lit) = true) : OpE X o e μ fun r μ' => ∃ b, r = .c (.lit (.pointer (some ⟨b, 0, none⟩))) ∧ μ' = .row b t (unN m (zs.map .lit)) :: μ := by
  intro a w I hH hops K Q k
  refine ope_alloc (μ := μ) ho hz a w I hH hops K Q ?_
  rintro v r μ' I' w' ⟨b, rfl, rfl⟩ hv hH' x
  refine k v _ _ I' w' ⟨b, rfl, rfl⟩ hv ?_ (x.less fun b hb => by simpa [blocksOf, E.blocks] using hb)
  have e : blocksOf (.row b t (unN m (zs.map .lit)) :: μ) = blocksOf (.row b t (zs.map .lit) :: μ) := by simp [blocksOf, E.blocks]
  refine ⟨hH'.lo, hH'.glob, by rw [e]; exact hH'.nodup, fun c hc => hH'.own c (by rw [← e]; exact hc), hH'.imm, fun en hen => ?_, fun en hen => ?_⟩
  · rcases List.mem_cons.1 hen with rfl | h
    · exact row_unN hok (hH'.rep _ (by simp))
    · exact hH'.rep en (by simp [h])
  · rcases List.mem_cons.1 hen with rfl | h
    · trivial
    · exact hH'.mono en (by simp [h])
end

theorem Weak.mem {regs : List (Nat × V)} {μ μ' : List E} (m : List Bool) (hμ : keep m μ = μ') : Weak ⟨regs, μ⟩ ⟨regs, μ'⟩ := by
  intro X n z a w ⟨I, hH, hR, hx, hd, hs⟩
  obtain ⟨φ, p⟩ := keep_perm m μ
  rw [hμ] at p
  have hH' : Heap X w I (μ' ++ φ) := hH.perm p.symm
  exact ⟨I, hH'.left, hR, hx.less fun b hb => (blocksOf_perm p).mem_iff.1 (by rw [blocksOf_append]; exact List.mem_append.2 (.inl hb)), hd, hs⟩

theorem det_len_slm {α : Type} {X : Cfg} {o : Oper} {e : Operand → V} {μ : List E} {t et : TypeId} {x : Operand} {size bytes : Nat} {f : α → List C} {l : List α} (ho : o.op = .call { callee := .builtin .len, args := #[x], argTypes := #[t] }) (ht : elemT X.P t = some (et, size, bytes)) (hx : e x = .c (.sl size (l.map f))) : Det X o e μ (.c (.lit (.int .i64 l.length))) μ := by
  have h := det_len_sl (X := X) (μ := μ) ho ht hx
  rwa [List.length_map] at h

theorem Weak.regs {r r' : List (Nat × V)} {μ : List E} (h : subR r' r) : Weak ⟨r, μ⟩ ⟨r', μ⟩ := by
  intro X n z a w ⟨I, hH, hR, hx, hd, hs⟩
  refine ⟨I, hH, fun t => ?_, hx, hd, hs⟩
  rcases look_mem r' t with e | hm
  · show VRep w I (look r' t) _
    rw [e]; trivial
  · exact subR_mem h t _ hm w I _ (hR t)

/-- A loop whose memory is one of the things that it carries along. -/
theorem awp_loop_m {X : Cfg} {n : Nat} {z : Z} {Q : Exit → S → Prop} {c : Code} {regs base : List (Nat × V)} {μ : List E} (k : Nat) (_hb : dropN k regs = some base) (G : Type) (hd : G → List (Nat × V)) (hμ : G → List E) (inv : G → Prop) (m : G → Nat)
    (h0 : ∃ g, inv g ∧ Weak ⟨regs, μ⟩ ⟨hd g ++ base, hμ g⟩)
    (round : ∀ g, inv g → AWP X n z c (thenQ (fun τ => ∃ g', inv g' ∧ m g' < m g ∧ Weak τ ⟨hd g' ++ base, hμ g'⟩) Q) ⟨hd g ++ base, hμ g⟩) : AWP X n z (.loop c) Q ⟨regs, μ⟩ :=
  awp_loop G (fun g => ⟨hd g ++ base, hμ g⟩) inv m h0 round

theorem fn_bool {X : Cfg} {c : C} {args : List V} {μ : List E} {A B : List E → Prop} (h : FnCon X c args μ fun r μ' => (r = .c (.lit (.bool true)) ∧ A μ') ∨ (r = .c (.lit (.bool false)) ∧ B μ')) :
    FnCon X c args μ fun r μ' => ∃ b, r = .c (.lit (.bool b)) ∧ (b = true → A μ') ∧ (b = false → B μ') :=
  h.mono fun r μ' k => by
    rcases k with ⟨rfl, k⟩ | ⟨rfl, k⟩
    · exact ⟨true, rfl, fun _ => k, fun h => (by cases h)⟩
    · exact ⟨false, rfl, fun h => (by cases h), fun _ => k⟩

theorem then_exit {K : S → Prop} {R : Exit → S → Prop} {i : Nat} {σ : S} (h : R (.exit i) σ) : thenQ K R (.exit i) σ := h
theorem block_exit {i : Nat} {R : Exit → S → Prop} {σ : S} (h : R .normal σ) : blockQ i R (.exit i) σ := by
  simp only [blockQ, if_true]; exact h

end Go.Eng
