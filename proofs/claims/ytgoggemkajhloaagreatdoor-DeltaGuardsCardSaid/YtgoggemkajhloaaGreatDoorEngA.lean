/-
  The engine, part A: abstract cells, values and owned memory, and what it means that a world holds them.
  Conditions: none; plain definitions and theorems over any program.
-/
import Derived.WalkKit
import Derived.Below
import Derived.Laws.OwnMore
import Derived.Deep.Draws
namespace Go.Eng
open Go Go.RowKit

/-- An abstract cell: a plain value; a slice that nobody writes any more, as the list of its rows; a pointer into such memory; a pointer into a slice of the call's own; a function value. -/
inductive C where
  | lit (v : Value)
  | sl (size : Nat) (rows : List (List C))
  | iptr (cells : List C)
  | vptr (sv : Value) (size i off : Nat)
  | fn (f : Fn) (first cap : List C)

/-- World w, with the blocks I left alone for ever, holds the abstract cell as that value. -/
inductive CRep (w : World) (I : Nat → Prop) : C → Value → Prop where
  | lit (v : Value) (h1 : v.oneCell' = true) : CRep w I (.lit v) v
  | nil (size : Nat) (a : Option Addr) (cap : Nat) : CRep w I (.sl size []) (.slice a 0 cap)
  | sl (size : Nat) (rows : List (List C)) (a : Addr) (cap : Nat) (us : Nat → Nat → Value) (hI : I a.block)
      (hl : ∀ r, r ∈ rows → r.length = size) (hcap : rows.length ≤ cap)
      (hc : ∀ i j, i < rows.length → j < size → w.cell? (a.add (i * size + j)) = some (us i j))
      (hr : ∀ (i : Nat) r, rows[i]? = some r → ∀ (j : Nat) c, r[j]? = some c → CRep w I c (us i j)) :
      CRep w I (.sl size rows) (.slice (some a) rows.length cap)
  | iptr (cells : List C) (a : Addr) (us : Nat → Value) (hI : I a.block)
      (hc : ∀ j, j < cells.length → w.cell? (a.add j) = some (us j))
      (hr : ∀ (j : Nat) c, cells[j]? = some c → CRep w I c (us j)) : CRep w I (.iptr cells) (.pointer (some a))
  | vptr (b n cap size i off : Nat) : CRep w I (.vptr (.slice (some ⟨b, 0, none⟩) n cap) size i off) (.pointer (some ⟨b, i * size + off, none⟩))
  | fn (f : Fn) (first cap : List C) (us vs : List Value) (h1 : us.length = first.length) (h2 : vs.length = cap.length)
      (hr1 : ∀ (j : Nat) c u, first[j]? = some c → us[j]? = some u → CRep w I c u)
      (hr2 : ∀ (j : Nat) c u, cap[j]? = some c → vs[j]? = some u → CRep w I c u) : CRep w I (.fn f first cap) (.func f us.toArray vs.toArray)

theorem CRep.mono {w w' : World} {I I' : Nat → Prop} (hw : ∀ b, I b → w'.heap[b]? = w.heap[b]?) (hI : ∀ b, I b → I' b) {c : C} {v : Value} (h : CRep w I c v) : CRep w' I' c v := by
  induction h with
  | lit v h1 => exact .lit v h1
  | nil size a cap => exact .nil size a cap
  | sl size rows a cap us hIa hl hcap hc _ ih =>
    refine .sl size rows a cap us (hI _ hIa) hl hcap (fun i j hi hj => ?_) ih
    rw [← hc i j hi hj]
    have hb : (a.add (i * size + j)).block = a.block := by unfold Addr.add; split <;> rfl
    exact World.cell?_of_block (by rw [hb]; exact hw _ hIa)
  | iptr cells a us hIa hc _ ih =>
    refine .iptr cells a us (hI _ hIa) (fun j hj => ?_) ih
    rw [← hc j hj]
    have hb : (a.add j).block = a.block := by unfold Addr.add; split <;> rfl
    exact World.cell?_of_block (by rw [hb]; exact hw _ hIa)
  | vptr b n cap size i off => exact .vptr b n cap size i off
  | fn f first cap us vs h1 h2 _ _ ih1 ih2 => exact .fn f first cap us vs h1 h2 ih1 ih2

theorem CRep.one {w : World} {I : Nat → Prop} {c : C} {v : Value} (h : CRep w I c v) : v.oneCell' = true := by
  cases h <;> first | assumption | rfl

/-- Cell by cell. -/
inductive CReps (w : World) (I : Nat → Prop) : List C → List Value → Prop where
  | nil : CReps w I [] []
  | cons {c : C} {v : Value} {cs : List C} {vs : List Value} (h : CRep w I c v) (t : CReps w I cs vs) : CReps w I (c :: cs) (v :: vs)

theorem CReps.mono {w w' : World} {I I' : Nat → Prop} (hw : ∀ b, I b → w'.heap[b]? = w.heap[b]?) (hI : ∀ b, I b → I' b) {cs : List C} {vs : List Value} (h : CReps w I cs vs) : CReps w' I' cs vs := by
  induction h with
  | nil => exact .nil
  | cons h _ ih => exact .cons (h.mono hw hI) ih

theorem CReps.length {w : World} {I : Nat → Prop} {cs : List C} {vs : List Value} (h : CReps w I cs vs) : cs.length = vs.length := by
  induction h with
  | nil => rfl
  | cons _ _ ih => simp [ih]

theorem CReps.at_ {w : World} {I : Nat → Prop} {cs : List C} {vs : List Value} (h : CReps w I cs vs) : ∀ {j : Nat} {c : C}, cs[j]? = some c → ∃ v, vs[j]? = some v ∧ CRep w I c v := by
  induction h with
  | nil => intro j c hc; simp at hc
  | cons h t ih =>
    intro j c hc
    cases j with
    | zero => simp at hc; subst hc; exact ⟨_, rfl, h⟩
    | succ j => simpa using ih (by simpa using hc)

theorem CReps.of_at {w : World} {I : Nat → Prop} : ∀ {cs : List C} {vs : List Value}, cs.length = vs.length → (∀ (j : Nat) c v, cs[j]? = some c → vs[j]? = some v → CRep w I c v) → CReps w I cs vs
  | [], [], _, _ => .nil
  | c :: cs, v :: vs, hl, h => .cons (h 0 c v rfl rfl) (CReps.of_at (by simpa using hl) fun j c' v' hc hv => h (j + 1) c' v' (by simpa using hc) (by simpa using hv))
  | [], _ :: _, hl, _ => by simp at hl
  | _ :: _, [], hl, _ => by simp at hl

theorem CReps.append {w : World} {I : Nat → Prop} {cs ds : List C} {vs us : List Value} (h : CReps w I cs vs) (k : CReps w I ds us) : CReps w I (cs ++ ds) (vs ++ us) := by
  induction h with
  | nil => exact k
  | cons h _ ih => exact .cons h ih

theorem CReps.take {w : World} {I : Nat → Prop} {cs : List C} {vs : List Value} (h : CReps w I cs vs) (n : Nat) : CReps w I (cs.take n) (vs.take n) := by
  induction h generalizing n with
  | nil => simp; exact .nil
  | cons h _ ih => cases n with
    | zero => simp; exact .nil
    | succ n => exact .cons h (ih n)

theorem CReps.drop {w : World} {I : Nat → Prop} {cs : List C} {vs : List Value} (h : CReps w I cs vs) (n : Nat) : CReps w I (cs.drop n) (vs.drop n) := by
  induction h generalizing n with
  | nil => simp; exact .nil
  | cons h t ih => cases n with
    | zero => exact .cons h t
    | succ n => exact ih n

theorem CReps.one {w : World} {I : Nat → Prop} {cs : List C} {vs : List Value} (h : CReps w I cs vs) : ∀ v ∈ vs, v.oneCell' = true := by
  induction h with
  | nil => intro v hv; simp at hv
  | cons h _ ih => intro v hv; rcases List.mem_cons.1 hv with rfl | hv; exact h.one; exact ih v hv

/-- A value of a register: one cell, the cells of a struct or an array, several results, or nothing that is known. -/
inductive V where
  | c (x : C)
  | agg (l : List C)
  | tup (l : List V)
  | un
  | ifv (b : Bool) (x : V)

def V1Rep (w : World) (I : Nat → Prop) : V → Value → Prop
  | .c x, v => CRep w I x v
  | .agg l, v => ∃ vs : List Value, v = .agg vs.toArray ∧ CReps w I l vs
  | .un, _ => True
  | .ifv b x, v => (b = true → (match x with | .c y => CRep w I y v | .agg l => ∃ vs : List Value, v = .agg vs.toArray ∧ CReps w I l vs | .un => True | _ => False)) ∧ (b = false → v = undef)
  | .tup _, _ => False

def V1Reps (w : World) (I : Nat → Prop) : List V → List Value → Prop
  | [], [] => True
  | x :: xs, v :: vs => V1Rep w I x v ∧ V1Reps w I xs vs
  | _, _ => False

def VRep (w : World) (I : Nat → Prop) : V → Value → Prop
  | .tup l, v => ∃ vs : List Value, v = .tuple vs.toArray ∧ V1Reps w I l vs
  | x, v => V1Rep w I x v

theorem V1Rep.mono {w w' : World} {I I' : Nat → Prop} (hw : ∀ b, I b → w'.heap[b]? = w.heap[b]?) (hI : ∀ b, I b → I' b) {x : V} {v : Value} (h : V1Rep w I x v) : V1Rep w' I' x v := by
  cases x with
  | c x => exact CRep.mono hw hI h
  | agg l => obtain ⟨vs, e, k⟩ := h; exact ⟨vs, e, k.mono hw hI⟩
  | tup l => exact h.elim
  | un => trivial
  | ifv b x =>
    refine ⟨fun hb => ?_, h.2⟩
    have h' := h.1 hb
    cases x with
    | c x => exact CRep.mono hw hI h'
    | agg l => obtain ⟨vs, e, k⟩ := h'; exact ⟨vs, e, k.mono hw hI⟩
    | un => trivial
    | tup l => exact h'.elim
    | ifv b x => exact h'.elim

theorem V1Reps.mono {w w' : World} {I I' : Nat → Prop} (hw : ∀ b, I b → w'.heap[b]? = w.heap[b]?) (hI : ∀ b, I b → I' b) : ∀ {l : List V} {vs : List Value}, V1Reps w I l vs → V1Reps w' I' l vs
  | [], [], _ => trivial
  | _ :: _, _ :: _, h => ⟨h.1.mono hw hI, V1Reps.mono hw hI h.2⟩
  | [], _ :: _, h => h.elim
  | _ :: _, [], h => h.elim

theorem VRep.mono {w w' : World} {I I' : Nat → Prop} (hw : ∀ b, I b → w'.heap[b]? = w.heap[b]?) (hI : ∀ b, I b → I' b) {x : V} {v : Value} (h : VRep w I x v) : VRep w' I' x v := by
  cases x with
  | c x => exact CRep.mono hw hI h
  | agg l => exact V1Rep.mono (x := .agg l) hw hI h
  | tup l => obtain ⟨vs, e, k⟩ := h; exact ⟨vs, e, k.mono hw hI⟩
  | un => trivial
  | ifv b x => exact V1Rep.mono (x := .ifv b x) hw hI h

theorem V1Rep.up {w : World} {I : Nat → Prop} {x : V} {v : Value} (h : V1Rep w I x v) : VRep w I x v := by
  cases x with
  | tup l => exact h.elim
  | _ => exact h

def VReps (w : World) (I : Nat → Prop) (l : List V) (vs : List Value) : Prop := V1Reps w I l vs

/-- Memory of the call's own: a variable (one block, its cells), a slice, a map. -/
inductive E where
  | row (b : Nat) (t : TypeId) (cells : List C)
  | vec (sv : Value) (t : TypeId) (size : Nat) (rows : List (List C))
  | blk (b : Nat) (R : World → (Nat → Prop) → Obj → Prop)

/-- The block of a slice that has room for something. -/
def svB : Value → List Nat
  | .slice (some a) _ (_ + 1) => [a.block]
  | _ => []

theorem svB_own {v : Value} {b : Nat} (h : b ∈ svB v) : v.ownBlock = some b := by
  unfold svB at h
  split at h
  · simp only [List.mem_singleton] at h; subst h; rfl
  · cases h

theorem svB_of {v : Value} (h : svB v ≠ []) {b : Nat} (k : v.ownBlock = some b) : b ∈ svB v := by
  unfold svB at h ⊢
  split at h
  · simp only [Value.ownBlock, Option.some.injEq] at k; subst k; simp
  · exact absurd rfl h

def E.blocks : E → List Nat
  | .row b _ _ => [b]
  | .vec sv _ _ _ => svB sv
  | .blk b _ => [b]

def ERep (w : World) (I : Nat → Prop) : E → Prop
  | .row b t cells => ∃ vs : List Value, w.heap[b]? = some (.cells vs.toArray t (0, 0)) ∧ CReps w I cells vs
  | .vec sv t size rows => (∃ a, sv = .slice a 0 0 ∧ rows = []) ∨ (svB sv ≠ [] ∧ ∃ xs : List Value, w.ownsRow 0 t size sv rows.length xs ∧ CReps w I rows.flatten xs ∧ ∀ r, r ∈ rows → r.length = size)
  | .blk b R => ∃ o, w.heap[b]? = some o ∧ R w I o

/-- A block of another kind must stand when more is left alone. -/
def E.Mono : E → Prop
  | .blk _ R => ∀ (w w' : World) (I I' : Nat → Prop), (∀ b, I b → w'.heap[b]? = w.heap[b]?) → (∀ b, I b → I' b) → ∀ o, R w I o → R w' I' o
  | _ => True

def blocksOf (μ : List E) : List Nat := μ.flatMap E.blocks

/-- What is fixed for a whole proof: the program, and what its package-level variables (the blocks below N) are known to hold. -/
structure Cfg where
  P : Program
  N : Nat
  G : World → Prop
  hG : ∀ w w' : World, (∀ b, b < N → w'.heap[b]? = w.heap[b]?) → G w → G w'

structure Heap (X : Cfg) (w : World) (I : Nat → Prop) (μ : List E) : Prop where
  lo : X.N ≤ w.heap.size
  glob : X.G w
  nodup : (blocksOf μ).Nodup
  own : ∀ b, b ∈ blocksOf μ → X.N ≤ b ∧ ¬ I b
  imm : ∀ b, I b → b < w.heap.size
  rep : ∀ e, e ∈ μ → ERep w I e
  mono : ∀ e, e ∈ μ → e.Mono

/-- From (w, I, μ) to (w', I', μ'): what is not owned has not changed; the blocks left alone stay so. -/
structure Ext (w : World) (I : Nat → Prop) (μ : List E) (w' : World) (I' : Nat → Prop) (μ' : List E) : Prop where
  os : w'.os = w.os
  tape : w'.tape = w.tape
  output : w'.output = w.output
  size : w.heap.size ≤ w'.heap.size
  block : ∀ b, b < w.heap.size → b ∉ blocksOf μ → w'.heap[b]? = w.heap[b]?
  imm : ∀ b, I b → I' b
  imm' : ∀ b, I' b → I b ∨ b ∈ blocksOf μ ∨ w.heap.size ≤ b
  own' : ∀ b, b ∈ blocksOf μ' → b ∈ blocksOf μ ∨ w.heap.size ≤ b

theorem Ext.refl (w : World) (I : Nat → Prop) (μ : List E) : Ext w I μ w I μ :=
  ⟨rfl, rfl, rfl, Nat.le_refl _, fun _ _ _ => rfl, fun _ h => h, fun _ h => .inl h, fun _ h => .inl h⟩

theorem Ext.trans {w1 w2 w3 : World} {I1 I2 I3 : Nat → Prop} {μ1 μ2 μ3 : List E} (h : Ext w1 I1 μ1 w2 I2 μ2) (k : Ext w2 I2 μ2 w3 I3 μ3) : Ext w1 I1 μ1 w3 I3 μ3 where
  os := k.os.trans h.os
  tape := k.tape.trans h.tape
  output := k.output.trans h.output
  size := Nat.le_trans h.size k.size
  block := fun b hb hn => by
    rw [← h.block b hb hn]
    exact k.block b (Nat.lt_of_lt_of_le hb h.size) fun hm => by
      rcases h.own' b hm with h' | h'
      · exact hn h'
      · omega
  imm := fun b hb => k.imm b (h.imm b hb)
  imm' := fun b hb => by
    rcases k.imm' b hb with h' | h' | h'
    · exact h.imm' b h'
    · rcases h.own' b h' with h'' | h''
      · exact .inr (.inl h'')
      · exact .inr (.inr h'')
    · exact .inr (.inr (Nat.le_trans h.size h'))
  own' := fun b hb => by
    rcases k.own' b hb with h' | h'
    · exact h.own' b h'
    · exact .inr (Nat.le_trans h.size h')

/-- A block that is left alone has not changed. -/
theorem Heap.still {X : Cfg} {w w' : World} {I I' : Nat → Prop} {μ μ' : List E} (h : Heap X w I μ) (x : Ext w I μ w' I' μ') : ∀ b, I b → w'.heap[b]? = w.heap[b]? :=
  fun b hb => x.block b (h.imm b hb) fun hm => (h.own b hm).2 hb

theorem Heap.vrep {X : Cfg} {w w' : World} {I I' : Nat → Prop} {μ μ' : List E} (h : Heap X w I μ) (x : Ext w I μ w' I' μ') {V : V} {v : Value} (r : VRep w I V v) : VRep w' I' V v :=
  r.mono (h.still x) x.imm

theorem mem_blocksOf {μ : List E} {e : E} (he : e ∈ μ) {b : Nat} (hb : b ∈ e.blocks) : b ∈ blocksOf μ := List.mem_flatMap.2 ⟨e, he, hb⟩

theorem blocksOf_append (μ φ : List E) : blocksOf (μ ++ φ) = blocksOf μ ++ blocksOf φ := by simp [blocksOf]

theorem blocksOf_cons (e : E) (μ : List E) : blocksOf (e :: μ) = e.blocks ++ blocksOf μ := by simp [blocksOf]

theorem blocksOf_perm {μ φ : List E} (h : μ.Perm φ) : (blocksOf μ).Perm (blocksOf φ) := h.flatMap_right _

theorem Heap.perm {X : Cfg} {w : World} {I : Nat → Prop} {μ φ : List E} (h : Heap X w I μ) (p : μ.Perm φ) : Heap X w I φ :=
  ⟨h.lo, h.glob, (blocksOf_perm p).nodup_iff.1 h.nodup, fun b hb => h.own b ((blocksOf_perm p).mem_iff.2 hb), h.imm, fun e he => h.rep e (p.mem_iff.2 he), fun e he => h.mono e (p.mem_iff.2 he)⟩

/-- What is owned may be forgotten. -/
theorem Heap.left {X : Cfg} {w : World} {I : Nat → Prop} {μ φ : List E} (h : Heap X w I (μ ++ φ)) : Heap X w I μ := by
  have hn := h.nodup
  have ho := h.own
  rw [blocksOf_append] at hn ho
  exact ⟨h.lo, h.glob, (List.nodup_append.1 hn).1, fun b hb => ho b (List.mem_append.2 (.inl hb)), h.imm, fun e he => h.rep e (List.mem_append.2 (.inl he)), fun e he => h.mono e (List.mem_append.2 (.inl he))⟩

/-- The block of a row lies in the heap. -/
theorem ERep.lt {w : World} {I : Nat → Prop} {e : E} (h : ERep w I e) {b : Nat} (hb : b ∈ e.blocks) : b < w.heap.size := by
  cases e with
  | row b' t cells =>
    obtain ⟨vs, hh, _⟩ := h
    simp only [E.blocks, List.mem_singleton] at hb
    subst hb
    exact (Array.getElem?_eq_some_iff.1 hh).1
  | vec sv t size rows =>
    simp only [E.blocks] at hb
    rcases h with ⟨a, rfl, rfl⟩ | ⟨_, xs, hown, _⟩
    · cases a <;> cases hb
    · exact (hown.lt _ (svB_own hb)).2
  | blk b' R =>
    obtain ⟨o, hh, _⟩ := h
    simp only [E.blocks, List.mem_singleton] at hb
    subst hb
    exact (Array.getElem?_eq_some_iff.1 hh).1

theorem vec_of_owns {w : World} {I : Nat → Prop} {sv : Value} {t : TypeId} {size : Nat} {rows : List (List C)} {xs : List Value} (h : w.ownsRow 0 t size sv rows.length xs) (hc : CReps w I rows.flatten xs) (hl : ∀ r, r ∈ rows → r.length = size) : ERep w I (.vec sv t size rows) := by
  rcases h.2 with ⟨rfl, hn⟩ | ⟨g, cap, cur, rfl, _, _, hle, _⟩
  · exact .inl ⟨none, rfl, List.eq_nil_of_length_eq_zero hn⟩
  · cases cap with
    | zero =>
      have : rows.length = 0 := by omega
      rw [this] 
      exact .inl ⟨_, rfl, List.eq_nil_of_length_eq_zero this⟩
    | succ c => exact .inr ⟨by simp [svB], xs, h, hc, hl⟩

theorem Heap.lt {X : Cfg} {w : World} {I : Nat → Prop} {μ : List E} (h : Heap X w I μ) {b : Nat} (hb : b ∈ blocksOf μ) : b < w.heap.size := by
  obtain ⟨e, he, hb'⟩ := List.mem_flatMap.1 hb
  exact (h.rep e he).lt hb'

theorem ERep.mono {w w' : World} {I I' : Nat → Prop} {e : E} (hm : e.Mono) (hw : ∀ b, I b → w'.heap[b]? = w.heap[b]?) (hI : ∀ b, I b → I' b) (hb : ∀ b, b ∈ e.blocks → w'.heap[b]? = w.heap[b]?) (h : ERep w I e) : ERep w' I' e := by
  cases e with
  | row b t cells =>
    obtain ⟨vs, hh, hc⟩ := h
    exact ⟨vs, by rw [hb b (by simp [E.blocks])]; exact hh, hc.mono hw hI⟩
  | vec sv t size rows =>
    rcases h with h | ⟨hne, xs, ⟨hl, hown⟩, hc, hr⟩
    · exact .inl h
    refine .inr ⟨hne, xs, ⟨hl, ?_⟩, hc.mono hw hI, hr⟩
    rcases hown with h0 | ⟨g, cap, cur, rfl, hg, hh, rest⟩
    · exact .inl h0
    · exact .inr ⟨g, cap, cur, rfl, hg, by rw [hb g (svB_of hne rfl)]; exact hh, rest⟩
  | blk b R =>
    obtain ⟨o, hh, hr⟩ := h
    exact ⟨o, by rw [hb b (by simp [E.blocks])]; exact hh, hm _ _ _ _ hw hI _ hr⟩

end Go.Eng
