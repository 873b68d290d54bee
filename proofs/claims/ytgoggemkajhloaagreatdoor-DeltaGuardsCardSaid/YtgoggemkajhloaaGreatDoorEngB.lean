/-
  The engine, part B: states of a walk, rules for the control flow, contracts of functions.
  Conditions: none; plain definitions and theorems over any program.
-/
import Derived.Test.YtgoggemkajhloaaGreatDoorEngA
import Derived.OrdersIn
import Derived.TacticsIn
import Derived.RangeFuncIn
import Derived.RangeFuncLeaves
import Derived.RangeFuncRecord
namespace Go.Eng
open Go Go.RowKit

/-- What was owned beside and not handed on stands. -/
theorem Heap.frame {X : Cfg} {w w' : World} {I I' : Nat → Prop} {μ φ μ' : List E} (h : Heap X w I (μ ++ φ)) (h' : Heap X w' I' μ') (x : Ext w I μ w' I' μ') :
    Heap X w' I' (μ' ++ φ) ∧ Ext w I (μ ++ φ) w' I' (μ' ++ φ) := by
  have hn := h.nodup
  rw [blocksOf_append] at hn
  obtain ⟨_, hn2, hn3⟩ := List.nodup_append.1 hn
  have hφ : ∀ b, b ∈ blocksOf φ → b < w.heap.size ∧ b ∉ blocksOf μ ∧ ¬ I b ∧ X.N ≤ b := fun b hb =>
    have hm : b ∈ blocksOf (μ ++ φ) := by rw [blocksOf_append]; exact List.mem_append.2 (.inr hb)
    ⟨h.lt hm, fun hm' => hn3 b hm' b hb rfl, (h.own b hm).2, (h.own b hm).1⟩
  have still : ∀ b, I b → w'.heap[b]? = w.heap[b]? := h.left.still x
  refine ⟨⟨h'.lo, h'.glob, ?_, ?_, h'.imm, ?_, ?_⟩, ⟨x.os, x.tape, x.output, x.size, ?_, x.imm, ?_, ?_⟩⟩
  · rw [blocksOf_append]
    refine List.nodup_append.2 ⟨h'.nodup, hn2, fun a ha b hb e => ?_⟩
    subst e
    obtain ⟨h1, h2, _⟩ := hφ a hb
    rcases x.own' a ha with h3 | h3
    · exact h2 h3
    · omega
  · intro b hb
    rw [blocksOf_append] at hb
    rcases List.mem_append.1 hb with hb | hb
    · exact h'.own b hb
    · obtain ⟨h1, h2, h3, h4⟩ := hφ b hb
      refine ⟨h4, fun hI => ?_⟩
      rcases x.imm' b hI with h5 | h5 | h5
      · exact h3 h5
      · exact h2 h5
      · omega
  · intro e he
    rcases List.mem_append.1 he with he | he
    · exact h'.rep e he
    · refine (h.rep e (List.mem_append.2 (.inr he))).mono (h.mono e (List.mem_append.2 (.inr he))) still x.imm fun b hb => ?_
      obtain ⟨h1, h2, _⟩ := hφ b (mem_blocksOf he hb)
      exact x.block b h1 h2
  · intro e he
    rcases List.mem_append.1 he with he | he
    · exact h'.mono e he
    · exact h.mono e (List.mem_append.2 (.inr he))
  · intro b hb hm
    rw [blocksOf_append] at hm
    exact x.block b hb fun h1 => hm (List.mem_append.2 (.inl h1))
  · intro b hb
    rw [blocksOf_append]
    rcases x.imm' b hb with h1 | h1 | h1
    · exact .inl h1
    · exact .inr (.inl (List.mem_append.2 (.inl h1)))
    · exact .inr (.inr h1)
  · intro b hb
    rw [blocksOf_append] at hb ⊢
    rcases List.mem_append.1 hb with hb | hb
    · rcases x.own' b hb with h1 | h1
      · exact .inl (List.mem_append.2 (.inl h1))
      · exact .inr h1
    · exact .inl (List.mem_append.2 (.inr hb))

theorem Ext.perm {w w' : World} {I I' : Nat → Prop} {μ μ' φ φ' : List E} (x : Ext w I μ w' I' μ') (p : μ.Perm φ) (q : μ'.Perm φ') : Ext w I φ w' I' φ' :=
  ⟨x.os, x.tape, x.output, x.size, fun b hb hm => x.block b hb fun h => hm ((blocksOf_perm p).mem_iff.1 h), x.imm,
    fun b hb => (x.imm' b hb).imp id (Or.imp (blocksOf_perm p).mem_iff.1 id),
    fun b hb => (x.own' b ((blocksOf_perm q).mem_iff.2 hb)).imp (blocksOf_perm p).mem_iff.1 id⟩

/-- Less is owned at the end. -/
theorem Ext.less {w w' : World} {I I' : Nat → Prop} {μ μ' φ : List E} (x : Ext w I μ w' I' μ') (h : ∀ b, b ∈ blocksOf φ → b ∈ blocksOf μ') : Ext w I μ w' I' φ :=
  ⟨x.os, x.tape, x.output, x.size, x.block, x.imm, x.imm', fun b hb => x.own' b (h b hb)⟩

/-! ## States -/

structure S where
  regs : List (Nat × V)
  μ : List E

def look : List (Nat × V) → Nat → V
  | [], _ => .un
  | (t, v) :: r, s => cond (Nat.beq t s) v (look r s)

def putR (d : Option Tmp) (v : V) (regs : List (Nat × V)) : List (Nat × V) :=
  match d with
  | some t => (t, v) :: regs
  | none => regs

theorem look_putR (t s : Nat) (v : V) (regs : List (Nat × V)) : look ((t, v) :: regs) s = if t = s then v else look regs s := by
  show cond (Nat.beq t s) v (look regs s) = _
  by_cases h : t = s
  · subst h
    rw [if_pos rfl, show Nat.beq t t = true from Nat.beq_eq ▸ rfl]
    rfl
  · rw [if_neg h, show Nat.beq t s = false from by cases hb : Nat.beq t s; rfl; exact absurd (Nat.eq_of_beq_eq_true hb) h]
    rfl

/-- The world when the call began. -/
structure Z where
  w : World
  I : Nat → Prop
  μ : List E
  ds : List Deferred
  rd : Option Nat

/-- No fence; in a round of a range over a function, or not. -/
def fen (rd : Option Nat) : Fence := { Fence.wide with round := rd }

/-- What a range over a function leaves for the function's end. -/
def mark (D : Nat) : Deferred := { target := .collected D, args := #[] }

/-- A later base: what a range over a function leaves behind is known to lie untouched. -/
structure ZLe (z z' : Z) : Prop where
  rd : z'.rd = z.rd
  ext : Ext z.w z.I z.μ z'.w z'.I z'.μ
  marks : ∃ Ds : List Nat, z'.ds = Ds.map mark ++ z.ds ∧ Ds.Nodup ∧ ∀ D, D ∈ Ds → z.w.heap.size ≤ D ∧ D < z'.w.heap.size ∧ ¬ z'.I D ∧ D ∉ blocksOf z'.μ ∧ z'.w.heap[D]? = some (.deferred (some []))

theorem ZLe.refl (z : Z) : ZLe z z := ⟨rfl, Ext.refl _ _ _, [], rfl, List.nodup_nil, fun D h => by simp at h⟩

/-- A block that lies outside of what is owned stays. -/
theorem Ext.stays {w w' : World} {I I' : Nat → Prop} {μ μ' : List E} (x : Ext w I μ w' I' μ') {D : Nat} (h1 : D < w.heap.size) (h2 : ¬ I D) (h3 : D ∉ blocksOf μ) : D < w'.heap.size ∧ ¬ I' D ∧ D ∉ blocksOf μ' ∧ w'.heap[D]? = w.heap[D]? :=
  ⟨Nat.lt_of_lt_of_le h1 x.size, fun h => by rcases x.imm' D h with h | h | h; exact h2 h; exact h3 h; omega, fun h => by rcases x.own' D h with h | h; exact h3 h; omega, x.block D h1 h3⟩

theorem ZLe.trans {z1 z2 z3 : Z} (h : ZLe z1 z2) (k : ZLe z2 z3) : ZLe z1 z3 := by
  obtain ⟨r1, x1, D1, e1, n1, m1⟩ := h
  obtain ⟨r2, x2, D2, e2, n2, m2⟩ := k
  refine ⟨r2.trans r1, x1.trans x2, D2 ++ D1, by rw [e2, e1]; simp, ?_, fun D hD => ?_⟩
  · rw [List.nodup_append]
    refine ⟨n2, n1, fun a ha b hb hab => ?_⟩
    subst hab
    have := (m2 a ha).1
    have := (m1 a hb).2.1
    omega
  · rcases List.mem_append.1 hD with h | h
    · obtain ⟨a, b, c, d, e⟩ := m2 D h
      have := x1.size
      exact ⟨by omega, b, c, d, e⟩
    · obtain ⟨a, b, c, d, e⟩ := m1 D h
      obtain ⟨b', c', d', e'⟩ := x2.stays b c d
      exact ⟨a, b', c', d', e'.trans e⟩

/-- In a round, the loop's record lies there and is not touched. -/
def RdOk (z : Z) : Prop := ∀ l, z.rd = some l → l < z.w.heap.size ∧ ¬ z.I l ∧ l ∉ blocksOf z.μ ∧ ∃ r, z.w.heap[l]? = some (.loop r)

theorem RdOk.le {z z' : Z} (h : RdOk z) (k : ZLe z z') : RdOk z' := by
  intro l hl
  obtain ⟨h1, h2, h3, r, h4⟩ := h l (by rw [← k.rd]; exact hl)
  obtain ⟨k1, k2, k3, k4⟩ := k.ext.stays h1 h2 h3
  exact ⟨k1, k2, k3, r, k4.trans h4⟩

def St (X : Cfg) (n : Nat) (z : Z) (σ : S) (a : Act) (w : World) : Prop :=
  ∃ I, Heap X w I σ.μ ∧ (∀ t, VRep w I (look σ.regs t) (a.tmps.getD t undef)) ∧ Ext z.w z.I z.μ w I σ.μ ∧ a.defers = z.ds ∧ a.tmps.size = n

def constV : Value → V
  | .agg cs => if cs.all Value.oneCell' then .agg (cs.toList.map .lit) else .un
  | .tuple _ => .un
  | v => .c (.lit v)

def ev (regs : List (Nat × V)) : Operand → V
  | .tmp t => look regs t
  | .const v => constV v
  | .global g => .c (.lit (.pointer (some ⟨g, 0, none⟩)))
  | .func f => .c (.fn (.func f) [] [])

theorem CReps.lits {w : World} {I : Nat → Prop} : ∀ (l : List Value), (∀ v, v ∈ l → v.oneCell' = true) → CReps w I (l.map .lit) l
  | [], _ => .nil
  | v :: l, h => .cons (.lit v (h v (by simp))) (CReps.lits l fun u hu => h u (by simp [hu]))

theorem constV_rep (w : World) (I : Nat → Prop) (v : Value) : VRep w I (constV v) v := by
  cases v with
  | agg cs =>
    by_cases h : cs.all Value.oneCell' = true
    · have e : constV (.agg cs) = .agg (cs.toList.map .lit) := by simp only [constV]; rw [if_pos h]
      rw [e]
      refine ⟨cs.toList, by simp, CReps.lits _ fun v hv => ?_⟩
      rw [Array.all_eq_true_iff_forall_mem] at h
      exact h v (by simpa using hv)
    · have e : constV (.agg cs) = .un := by simp only [constV]; rw [if_neg h]
      rw [e]
      trivial
  | tuple _ => trivial
  | _ => exact CRep.lit _ rfl

theorem ev_rep {w : World} {I : Nat → Prop} {regs : List (Nat × V)} {a : Act} (h : ∀ t, VRep w I (look regs t) (a.tmps.getD t undef)) (x : Operand) : VRep w I (ev regs x) (a.eval x) := by
  cases x with
  | tmp t => exact h t
  | const v => exact constV_rep w I v
  | global g => exact CRep.lit _ rfl
  | func f => exact CRep.fn (.func f) [] [] [] [] rfl rfl (fun j c u hc => by simp at hc) (fun j c u hc => by simp at hc)

def liftQ (X : Cfg) (n : Nat) (z : Z) (Q : Exit → S → Prop) : Exit → Act → World → Prop :=
  fun e a w => ∃ z' σ, ZLe z z' ∧ Q e σ ∧ St X n z' σ a w

theorem liftQ_le {X : Cfg} {n : Nat} {z z' : Z} {Q : Exit → S → Prop} (h : ZLe z z') {e : Exit} {a : Act} {w : World} (k : liftQ X n z' Q e a w) : liftQ X n z Q e a w := by
  obtain ⟨z'', σ, h', q, s⟩ := k
  exact ⟨z'', σ, h.trans h', q, s⟩

/-- From a state σ the code comes to an end in which Q holds. -/
def AWP (X : Cfg) (n : Nat) (z : Z) (c : Code) (Q : Exit → S → Prop) (σ : S) : Prop :=
  ∀ z', ZLe z z' → ∀ a w, St X n z' σ a w → c.wpIn (fen z.rd) 0 X.P (liftQ X n z' Q) a w

def thenQ (K : S → Prop) (Q : Exit → S → Prop) : Exit → S → Prop
  | .normal, σ => K σ
  | e, σ => Q e σ

def blockQ (id : Nat) (Q : Exit → S → Prop) : Exit → S → Prop
  | .exit i, σ => if i = id then Q .normal σ else Q (.exit i) σ
  | e, σ => Q e σ

section rules
variable {X : Cfg} {n : Nat} {z : Z} {Q : Exit → S → Prop} {σ : S}

theorem awp_mono {c : Code} {Q' : Exit → S → Prop} (h : AWP X n z c Q σ) (hq : ∀ e σ, Q e σ → Q' e σ) : AWP X n z c Q' σ :=
  fun z' hz a w s => wpIn_mono (h z' hz a w s) fun _ _ _ ⟨z'', σ', hz', q, s'⟩ => ⟨z'', σ', hz', hq _ _ q, s'⟩

theorem awp_skip (h : Q .normal σ) : AWP X n z .skip Q σ := fun z' _ _ _ s => wpIn_skip ⟨z', σ, ZLe.refl _, h, s⟩
theorem awp_label {l : Nat} (h : Q .normal σ) : AWP X n z (.label l) Q σ := fun z' _ _ _ s => wpIn_label ⟨z', σ, ZLe.refl _, h, s⟩
theorem awp_ret (h : Q .ret σ) : AWP X n z .ret Q σ := fun z' _ _ _ s => wpIn_ret ⟨z', σ, ZLe.refl _, h, s⟩
theorem awp_exit {id : Nat} (h : Q (.exit id) σ) : AWP X n z (.exit id) Q σ := fun z' _ _ _ s => wpIn_exit ⟨z', σ, ZLe.refl _, h, s⟩

theorem awp_seq {x y : Code} (h : AWP X n z x (thenQ (AWP X n z y Q) Q) σ) : AWP X n z (.seq x y) Q σ := by
  intro z1 hz1 a w s
  refine wpIn_seq (wpIn_mono (h z1 hz1 a w s) ?_)
  rintro e a' w' ⟨z2, σ', hz2, q, s'⟩
  cases e with
  | normal => exact wpIn_mono (q z2 (hz1.trans hz2) a' w' s') fun _ _ _ k => liftQ_le hz2 k
  | _ => exact ⟨z2, σ', hz2, q, s'⟩

theorem awp_block {id : Nat} {c : Code} (h : AWP X n z c (blockQ id Q) σ) : AWP X n z (.block id c) Q σ := by
  intro z1 hz1 a w s
  refine wpIn_block (wpIn_mono (h z1 hz1 a w s) ?_)
  rintro e a' w' ⟨z2, σ', hz2, q, s'⟩
  cases e with
  | exit i =>
    simp only [blockQ] at q
    simp only [Exit.inBlock]
    split at q
    · rename_i h; rw [if_pos h]; exact ⟨z2, σ', hz2, q, s'⟩
    · rename_i h; rw [if_neg h]; exact ⟨z2, σ', hz2, q, s'⟩
  | _ => exact ⟨z2, σ', hz2, q, s'⟩

theorem awp_cond {regs : List (Nat × V)} {μ : List E} {x : Operand} {c d : Code} {b : Bool} (hb : ev regs x = .c (.lit (.bool b))) (h1 : b = true → AWP X n z c Q ⟨regs, μ⟩) (h2 : b = false → AWP X n z d Q ⟨regs, μ⟩) :
    AWP X n z (.cond x c d) Q ⟨regs, μ⟩ := by
  intro z1 hz1 a w s
  obtain ⟨I, hH, hR, hx⟩ := s
  have hv := ev_rep hR x
  rw [hb] at hv
  have hv' : a.eval x = .bool b := by
    generalize a.eval x = v at hv
    cases hv; rfl
  exact wpIn_cond_split hv' (fun h => h1 h z1 hz1 a w ⟨I, hH, hR, hx⟩) (fun h => h2 h z1 hz1 a w ⟨I, hH, hR, hx⟩)

/-- Less may be known. -/
def Weak (σ τ : S) : Prop := ∀ (X : Cfg) (n : Nat) (z : Z) (a : Act) (w : World), St X n z σ a w → St X n z τ a w

theorem Weak.refl (σ : S) : Weak σ σ := fun _ _ _ _ _ h => h
theorem Weak.trans {σ τ υ : S} (h : Weak σ τ) (k : Weak τ υ) : Weak σ υ := fun X n z a w s => k X n z a w (h X n z a w s)

theorem awp_weak {c : Code} (τ : S) (h : Weak σ τ) (k : AWP X n z c Q τ) : AWP X n z c Q σ := fun z1 hz1 a w s => k z1 hz1 a w (h X n z1 a w s)

theorem awp_loop {c : Code} (G : Type) (T : G → S) (inv : G → Prop) (m : G → Nat) (h0 : ∃ g, inv g ∧ Weak σ (T g))
    (round : ∀ g, inv g → AWP X n z c (thenQ (fun τ => ∃ g', inv g' ∧ m g' < m g ∧ Weak τ (T g')) Q) (T g)) : AWP X n z (.loop c) Q σ := by
  intro z1 hz1 a w s
  obtain ⟨g0, i0, w0⟩ := h0
  intro b k cs hro hb hr
  have key : ∀ N a w g z2, m g = N → inv g → ZLe z1 z2 → St X n z2 (T g) a w →
      ∃ e a' w', liftQ X n z1 Q e a' w' ∧ ArrivesIn (Machine.fenced X.P (fen z.rd)) X.P (lone (b.atR a (.code c :: .inLoop c :: k)) cs w) b k cs e a' w' := by
    intro N
    induction N using Nat.strongRecOn with
    | _ N ih =>
      intro a w g z2 hN hi hz2 hs
      obtain ⟨e, a₁, w₁, ⟨z3, τ, hz3, hq, hτ⟩, harr⟩ := round g hi z2 (hz1.trans hz2) a w hs b (.inLoop c :: k) cs hro hb hr
      have hz := hz2.trans hz3
      cases e with
      | normal =>
        obtain ⟨g', hi', hlt, hw⟩ := hq
        obtain ⟨e₂, a₂, w₂, hq₂, harr₂⟩ := ih (m g') (hN ▸ hlt) a₁ w₁ g' z3 rfl hi' hz (hw _ _ _ _ _ hτ)
        exact ⟨e₂, a₂, w₂, hq₂, .of_steps (StepsIn.trans harr (.one (fenced_calm hb hr rfl) stepR_inLoop)) harr₂⟩
      | exit id => exact ⟨_, a₁, w₁, ⟨z3, τ, hz, hq, hτ⟩, .pass (x := .inLoop c) rfl (fun _ _ => .inl (by simp)) harr⟩
      | goto l => exact ⟨_, a₁, w₁, ⟨z3, τ, hz, hq, hτ⟩, .pass (x := .inLoop c) rfl (fun _ _ => .inl (by simp)) harr⟩
      | ret => exact ⟨_, a₁, w₁, ⟨z3, τ, hz, hq, hτ⟩, .pass (x := .inLoop c) rfl (fun _ _ => .inl (by simp)) harr⟩
      | panic ch => exact ⟨_, a₁, w₁, ⟨z3, τ, hz, hq, hτ⟩, .pass (x := .inLoop c) rfl (fun _ _ => .inl (by simp)) harr⟩
      | outgrown => exact ⟨_, a₁, w₁, ⟨z3, τ, hz, hq, hτ⟩, .pass (x := .inLoop c) rfl (fun _ _ => .inl (by simp)) harr⟩
  obtain ⟨e, a', w', hq, harr⟩ := key _ a w g0 z1 rfl i0 (ZLe.refl _) (w0 _ _ _ _ _ s)
  exact ⟨e, a', w', hq, .of_steps (.one (fenced_calm hb hr rfl) stepR_loop) harr⟩

end rules

/-! ## Weakening -/

def VLe (x y : V) : Prop := ∀ w I v, VRep w I x v → VRep w I y v
theorem VLe.refl (x : V) : VLe x x := fun _ _ _ h => h
theorem VLe.of_eq {x y : V} (h : x = y) : VLe x y := h ▸ VLe.refl x

def subR : List (Nat × V) → List (Nat × V) → Prop
  | [], _ => True
  | (t, v) :: r, R => VLe (look R t) v ∧ subR r R

theorem look_mem (r : List (Nat × V)) (t : Nat) : look r t = .un ∨ (t, look r t) ∈ r := by
  induction r with
  | nil => exact .inl rfl
  | cons p r ih =>
    obtain ⟨s, v⟩ := p
    rw [look_putR]
    by_cases h : s = t
    · subst h; rw [if_pos rfl]; exact .inr (by simp)
    · rw [if_neg h]
      rcases ih with h' | h'
      · exact .inl h'
      · exact .inr (List.mem_cons_of_mem _ h')

theorem subR_mem {R : List (Nat × V)} : ∀ {r : List (Nat × V)}, subR r R → ∀ t v, (t, v) ∈ r → VLe (look R t) v
  | [], _, _, _, h => by simp at h
  | (s, u) :: r, h, t, v, hm => by
    rcases List.mem_cons.1 hm with e | hm
    · injection e with e1 e2; subst e1; subst e2; exact h.1
    · exact subR_mem h.2 t v hm

/-- The entries that are kept. -/
def keep : List Bool → List E → List E
  | true :: m, e :: μ => e :: keep m μ
  | false :: m, _ :: μ => keep m μ
  | _, _ => []

theorem keep_perm : ∀ (m : List Bool) (μ : List E), ∃ φ, (keep m μ ++ φ).Perm μ
  | true :: m, e :: μ => by
    obtain ⟨φ, p⟩ := keep_perm m μ
    exact ⟨φ, List.Perm.cons e p⟩
  | false :: m, e :: μ => by
    obtain ⟨φ, p⟩ := keep_perm m μ
    exact ⟨e :: φ, List.perm_middle.trans (List.Perm.cons e p)⟩
  | [], μ => ⟨μ, by simp [keep]⟩
  | true :: _, [] => ⟨[], by simp [keep]⟩
  | false :: _, [] => ⟨[], by simp [keep]⟩

theorem Weak.mk {σ τ : S} (m : List Bool) (h : subR τ.regs σ.regs) (hμ : keep m σ.μ = τ.μ) : Weak σ τ := by
  intro X n z a w ⟨I, hH, hR, hx, hd, hs⟩
  obtain ⟨φ, p⟩ := keep_perm m σ.μ
  rw [hμ] at p
  have hH' : Heap X w I (τ.μ ++ φ) := hH.perm p.symm
  refine ⟨I, hH'.left, fun t => ?_, ?_, hd, hs⟩
  · rcases look_mem τ.regs t with e | hm
    · rw [e]; trivial
    · exact subR_mem h t _ hm w I _ (hR t)
  · exact hx.less fun b hb => (blocksOf_perm p).mem_iff.1 (by rw [blocksOf_append]; exact List.mem_append.2 (.inl hb))

/-! ## A loop, the registers and the memory that it leaves alone carried along -/

def dropN {α : Type} : Nat → List α → Option (List α)
  | 0, l => some l
  | k + 1, _ :: l => dropN k l
  | _ + 1, [] => none

theorem awp_loop_k {X : Cfg} {n : Nat} {z : Z} {Q : Exit → S → Prop} {c : Code} {regs base : List (Nat × V)} {μ bμ : List E} (k kμ : Nat) (_hb : dropN k regs = some base) (_hm : dropN kμ μ = some bμ) (G : Type) (hd : G → List (Nat × V)) (hμ : G → List E) (inv : G → Prop) (m : G → Nat)
    (h0 : ∃ g, inv g ∧ Weak ⟨regs, μ⟩ ⟨hd g ++ base, hμ g ++ bμ⟩)
    (round : ∀ g, inv g → AWP X n z c (thenQ (fun τ => ∃ g', inv g' ∧ m g' < m g ∧ Weak τ ⟨hd g' ++ base, hμ g' ++ bμ⟩) Q) ⟨hd g ++ base, hμ g ++ bμ⟩) : AWP X n z (.loop c) Q ⟨regs, μ⟩ :=
  awp_loop G (fun g => ⟨hd g ++ base, hμ g ++ bμ⟩) inv m h0 round

end Go.Eng
