/-
  The engine, part C: regions, operations one by one.
  Conditions: none; plain definitions and theorems over any program.
-/
import Derived.Test.YtgoggemkajhloaaGreatDoorEngB
namespace Go.Eng
open Go Go.RowKit

def notDefer (o : Oper) : Bool := match o.op with | .defer _ => false | _ => true

def dstOk (n : Nat) (o : Oper) : Bool := (match o.dst with | some d => Nat.blt d n | none => true) && notDefer o

theorem dstOk.nd {n : Nat} {o : Oper} (h : dstOk n o = true) : notDefer o = true := by
  simp only [dstOk, Bool.and_eq_true] at h; exact h.2

theorem semAt_eq {o : Oper} (h : notDefer o = true) (rd : Option Nat) (e : Operand → Value) : o.semAt rd e = execOp e o := by
  unfold Oper.semAt
  split
  · rename_i hc; simp [notDefer, hc] at h
  · rfl

/-- The operations l of a region, from σ on. -/
def RWP (X : Cfg) (n : Nat) (z : Z) (ops : Array Oper) (l : List Oper) (Q : Exit → S → Prop) (σ : S) : Prop :=
  l.all (dstOk n) = true → ∀ z', ZLe z z' → ∀ a w, St X n z' σ a w → wpListIn (fen z.rd) 0 X.P ops (liftQ X n z' Q) l a w

theorem awp_region {X : Cfg} {n : Nat} {z : Z} {Q : Exit → S → Prop} {σ : S} {id : Nat} {l : List Oper} (hd : l.all (dstOk n) = true) (h : RWP X n z l.toArray l Q σ) :
    AWP X n z (.region id l.toArray false) Q σ := fun z1 hz1 a w s => wpIn_region_lit (h hd z1 hz1 a w s)

/-- One operation, in a round or not. -/
def OW (P : Program) (o : Oper) (a : Act) (w : World) (K : Act → World → Prop) (Q : Exit → Act → World → Prop) : Prop :=
  notDefer o = true → ∀ rd, o.wpIn (fen rd) 0 P a w K Q

/-- What an operation does, whatever the order: from the owned μ and the operands' values e to results and memory that satisfy R. -/
def OpE (X : Cfg) (o : Oper) (e : Operand → V) (μ : List E) (R : V → List E → Prop) : Prop :=
  ∀ (a : Act) (w : World) (I : Nat → Prop), Heap X w I μ → (∀ x, x ∈ o.op.operands → VRep w I (e x) (a.eval x)) →
    ∀ (K : Act → World → Prop) (Q : Exit → Act → World → Prop),
      (∀ v r μ' I' w', R r μ' → VRep w' I' r v → Heap X w' I' μ' → Ext w I μ w' I' μ' → K (a.put o.dst v) w') → OW X.P o a w K Q

/-- The same, the outcome known. -/
def Det (X : Cfg) (o : Oper) (e : Operand → V) (μ : List E) (r : V) (μ' : List E) : Prop := OpE X o e μ fun r' μ'' => r' = r ∧ μ'' = μ'

theorem tmps_put {a : Act} {d : Tmp} {v : Value} {n : Nat} (hs : a.tmps.size = n) (hd : d < n) (t : Nat) : (a.put (some d) v).tmps.getD t undef = if d = t then v else a.tmps.getD t undef := by
  simp only [Act.put, Array.getD_eq_getD_getElem?, Array.getElem?_setIfInBounds]
  by_cases h : d = t
  · subst h; simp [hs, hd]
  · simp [h]

theorem St.put {X : Cfg} {n : Nat} {z : Z} {σ : S} {a : Act} {w : World} {I : Nat → Prop} (hH : Heap X w I σ.μ) (hR : ∀ t, VRep w I (look σ.regs t) (a.tmps.getD t undef)) (hx : Ext z.w z.I z.μ w I σ.μ)
    (hd : a.defers = z.ds) (hs : a.tmps.size = n) {o : Oper} (ho : dstOk n o = true) {v : Value} {r : V} {μ' : List E} {I' : Nat → Prop} {w' : World} (hr : VRep w' I' r v) (hH' : Heap X w' I' μ') (x : Ext w I σ.μ w' I' μ') :
    St X n z ⟨putR o.dst r σ.regs, μ'⟩ (a.put o.dst v) w' := by
  refine ⟨I', hH', fun t => ?_, hx.trans x, ?_, ?_⟩
  · cases hdst : o.dst with
    | none => exact hH.vrep x (hR t)
    | some d =>
      have hlt : d < n := by
        simp only [dstOk, hdst, Bool.and_eq_true] at ho
        simpa [Nat.blt_eq] using ho.1
      rw [tmps_put hs hlt]
      simp only [putR]
      rw [look_putR]
      split
      · exact hr
      · exact hH.vrep x (hR t)
  · cases hdst : o.dst <;> simp [Act.put, hd]
  · cases hdst : o.dst <;> simp [Act.put, hs]

section steps
variable {X : Cfg} {n : Nat} {z : Z} {Q : Exit → S → Prop} {regs : List (Nat × V)} {μ : List E} {ops : Array Oper} {rest : List Oper} {o : Oper}

theorem rwp_nil (h : Q .normal ⟨regs, μ⟩) : RWP X n z ops [] Q ⟨regs, μ⟩ := fun _ z1 _ _ _ s => ⟨z1, _, ZLe.refl _, h, s⟩

theorem rwp_op' {R : V → List E → Prop} (hg : o.guard = none) (h : OpE X o (ev regs) μ R) (k : ∀ r μ', R r μ' → RWP X n z ops rest Q ⟨putR o.dst r regs, μ'⟩) : RWP X n z ops (o :: rest) Q ⟨regs, μ⟩ := by
  intro hall z1 hz1 a w ⟨I, hH, hR, hx, hd, hs⟩
  simp only [List.all_cons, Bool.and_eq_true] at hall
  refine wpListIn_plain hg fun K hK => h a w I hH (fun x _ => ev_rep hR x) K _ ?_ (dstOk.nd hall.1) _
  intro v r μ' I' w' hr hv hH' x
  exact hK _ _ (k r μ' hr hall.2 z1 hz1 _ _ (St.put hH hR hx hd hs hall.1 hv hH' x))

theorem rwp_op {R : V → List E → Prop} {d : Tmp} (hd : o.dst = some d) (hg : o.guard = none) (h : OpE X o (ev regs) μ R) (k : ∀ r μ', R r μ' → RWP X n z ops rest Q ⟨(d, r) :: regs, μ'⟩) : RWP X n z ops (o :: rest) Q ⟨regs, μ⟩ :=
  rwp_op' hg h (by rw [hd]; exact k)

theorem rwp_op0 {R : V → List E → Prop} (hd : o.dst = none) (hg : o.guard = none) (h : OpE X o (ev regs) μ R) (k : ∀ r μ', R r μ' → RWP X n z ops rest Q ⟨regs, μ'⟩) : RWP X n z ops (o :: rest) Q ⟨regs, μ⟩ :=
  rwp_op' hg h (by rw [hd]; exact k)

theorem rwp_det {r : V} {μ' : List E} {d : Tmp} (hd : o.dst = some d) (hg : o.guard = none) (h : Det X o (ev regs) μ r μ') (k : RWP X n z ops rest Q ⟨(d, r) :: regs, μ'⟩) : RWP X n z ops (o :: rest) Q ⟨regs, μ⟩ :=
  rwp_op hd hg h fun _ _ ⟨e1, e2⟩ => e1 ▸ e2 ▸ k

theorem rwp_det0 {r : V} {μ' : List E} (hd : o.dst = none) (hg : o.guard = none) (h : Det X o (ev regs) μ r μ') (k : RWP X n z ops rest Q ⟨regs, μ'⟩) : RWP X n z ops (o :: rest) Q ⟨regs, μ⟩ :=
  rwp_op0 hd hg h fun _ _ ⟨_, e2⟩ => e2 ▸ k

/-- A guarded operation whose guard holds. -/
theorem wanted_of {w : World} {I : Nat → Prop} {regs : List (Nat × V)} {a : Act} {n : Nat} (hR : ∀ t, VRep w I (look regs t) (a.tmps.getD t undef)) (hs : a.tmps.size = n) {j d : Nat} {want b : Bool} (hg : o.guard = some (j, want)) (hj : (ops[j]?).bind (·.dst) = some d)
    (hdn : d < n) (hb : look regs d = .c (.lit (.bool b))) : Region.wanted o (yielded ops a.tmps) = (b == want) := by
  have h := hR d
  rw [hb] at h
  have h' : a.tmps.getD d undef = .bool b := by
    generalize a.tmps.getD d undef = v at h
    cases h; rfl
  have h2 : a.tmps[d]? = some (.bool b) := by
    rw [Array.getD_eq_getD_getElem?] at h'
    have : d < a.tmps.size := by omega
    rw [Array.getElem?_eq_getElem this] at h' ⊢
    simpa using h'
  simp only [Region.wanted, hg, yielded, hj, Option.bind_some, h2]
  cases b <;> cases want <;> rfl

/-- Split on a guard. -/
theorem rwp_split {l : List Oper} (d : Nat) {b : Bool} (_hb : look regs d = .c (.lit (.bool b))) (h1 : b = true → RWP X n z ops l Q ⟨regs, μ⟩) (h2 : b = false → RWP X n z ops l Q ⟨regs, μ⟩) : RWP X n z ops l Q ⟨regs, μ⟩ := by
  cases b
  · exact h2 rfl
  · exact h1 rfl

end steps

/-! ## The guard left open: a quiet operation whose result is known wherever it runs -/

def Lz (b want : Bool) : Bool := cond want b (!b)

def V.plain : V → Bool
  | .c _ | .agg _ | .un => true
  | _ => false

theorem V.ifv_rep {w : World} {I : Nat → Prop} {b : Bool} (hb : b = true) {y : V} (hp : y.plain = true) {v : Value} (h : VRep w I (.ifv b y) v) : VRep w I y v := by
  have h' : V1Rep w I (.ifv b y) v := h
  have h2 := h'.1 hb
  cases y with
  | c y => exact h2
  | agg l => exact h2
  | un => trivial
  | tup l => cases hp
  | ifv b x => cases hp

/-- Registers that hold something where g holds. -/
def ovOk (g : Bool) (regs : List (Nat × V)) : List (Nat × V) → Prop
  | [] => True
  | (d, y) :: r => look regs d = .ifv g y ∧ y.plain = true ∧ ovOk g regs r

theorem ov_rep {w : World} {I : Nat → Prop} {g : Bool} (hg : g = true) {regs : List (Nat × V)} {a : Act} (hR : ∀ t, VRep w I (look regs t) (a.tmps.getD t undef)) : ∀ {ov : List (Nat × V)}, ovOk g regs ov → ∀ t, VRep w I (look (ov ++ regs) t) (a.tmps.getD t undef)
  | [], _, t => hR t
  | (d, y) :: r, h, t => by
    rw [List.cons_append, look_putR]
    split
    · rename_i e
      subst e
      have h1 := hR d
      rw [h.1] at h1
      exact V.ifv_rep hg h.2.1 h1
    · exact ov_rep hg hR h.2.2 t

/-- When a guarded operation runs: the guard's value is b, or there is one only where b0 holds. -/
def guardV (x : V) (want g : Bool) : Prop := (∃ b, x = .c (.lit (.bool b)) ∧ g = Lz b want) ∨ ∃ b0 b, x = .ifv b0 (.c (.lit (.bool b))) ∧ g = (b0 && Lz b want)

theorem gv1 {b want : Bool} : guardV (.c (.lit (.bool b))) want (Lz b want) := .inl ⟨b, rfl, rfl⟩
theorem gv2 {b0 b want : Bool} : guardV (.ifv b0 (.c (.lit (.bool b)))) want (b0 && Lz b want) := .inr ⟨b0, b, rfl, rfl⟩
theorem lzf {b : Bool} (h : b = false) : Lz b false = true := by rw [h]; rfl
theorem and_mk {a b : Bool} (h : a = true) (k : b = true) : (a && b) = true := by rw [h, k]; rfl

theorem wanted_g {o : Oper} {ops : Array Oper} {w : World} {I : Nat → Prop} {regs : List (Nat × V)} {a : Act} {n : Nat} (hR : ∀ t, VRep w I (look regs t) (a.tmps.getD t undef)) (hs : a.tmps.size = n) {j d : Nat} {want g : Bool} (hg : o.guard = some (j, want)) (hj : (ops[j]?).bind (·.dst) = some d)
    (hdn : d < n) (hb : guardV (look regs d) want g) : Region.wanted o (yielded ops a.tmps) = g := by
  rcases hb with ⟨b, hb, rfl⟩ | ⟨b0, b, hb, rfl⟩
  · rw [wanted_of hR hs hg hj hdn hb]
    cases b <;> cases want <;> rfl
  · have h := hR d
    rw [hb] at h
    have h' : V1Rep w I (.ifv b0 (.c (.lit (.bool b)))) (a.tmps.getD d undef) := h
    have hget : a.tmps[d]? = some (a.tmps.getD d undef) := by
      have : d < a.tmps.size := by omega
      simp [this]
    cases b0
    · have hu := h'.2 rfl
      rw [hu] at hget
      simp only [Region.wanted, hg, yielded, hj, Option.bind_some, hget, undef]
      cases want <;> rfl
    · have h2 : CRep w I (.lit (.bool b)) (a.tmps.getD d undef) := h'.1 rfl
      have h3 : a.tmps.getD d undef = .bool b := by
        generalize a.tmps.getD d undef = v at h2
        cases h2; rfl
      rw [h3] at hget
      simp only [Region.wanted, hg, yielded, hj, Option.bind_some, hget]
      cases b <;> cases want <;> rfl

section guarded
variable {X : Cfg} {n : Nat} {z : Z} {Q : Exit → S → Prop} {regs : List (Nat × V)} {μ : List E} {ops : Array Oper} {rest : List Oper} {o : Oper} {t j d : Nat} {want g : Bool}

theorem rwp_yes' {R : V → List E → Prop} (hg : o.guard = some (j, want)) (hj : (ops[j]?).bind (·.dst) = some d) (hdn : Nat.blt d n = true) (hb : guardV (look regs d) want g) (he : g = true)
    (h : OpE X o (ev regs) μ R) (k : ∀ r μ', R r μ' → RWP X n z ops rest Q ⟨putR o.dst r regs, μ'⟩) : RWP X n z ops (o :: rest) Q ⟨regs, μ⟩ := by
  intro hall z1 hz1 a w ⟨I, hH, hR, hx, hd, hs⟩
  simp only [List.all_cons, Bool.and_eq_true] at hall
  refine wpListIn_step fun K hK => ?_
  rw [if_pos (by rw [wanted_g hR hs hg hj (by simpa [Nat.blt_eq] using hdn) hb, he])]
  refine h a w I hH (fun x _ => ev_rep hR x) K _ ?_ (dstOk.nd hall.1) _
  intro v r μ' I' w' hr hv hH' x
  exact hK _ _ (k r μ' hr hall.2 z1 hz1 _ _ (St.put hH hR hx hd hs hall.1 hv hH' x))

theorem rwp_yes {R : V → List E → Prop} (ht : o.dst = some t) (hg : o.guard = some (j, want)) (hj : (ops[j]?).bind (·.dst) = some d) (hdn : Nat.blt d n = true) (hb : guardV (look regs d) want g) (he : g = true)
    (h : OpE X o (ev regs) μ R) (k : ∀ r μ', R r μ' → RWP X n z ops rest Q ⟨(t, r) :: regs, μ'⟩) : RWP X n z ops (o :: rest) Q ⟨regs, μ⟩ :=
  rwp_yes' hg hj hdn hb he h (by rw [ht]; exact k)

theorem rwp_yes0 {R : V → List E → Prop} (ht : o.dst = none) (hg : o.guard = some (j, want)) (hj : (ops[j]?).bind (·.dst) = some d) (hdn : Nat.blt d n = true) (hb : guardV (look regs d) want g) (he : g = true)
    (h : OpE X o (ev regs) μ R) (k : ∀ r μ', R r μ' → RWP X n z ops rest Q ⟨regs, μ'⟩) : RWP X n z ops (o :: rest) Q ⟨regs, μ⟩ :=
  rwp_yes' hg hj hdn hb he h (by rw [ht]; exact k)

theorem rwp_yes_det {r : V} {μ' : List E} (ht : o.dst = some t) (hg : o.guard = some (j, want)) (hj : (ops[j]?).bind (·.dst) = some d) (hdn : Nat.blt d n = true) (hb : guardV (look regs d) want g) (he : g = true)
    (h : Det X o (ev regs) μ r μ') (k : RWP X n z ops rest Q ⟨(t, r) :: regs, μ'⟩) : RWP X n z ops (o :: rest) Q ⟨regs, μ⟩ :=
  rwp_yes ht hg hj hdn hb he h fun _ _ ⟨e1, e2⟩ => e1 ▸ e2 ▸ k

theorem rwp_yes_det0 {r : V} {μ' : List E} (ht : o.dst = none) (hg : o.guard = some (j, want)) (hj : (ops[j]?).bind (·.dst) = some d) (hdn : Nat.blt d n = true) (hb : guardV (look regs d) want g) (he : g = true)
    (h : Det X o (ev regs) μ r μ') (k : RWP X n z ops rest Q ⟨regs, μ'⟩) : RWP X n z ops (o :: rest) Q ⟨regs, μ⟩ :=
  rwp_yes0 ht hg hj hdn hb he h fun _ _ ⟨_, e2⟩ => e2 ▸ k

theorem rwp_no' (hg : o.guard = some (j, want)) (hj : (ops[j]?).bind (·.dst) = some d) (hdn : Nat.blt d n = true) (hb : guardV (look regs d) want g) (he : g = false)
    (k : RWP X n z ops rest Q ⟨putR o.dst (.ifv false (.c (.lit (.bool false)))) regs, μ⟩) : RWP X n z ops (o :: rest) Q ⟨regs, μ⟩ := by
  intro hall z1 hz1 a w ⟨I, hH, hR, hx, hd, hs⟩
  simp only [List.all_cons, Bool.and_eq_true] at hall
  refine wpListIn_step fun K hK => ?_
  rw [if_neg (by rw [wanted_g hR hs hg hj (by simpa [Nat.blt_eq] using hdn) hb, he]; simp)]
  refine ⟨fun _ _ => trivial, hK _ _ (k hall.2 z1 hz1 _ _ (St.put hH hR hx hd hs hall.1 (r := .ifv false (.c (.lit (.bool false)))) ?_ hH (Ext.refl _ _ _)))⟩
  show V1Rep w I (.ifv false (.c (.lit (.bool false)))) undef
  exact ⟨fun h => by simp at h, fun _ => rfl⟩

theorem rwp_no (ht : o.dst = some t) (hg : o.guard = some (j, want)) (hj : (ops[j]?).bind (·.dst) = some d) (hdn : Nat.blt d n = true) (hb : guardV (look regs d) want g) (he : g = false)
    (k : RWP X n z ops rest Q ⟨(t, .ifv false (.c (.lit (.bool false)))) :: regs, μ⟩) : RWP X n z ops (o :: rest) Q ⟨regs, μ⟩ := rwp_no' hg hj hdn hb he (by rw [ht]; exact k)

theorem rwp_no0 (ht : o.dst = none) (hg : o.guard = some (j, want)) (hj : (ops[j]?).bind (·.dst) = some d) (hdn : Nat.blt d n = true) (hb : guardV (look regs d) want g) (he : g = false)
    (k : RWP X n z ops rest Q ⟨regs, μ⟩) : RWP X n z ops (o :: rest) Q ⟨regs, μ⟩ := rwp_no' hg hj hdn hb he (by rw [ht]; exact k)

end guarded

theorem rwp_lazy {X : Cfg} {n : Nat} {z : Z} {Q : Exit → S → Prop} {regs : List (Nat × V)} {μ : List E} {ops : Array Oper} {rest : List Oper} {o : Oper} {r : V} {t j d : Nat} {want g : Bool} (ov : List (Nat × V)) (ht : o.dst = some t)
    (hg : o.guard = some (j, want)) (hj : (ops[j]?).bind (·.dst) = some d) (hdn : Nat.blt d n = true) (hb : guardV (look regs d) want g) (hov : ovOk g regs ov)
    (h : g = true → Det X o (ev (ov ++ regs)) μ r μ) (hpl : r.plain = true)
    (k : RWP X n z ops rest Q ⟨(t, .ifv g r) :: regs, μ⟩) : RWP X n z ops (o :: rest) Q ⟨regs, μ⟩ := by
  intro hall z1 hz1 a w ⟨I, hH, hR, hx, hd, hs⟩
  simp only [List.all_cons, Bool.and_eq_true] at hall
  refine wpListIn_step fun K hK => ?_
  replace k : RWP X n z ops rest Q ⟨putR o.dst (.ifv g r) regs, μ⟩ := by rw [ht]; exact k
  have hw := wanted_g hR hs hg hj (by simpa [Nat.blt_eq] using hdn) hb
  cases hgv : g
  · rw [if_neg (by rw [hw, hgv]; simp)]
    refine ⟨fun _ _ => trivial, hK _ _ (k hall.2 z1 hz1 _ _ (St.put hH hR hx hd hs hall.1 (r := .ifv g r) ?_ hH (Ext.refl _ _ _)))⟩
    show V1Rep w I (.ifv g r) undef
    exact ⟨fun h => absurd (hgv.symm.trans h) (by simp), fun _ => rfl⟩
  · rw [if_pos (by rw [hw, hgv])]
    refine h hgv a w I hH (fun x _ => ev_rep (ov_rep hgv hR hov) x) K _ ?_ (dstOk.nd hall.1) _
    rintro v r' μ' I' w' ⟨rfl, rfl⟩ hv hH' x
    refine hK _ _ (k hall.2 z1 hz1 _ _ (St.put hH hR hx hd hs hall.1 (r := .ifv g r') ?_ hH' x))
    show V1Rep w' I' (.ifv g r') v
    refine ⟨fun _ => ?_, fun h => absurd (hgv.symm.trans h) (by simp)⟩
    cases r' with
    | c y => exact hv
    | agg l => exact hv
    | un => trivial
    | tup l => cases hpl
    | ifv b x => cases hpl

/-! ## Facts on types -/

def aggT (P : Program) (t : TypeId) : Option Nat :=
  match P.underlying t, P.info? t with
  | some (.struct _), some i => some i.size
  | some (.array ..), some i => some i.size
  | _, _ => none

def oneT (P : Program) (t : TypeId) : Bool :=
  match P.underlying t, P.info? t with
  | some (.struct _), _ => false
  | some (.array ..), _ => false
  | some _, some i => i.size == 1
  | _, _ => false

def zeroT (P : Program) (t : TypeId) : Option (List Value) :=
  match P.info? t with
  | some i => match i.zero with
    | some v => if v.cells.all Value.oneCell' then some v.cells.toList else none
    | none => none
  | none => none

def fieldT (P : Program) (s : TypeId) (f : Nat) : Option (Nat × TypeId) :=
  match P.underlying s with
  | some (.struct fs) => match fs[f]? with
    | some fd => match P.info? fd.type with
      | some i => if i.size = 0 then none else some (fd.offset, fd.type)
      | none => none
    | none => none
  | _ => none

/-- Element type, its cells and bytes. -/
def elemT (P : Program) (t : TypeId) : Option (TypeId × Nat × Nat) :=
  match P.underlying t with
  | some (.slice e) => match P.info? e with
    | some i => match i.zero with
      | some zv => if zv.cells.size = i.size ∧ 0 < i.size then some (e, i.size, i.bytes) else none
      | none => none
    | none => none
  | _ => none

section inv
variable {w : World} {I : Nat → Prop}
theorem VRep.lit_inv {v u : Value} (h : VRep w I (.c (.lit v)) u) : u = v := by
  have h' : CRep w I (.lit v) u := h
  cases h'; rfl
theorem VRep.agg_inv {l : List C} {u : Value} (h : VRep w I (.agg l) u) : ∃ vs : List Value, u = .agg vs.toArray ∧ CReps w I l vs := h
end inv

theorem wp_value {P : Program} {o : Oper} {a : Act} {w w' : World} {v : Value} {K : Act → World → Prop} {Q : Exit → Act → World → Prop} (h : (execOp a.eval o).run P w = .ok (.value v) w') (k : K (a.put o.dst v) w') : OW P o a w K Q := by
  intro hn rd
  refine ⟨fun _ _ => trivial, ?_⟩
  rw [semAt_eq hn, h]; exact k
theorem wp_unit {P : Program} {o : Oper} {a : Act} {w w' : World} {K : Act → World → Prop} {Q : Exit → Act → World → Prop} (h : (execOp a.eval o).run P w = .ok .skip w') (k : K (a.put o.dst undef) w') : OW P o a w K Q := by
  intro hn rd
  refine ⟨fun _ _ => trivial, ?_⟩
  rw [semAt_eq hn, h]; exact k

/-! ## Operations that touch no memory -/
section plain
variable {X : Cfg} {o : Oper} {e : Operand → V} {μ : List E}

theorem det_same {r : V} (h : ∀ (a : Act) (w : World) (I : Nat → Prop), Heap X w I μ → (∀ x, x ∈ o.op.operands → VRep w I (e x) (a.eval x)) → ∃ v, (execOp a.eval o).run X.P w = .ok (.value v) w ∧ VRep w I r v) : Det X o e μ r μ := by
  intro a w I hH hops K Q k
  obtain ⟨v, hrun, hv⟩ := h a w I hH hops
  exact wp_value hrun (k v r μ I w ⟨rfl, rfl⟩ hv hH (Ext.refl _ _ _))

theorem det_mv {x : Operand} (ho : o.op = .move x ∨ o.op = .assign x) : Det X o e μ (e x) μ :=
  det_same fun a w I _ hops => ⟨a.eval x, by rcases ho with ho | ho <;> simp [execOp, ho], hops x (by rcases ho with ho | ho <;> rw [ho] <;> simp [Op.operands])⟩
theorem det_move {x : Operand} {y : C} (ho : o.op = .move x) (hx : e x = .c y) : Det X o e μ (.c y) μ := hx ▸ det_mv (.inl ho)
theorem det_assign {x : Operand} {y : C} (ho : o.op = .assign x) (hx : e x = .c y) : Det X o e μ (.c y) μ := hx ▸ det_mv (.inr ho)
theorem det_move_agg {x : Operand} {y : List C} (ho : o.op = .move x) (hx : e x = .agg y) : Det X o e μ (.agg y) μ := hx ▸ det_mv (.inl ho)
theorem det_assign_agg {x : Operand} {y : List C} (ho : o.op = .assign x) (hx : e x = .agg y) : Det X o e μ (.agg y) μ := hx ▸ det_mv (.inr ho)
theorem det_move_tup {x : Operand} {y : List V} (ho : o.op = .move x) (hx : e x = .tup y) : Det X o e μ (.tup y) μ := hx ▸ det_mv (.inl ho)
theorem det_assign_tup {x : Operand} {y : List V} (ho : o.op = .assign x) (hx : e x = .tup y) : Det X o e μ (.tup y) μ := hx ▸ det_mv (.inr ho)
theorem det_move_ifv {x : Operand} {b : Bool} {y : V} (ho : o.op = .move x) (hx : e x = .ifv b y) : Det X o e μ (.ifv b y) μ := hx ▸ det_mv (.inl ho)
theorem det_move_un {x : Operand} (ho : o.op = .move x) : Det X o e μ .un μ :=
  det_same fun a w I _ _ => ⟨a.eval x, by simp [execOp, ho], trivial⟩

theorem det_pick {c x y : Operand} {b : Bool} (ho : o.op = .pick c x y) (hc : e c = .c (.lit (.bool b))) : Det X o e μ (cond b (e x) (e y)) μ :=
  det_same fun a w I _ hops => by
    have hcv := hops c (by rw [ho]; simp [Op.operands])
    rw [hc] at hcv
    have := hcv.lit_inv
    cases b
    · exact ⟨a.eval y, by simp [execOp, ho, this, asBool], hops y (by rw [ho]; simp [Op.operands])⟩
    · exact ⟨a.eval x, by simp [execOp, ho, this, asBool], hops x (by rw [ho]; simp [Op.operands])⟩

/-- 'p && q', q left open. -/
theorem det_and {c x y : Operand} {b d g : Bool} (ho : o.op = .pick c x y) (hc : e c = .c (.lit (.bool b))) (hx : e x = .ifv g (.c (.lit (.bool d)))) (hg : b = true → g = true) (hy : e y = .c (.lit (.bool false))) : Det X o e μ (.c (.lit (.bool (b && d)))) μ :=
  det_same fun a w I _ hops => by
    have hcv := hops c (by rw [ho]; simp [Op.operands])
    rw [hc] at hcv
    have h0 := hcv.lit_inv
    cases b
    · have hyv := hops y (by rw [ho]; simp [Op.operands])
      rw [hy] at hyv
      have h1 := hyv.lit_inv
      exact ⟨.bool false, by simp [execOp, ho, h0, h1, asBool], CRep.lit _ rfl⟩
    · have hxv := hops x (by rw [ho]; simp [Op.operands])
      rw [hx] at hxv
      have h2 : CRep w I (.lit (.bool d)) (a.eval x) := (show V1Rep w I (.ifv g (.c (.lit (.bool d)))) (a.eval x) from hxv).1 (hg rfl)
      exact ⟨a.eval x, by simp [execOp, ho, h0, asBool], h2⟩

/-- 'p || q', q left open. -/
theorem det_or {c x y : Operand} {b d g : Bool} (ho : o.op = .pick c x y) (hc : e c = .c (.lit (.bool b))) (hx : e x = .c (.lit (.bool true))) (hy : e y = .ifv g (.c (.lit (.bool d)))) (hg : b = false → g = true) : Det X o e μ (.c (.lit (.bool (b || d)))) μ :=
  det_same fun a w I _ hops => by
    have hcv := hops c (by rw [ho]; simp [Op.operands])
    rw [hc] at hcv
    have h0 := hcv.lit_inv
    cases b
    · have hyv := hops y (by rw [ho]; simp [Op.operands])
      rw [hy] at hyv
      have h2 : CRep w I (.lit (.bool d)) (a.eval y) := (show V1Rep w I (.ifv g (.c (.lit (.bool d)))) (a.eval y) from hyv).1 (hg rfl)
      exact ⟨a.eval y, by simp [execOp, ho, h0, asBool], h2⟩
    · have hxv := hops x (by rw [ho]; simp [Op.operands])
      rw [hx] at hxv
      have h1 := hxv.lit_inv
      exact ⟨.bool true, by simp [execOp, ho, h0, h1, asBool], CRep.lit _ rfl⟩

theorem det_bin {op : BinOp} {t ty : TypeId} {x y : Operand} {u v r : Value} (ho : o.op = .binOp op t x y ty) (hx : e x = .c (.lit u)) (hy : e y = .c (.lit v))
    (hr : ∀ w, (do eqGuard op t x y u v; binOp op t u v : Sem Value).run X.P w = .ok r w) (h1 : r.oneCell' = true) : Det X o e μ (.c (.lit r)) μ :=
  det_same fun a w I _ hops => by
    have hxv := hops x (by rw [ho]; simp [Op.operands])
    have hyv := hops y (by rw [ho]; simp [Op.operands])
    rw [hx] at hxv
    rw [hy] at hyv
    have h0 := hxv.lit_inv
    have h2 := hyv.lit_inv
    refine ⟨r, ?_, CRep.lit _ h1⟩
    have := hr w
    simp only [execOp, ho, h0, h2, Sem.run_bind, this, Result.andThen_ok, Sem.run_pure]

section ints
variable {t ty : TypeId} {x y : Operand} {k : IntKind} {a b : Int}
theorem det_add (ho : o.op = .binOp .add t x y ty) (hx : e x = .c (.lit (.int k a))) (hy : e y = .c (.lit (.int k b))) : Det X o e μ (.c (.lit (.int k (k.wrap (a + b))))) μ := det_bin ho hx hy (fun w => by simp [go_sem]) rfl
theorem det_sub (ho : o.op = .binOp .sub t x y ty) (hx : e x = .c (.lit (.int k a))) (hy : e y = .c (.lit (.int k b))) : Det X o e μ (.c (.lit (.int k (k.wrap (a - b))))) μ := det_bin ho hx hy (fun w => by simp [go_sem]) rfl
theorem det_mul (ho : o.op = .binOp .mul t x y ty) (hx : e x = .c (.lit (.int k a))) (hy : e y = .c (.lit (.int k b))) : Det X o e μ (.c (.lit (.int k (k.wrap (a * b))))) μ := det_bin ho hx hy (fun w => by simp [go_sem]) rfl
theorem det_quo (ho : o.op = .binOp .quo t x y ty) (hx : e x = .c (.lit (.int k a))) (hy : e y = .c (.lit (.int k b))) (hb : b ≠ 0) : Det X o e μ (.c (.lit (.int k (k.wrap (a.tdiv b))))) μ := det_bin ho hx hy (fun w => by simp [eqGuard, binOp, Op.intDiv, hb]) rfl
theorem det_rem (ho : o.op = .binOp .rem t x y ty) (hx : e x = .c (.lit (.int k a))) (hy : e y = .c (.lit (.int k b))) (hb : b ≠ 0) : Det X o e μ (.c (.lit (.int k (a.tmod b)))) μ := det_bin ho hx hy (fun w => by simp [eqGuard, binOp, Op.intDiv, hb]) rfl
theorem det_eql (ho : o.op = .binOp .eql t x y ty) (hx : e x = .c (.lit (.int k a))) (hy : e y = .c (.lit (.int k b))) : Det X o e μ (.c (.lit (.bool (decide (a = b))))) μ := det_bin ho hx hy (fun w => by simp [go_sem]; exact decide_eq_decide.2 Iff.rfl) rfl
theorem det_neq (ho : o.op = .binOp .neq t x y ty) (hx : e x = .c (.lit (.int k a))) (hy : e y = .c (.lit (.int k b))) : Det X o e μ (.c (.lit (.bool (!decide (a = b))))) μ := det_bin ho hx hy (fun w => by simp [go_sem]; rfl) rfl
theorem det_lss (ho : o.op = .binOp .lss t x y ty) (hx : e x = .c (.lit (.int k a))) (hy : e y = .c (.lit (.int k b))) : Det X o e μ (.c (.lit (.bool (decide (a < b))))) μ := det_bin ho hx hy (fun w => by simp [go_sem]) rfl
theorem det_leq (ho : o.op = .binOp .leq t x y ty) (hx : e x = .c (.lit (.int k a))) (hy : e y = .c (.lit (.int k b))) : Det X o e μ (.c (.lit (.bool (decide (a ≤ b))))) μ := det_bin ho hx hy (fun w => by simp [go_sem]) rfl
theorem det_gtr (ho : o.op = .binOp .gtr t x y ty) (hx : e x = .c (.lit (.int k a))) (hy : e y = .c (.lit (.int k b))) : Det X o e μ (.c (.lit (.bool (decide (b < a))))) μ := det_bin ho hx hy (fun w => by simp [go_sem]) rfl
theorem det_geq (ho : o.op = .binOp .geq t x y ty) (hx : e x = .c (.lit (.int k a))) (hy : e y = .c (.lit (.int k b))) : Det X o e μ (.c (.lit (.bool (decide (b ≤ a))))) μ := det_bin ho hx hy (fun w => by simp [go_sem]) rfl
end ints

end plain
end Go.Eng
