/-
  The engine, part R: an append of a make to the nil slice, cuts of it, capacities, the greatest of four.
  The engine, part S: regions in open order where quiet operations float behind the one that changes memory.
  The engine, part T: cuts of slices that are maps of lists.
  The engine, part U: regions whose order is open, in general: quiet operations, a chain of operations that change memory or make it, and makers of new memory that hang on nothing in the region.
  The engine, part V: make of slices that nobody writes any more.
  The engine, part W: ranges over functions with a ghost; calls that turn an own slice into another.
  The engine, part AA: ranges over functions with a ghost that may be left early.
  The engine, part AB: memory on both sides of what a call hands back is forgotten.
  The engine, part AD: cuts of an own slice as plain values, the append of one of its cuts to another, clear behind its end.
  The engine, part AE: results whose whole tree is fresh: slices left alone as fresh ones, regions of the caller's own, lending a region.
  The engine, part AF: a region of the caller's own whose cells may be written, kind by kind.
  The engine, part AG: slice literals without elements, and what is appended to them; truth values of a region.
  The engine, part AH: an own slice cut at its end; calls that read memory of the caller's own.
  The engine, part AI: memory as it is; a contract where more is known of the package-level variables.
  The engine, part AJ: an array's cell, at a written index.
  The engine, part AK: a region of the caller's own lent to a function that reads; from here on a region is known cell by cell.
  The engine, part AL: a call that takes all memory behind the first entry and gives one entry for it.
  The engine, part AM: a call whose new memory stands behind the old, and memory written in another way.
  The engine, part AN: a call of a function value that reads memory of the caller's own and leaves it as it is.
  The engine, part AO: a body in which a label stands and to which nothing jumps.
  The engine, part AP: arrays of two strings, made and compared; a cell of an array that is left alone.
  The engine, part AT: cells of arrays in a variable of the call's own at any index; cuts of own slices as values, copies into them, own memory lent to a function that makes memory.
  The engine: numbers of 64 bits without a sign, as natural numbers.
  Conditions: none.
-/
import Derived.Test.YtmmiedgoamlhpaaDoorEngY
import Derived.Lib.AppendZerosOnto
import Derived.Laws.MakeOwn
import Derived.Laws.CopyRow
import Derived.Laws.BytesArg
import Derived.Scope
import Derived.ChangeKeysEq
import Derived.Laws.MathBits
import Derived.Laws.Bits64b
section
set_option linter.unusedSimpArgs false
set_option linter.unusedVariables false
namespace Go.Eng
open Go Go.RowKit Go.Lib

theorem Heap.dropL {X : Cfg} {w : World} {I : Nat → Prop} : ∀ {ν μ : List E}, Heap X w I (ν ++ μ) → Heap X w I μ
  | [], _, h => h
  | _ :: _, _, h => Heap.dropL (Heap.tail h)
/-- Memory that only the call knows is forgotten. -/
theorem Con.drop {X : Cfg} {f : FuncId} {args : List V} {μ μ2 : List E} {R : V} (h : Con X f args μ fun r μ' => r = R ∧ ∃ ν, μ' = ν ++ μ2) : Con X f args μ fun r μ' => r = R ∧ μ' = μ2 := by
  intro w I vs hH ha
  refine (h w I vs hH ha).mono ?_
  rintro en w' ⟨v, r, μ', I', h1, ⟨h2, ν, rfl⟩, h4, h5, h6⟩
  exact ⟨v, r, μ2, I', h1, ⟨h2, rfl⟩, h4, Heap.dropL h5, h6.less fun b hb => by rw [blocksOf_append]; exact List.mem_append.2 (.inr hb)⟩
section
variable {X : Cfg} {o : Oper} {e : Operand → V} {μ : List E} {t : TypeId}

end
end Go.Eng
end
section
set_option linter.unusedSimpArgs false
set_option linter.unusedVariables false
namespace Go.Eng
open Go Go.RowKit
section drawq
variable {X : Cfg} {n : Nat} {z : Z} {Q : Exit → S → Prop} {regs : List (Nat × V)} {μ : List E} {l : List Oper} {m : Nat}
end drawq

section drawg
variable {X : Cfg} {n : Nat} {z : Z} {Q : Exit → S → Prop} {regs : List (Nat × V)} {μ : List E} {l : List Oper} {s : Nat} {M : List E → Prop} {ks : List Kd}
end drawg
end Go.Eng
end
section
set_option linter.unusedSimpArgs false
set_option linter.unusedVariables false
namespace Go.Eng
open Go Go.RowKit Go.Lib
section
variable {X : Cfg} {o : Oper} {e : Operand → V} {μ : List E} {t : TypeId} {α : Type} {f : α → List C} {l : List α}

end

/-! ## Lending an own slice to a function that only reads -/
def litC : C → Bool
  | .lit _ => true
  | _ => false
def litV1 : V → Bool
  | .c x => litC x
  | .agg l => l.all litC
  | _ => false
def litV : V → Bool
  | .tup l => l.all litV1
  | x => litV1 x
theorem litC_rep {w w' : World} {I I' : Nat → Prop} {x : C} {v : Value} (h : litC x = true) (r : CRep w I x v) : CRep w' I' x v := by
  cases x with
  | lit u => cases r with | lit _ h1 => exact .lit _ h1
  | _ => cases h
theorem litCs_rep {w w' : World} {I I' : Nat → Prop} {l : List C} {vs : List Value} (h : l.all litC = true) (r : CReps w I l vs) : CReps w' I' l vs := by
  induction r with
  | nil => exact .nil
  | cons a _ ih =>
    simp only [List.all_cons, Bool.and_eq_true] at h
    exact .cons (litC_rep h.1 a) (ih h.2)
theorem litV1_rep {w w' : World} {I I' : Nat → Prop} {x : V} {v : Value} (h : litV1 x = true) (r : V1Rep w I x v) : V1Rep w' I' x v := by
  cases x with
  | c y => exact litC_rep h r
  | agg l => obtain ⟨vs, e, k⟩ := r; exact ⟨vs, e, litCs_rep h k⟩
  | _ => cases h
theorem litV1s_rep {w w' : World} {I I' : Nat → Prop} : ∀ {l : List V} {vs : List Value}, l.all litV1 = true → V1Reps w I l vs → V1Reps w' I' l vs
  | [], [], _, _ => trivial
  | x :: l, v :: vs, h, r => by
    simp only [List.all_cons, Bool.and_eq_true] at h
    exact ⟨litV1_rep h.1 r.1, litV1s_rep h.2 r.2⟩
  | [], _ :: _, _, r => r.elim
  | _ :: _, [], _, r => r.elim
theorem litV_rep {w w' : World} {I I' : Nat → Prop} {x : V} {v : Value} (h : litV x = true) (r : VRep w I x v) : VRep w' I' x v := by
  cases x with
  | tup l => obtain ⟨vs, e, k⟩ := r; exact ⟨vs, e, litV1s_rep h k⟩
  | c y => exact litV1_rep (x := .c y) h r
  | agg l => exact litV1_rep (x := .agg l) h r
  | un => cases h
  | ifv b y => cases h
end Go.Eng
end
section
set_option linter.unusedSimpArgs false
set_option linter.unusedVariables false
namespace Go.Eng
open Go Go.RowKit

/-- An operation of the open part: quiet (it looks at slots of memory); writing (the slot that it changes or fills, those that it looks at); making new memory. -/
inductive Kx where
  | q (rd : List Nat)
  | e (w : Nat) (rd : List Nat)
  | f (w : Nat)
  | w (w : Nat) (rd : List Nat)
  | g (w : Nat) (rd : List Nat)
  | h (w : Nat) (rd : List Nat)
structure It where
  i : Nat
  k : Kx

def upd (ρ : Nat → V) (d : Option Tmp) (v : V) : Nat → V := fun t => if d = some t then v else ρ t
def evF (ρ : Nat → V) (x : Operand) : V := match x with
  | .tmp t => ρ t
  | y => ev [] y
theorem evF_look (regs : List (Nat × V)) : evF (look regs) = ev regs := by
  funext x; cases x <;> rfl
theorem look_upd (regs : List (Nat × V)) (d : Tmp) (v : V) : upd (look regs) (some d) v = look ((d, v) :: regs) := by
  funext t; rw [look_putR]; unfold upd
  by_cases h : d = t
  · rw [if_pos h, if_pos (by rw [h])]
  · rw [if_neg h, if_neg (by simpa using h)]
theorem upd_none (ρ : Nat → V) (v : V) : upd ρ none v = ρ := by funext t; unfold upd; rw [if_neg (by simp)]

def GDetF (X : Cfg) (n : Nat) (ops : Array Oper) (o : Oper) (ρ : Nat → V) (μ : List E) (r : V) : Prop :=
  ∀ (a : Act) (w : World) (I : Nat → Prop), Heap X w I μ → (∀ t, t ∈ o.looksAt ops → VRep w I (ρ t) (a.tmps.getD t undef)) → a.tmps.size = n →
    ∀ (K : Act → World → Prop) (Q : Exit → Act → World → Prop), (∀ v I' w', VRep w' I' r v → Heap X w' I' μ → Ext w I μ w' I' μ → K (a.put o.dst v) w') →
      if Region.wanted o (yielded ops a.tmps) then OW X.P o a w K Q else K (a.put o.dst undef) w

theorem GDetF.congr {X : Cfg} {n : Nat} {ops : Array Oper} {o : Oper} {ρ ρ' : Nat → V} {μ : List E} {r : V} (h : GDetF X n ops o ρ μ r) (he : ∀ t, t ∈ o.looksAt ops → ρ t = ρ' t) : GDetF X n ops o ρ' μ r :=
  fun a w I hH hR hs => h a w I hH (fun t ht => by rw [he t ht]; exact hR t ht) hs
theorem GDetF.wide {X : Cfg} {n : Nat} {ops : Array Oper} {o : Oper} {ρ : Nat → V} {μ φ ψ : List E} {r : V} (h : GDetF X n ops o ρ μ r) (p : ψ.Perm (μ ++ φ)) : GDetF X n ops o ρ ψ r := by
  intro a w I hH hR hs K Q k
  have hH1 := hH.perm p
  refine h a w I hH1.left hR hs K Q ?_
  intro v I' w' hv hH' hx
  obtain ⟨h6, h7⟩ := hH1.frame hH' hx
  exact k v I' w' hv (h6.perm p.symm) (h7.perm p.symm p.symm)
theorem OpE.wide {X : Cfg} {o : Oper} {e : Operand → V} {μ φ ψ : List E} {R : V → List E → Prop} (h : OpE X o e μ R) (p : ψ.Perm (μ ++ φ)) : OpE X o e ψ fun r μ'' => ∃ μ', R r μ' ∧ μ'' = μ' ++ φ := by
  intro a w I hH hops K Q k
  have hH1 := hH.perm p
  refine h a w I hH1.left hops K Q ?_
  intro v r μ' I' w' hr hv hH' hx
  obtain ⟨h6, h7⟩ := hH1.frame hH' hx
  exact k v r _ I' w' ⟨μ', hr, rfl⟩ hv h6 (h7.perm p.symm (List.Perm.refl _))
theorem OpE.congr {X : Cfg} {o : Oper} {e e' : Operand → V} {μ : List E} {R : V → List E → Prop} (h : OpE X o e μ R) (he : ∀ x, x ∈ o.op.operands → e x = e' x) : OpE X o e' μ R :=
  fun a w I hH hops => h a w I hH fun x hx => by rw [he x hx]; exact hops x hx

/-! ## Slots of memory -/
def slot (m : List (Option E)) (s : Nat) : Option E := (nth m s).join
def fp (m : List (Option E)) (l : List Nat) : List E := l.filterMap (slot m)
def allE (m : List (Option E)) : List E := m.filterMap id
def clr : List (Option E) → List Nat → List (Option E)
  | m, [] => m
  | m, s :: l => clr (m.set s none) l

theorem slot_set_ne {m : List (Option E)} {s t : Nat} {v : Option E} (h : s ≠ t) : slot (m.set s v) t = slot m t := by
  unfold slot; rw [nth_eq, nth_eq, List.getElem?_set_ne h]
theorem slot_set_eq {m : List (Option E)} {s : Nat} {v : Option E} (h : s < m.length) : slot (m.set s v) s = v := by
  unfold slot; rw [nth_eq, List.getElem?_set_self h]; cases v <;> rfl
theorem fp_set {m : List (Option E)} {s : Nat} {v : Option E} : ∀ {l : List Nat}, s ∉ l → fp (m.set s v) l = fp m l
  | [], _ => rfl
  | t :: l, h => by
    unfold fp
    rw [List.filterMap_cons, List.filterMap_cons, slot_set_ne (fun e => h (by simp [e]))]
    have := fp_set (m := m) (s := s) (v := v) (l := l) (fun e => h (by simp [e]))
    unfold fp at this
    rw [this]
theorem allE_slot : ∀ (m : List (Option E)) (s : Nat), (allE m).Perm ((slot m s).toList ++ allE (m.set s none))
  | [], s => by cases s <;> exact List.Perm.refl _
  | x :: m, 0 => by cases x <;> exact List.Perm.refl _
  | x :: m, s + 1 => by
    have ih := allE_slot m s
    have e : slot (x :: m) (s + 1) = slot m s := rfl
    rw [e, List.set_cons_succ]
    cases x with
    | none => exact ih
    | some y =>
      show (y :: allE m).Perm ((slot m s).toList ++ (y :: allE (m.set s none)))
      exact (ih.cons y).trans (List.perm_middle.symm)
theorem allE_perm : ∀ (ks : List Nat) (m : List (Option E)), ks.Nodup → (allE m).Perm (fp m ks ++ allE (clr m ks))
  | [], m, _ => List.Perm.refl _
  | s :: ks, m, h => by
    have hs : s ∉ ks := (List.nodup_cons.1 h).1
    have ih := allE_perm ks (m.set s none) (List.nodup_cons.1 h).2
    rw [fp_set hs] at ih
    have h1 := (allE_slot m s).trans (ih.append_left _)
    have e : fp m (s :: ks) = (slot m s).toList ++ fp m ks := by
      unfold fp; rw [List.filterMap_cons]; cases slot m s <;> rfl
    rw [e, List.append_assoc]
    exact h1
theorem clr_set {m : List (Option E)} {s : Nat} {v : Option E} (l : List Nat) : clr (m.set s v) (s :: l) = clr m (s :: l) := by
  show clr ((m.set s v).set s none) l = clr (m.set s none) l
  rw [List.set_set]
theorem allE_write {m : List (Option E)} {w : Nat} {rd : List Nat} {en : E} (hn : (w :: rd).Nodup) (hw : w < m.length) : ((en :: fp m rd) ++ allE (clr m (w :: rd))).Perm (allE (m.set w (some en))) := by
  have h := allE_perm (w :: rd) (m.set w (some en)) hn
  rw [clr_set] at h
  have e : fp (m.set w (some en)) (w :: rd) = en :: fp m rd := by
    have := fp_set (m := m) (s := w) (v := some en) (List.nodup_cons.1 hn).1
    unfold fp at this ⊢
    rw [List.filterMap_cons, slot_set_eq hw, this]
  rw [e] at h
  exact h.symm
theorem set_self {m : List (Option E)} {w : Nat} (h : nth m w = some none) : m.set w none = m := by
  rw [nth_eq] at h
  apply List.ext_getElem?
  intro i
  by_cases hi : w = i
  · subst hi; rw [List.getElem?_set_self (List.getElem?_eq_some_iff.1 h).1, h]
  · rw [List.getElem?_set_ne hi]
theorem allE_fresh {m : List (Option E)} {w : Nat} {en : E} (h : nth m w = some none) : (en :: allE m).Perm (allE (m.set w (some en))) := by
  have hw : w < m.length := by rw [nth_eq] at h; exact (List.getElem?_eq_some_iff.1 h).1
  have h1 := allE_slot (m.set w (some en)) w
  rw [slot_set_eq hw, List.set_set, set_self h] at h1
  exact h1.symm

/-! ## The derivation, in an order of our own -/
abbrev Rfs := List (Nat × (V → E → Prop))
def rfOf : Rfs → Nat → V → E → Prop
  | [], _ => fun _ _ => False
  | (j, R) :: r, i => bif Nat.beq j i then R else rfOf r i

/-- What a store makes of the memory entry that it writes. -/
def stF (o : Oper) (e : Operand → V) (en : E) : E := match o.op with
  | .store _ x y => (match e x, vcells (e y), en with
    | .c (.lit (.pointer (some a))), some new, .row b u cs => .row b u (spl cs a.off new)
    | _, _, _ => en)
  | _ => en
theorem stF_congr {o : Oper} {e e' : Operand → V} (h : ∀ x, x ∈ o.op.operands → e x = e' x) : stF o e = stF o e' := by
  funext en
  unfold stF
  split
  · rename_i t x y ho
    rw [h x (by rw [ho]; simp [Op.operands]), h y (by rw [ho]; simp [Op.operands])]
  · rfl
def dstI (l : List Oper) (i : Nat) : Option Tmp := (nth l i).bind (·.dst)
def SQ (X : Cfg) (n : Nat) (l : List Oper) (F : Rfs) (K : (Nat → V) → List (Option E) → Prop) : List It → (Nat → V) → List (Option E) → Prop
  | [], ρ, m => K ρ m
  | ⟨i, .q rd⟩ :: its, ρ, m => ∃ o, nth l i = some o ∧ rd.Nodup ∧ ∃ r, GDetF X n l.toArray o ρ (fp m rd) r ∧ SQ X n l F K its (upd ρ o.dst r) m
  | ⟨i, .e w rd⟩ :: its, ρ, m => ∃ o, nth l i = some o ∧ o.guard = none ∧ (w < m.length ∧ (w :: rd).Nodup) ∧ ∃ R, OpE X o (evF ρ) (fp m (w :: rd)) R ∧ ∀ r μ', R r μ' → ∃ en, μ' = en :: fp m rd ∧ SQ X n l F K its (upd ρ o.dst r) (m.set w (some en))
  | ⟨i, .f w⟩ :: its, ρ, m => ∀ r en, rfOf F i r en → SQ X n l F K its (upd ρ (dstI l i) r) (m.set w (some en))
  | ⟨i, .g w rd⟩ :: its, ρ, m => ∃ o, nth l i = some o ∧ o.guard = none ∧ o.dst = none ∧ (w < m.length ∧ (w :: rd).Nodup) ∧ ∃ en, slot m w = some en ∧ OpE X o (evF ρ) (fp m (w :: rd)) (fun _ μ' => μ' = stF o (evF ρ) en :: fp m rd) ∧ SQ X n l F K its ρ (m.set w (some (stF o (evF ρ) en)))
  | ⟨i, .h w rd⟩ :: its, ρ, m => ∃ o, nth l i = some o ∧ o.guard = none ∧ (w < m.length ∧ (w :: rd).Nodup) ∧ ∃ R, OpE X o (evF ρ) (fp m (w :: rd)) R ∧ (∃ r en, R r (en :: fp m rd)) ∧ ∀ r μ', R r μ' → ∃ en, μ' = en :: fp m rd ∧ SQ X n l F K its (upd ρ o.dst r) (m.set w (some en))
  | ⟨i, .w w rd⟩ :: its, ρ, m => ∃ o, nth l i = some o ∧ o.guard = none ∧ (w < m.length ∧ (w :: rd).Nodup) ∧ ∃ r en, OpE X o (evF ρ) (fp m (w :: rd)) (fun r' μ' => r' = r ∧ μ' = en :: fp m rd) ∧ SQ X n l F K its (upd ρ o.dst r) (m.set w (some en))

def looksI (l : List Oper) (i : Nat) : List Tmp := match nth l i with
  | some o => o.looksAt l.toArray
  | none => []
def regFree (l : List Oper) (i j : Nat) : Bool :=
  (looksI l j).all (fun t => !(dstI l i == some t)) && (looksI l i).all (fun t => !(dstI l j == some t)) && ((dstI l i == none) || !(dstI l i == dstI l j))
def Kx.wr : Kx → Option Nat
  | .q _ => none
  | .e v _ => some v
  | .f v => some v
  | .w v _ => some v
  | .g v _ => some v
  | .h v _ => some v
def Kx.rds : Kx → List Nat
  | .q rd => rd
  | .e _ rd => rd
  | .f _ => []
  | .w _ rd => rd
  | .g _ rd => rd
  | .h _ rd => rd
def memFree (a b : Kx) : Bool :=
  (match a.wr with | some w => b.rds.all (fun s => !Nat.beq s w) && (match b.wr with | some v => !Nat.beq v w | none => true) | none => true) &&
  (match b.wr with | some w => a.rds.all (fun s => !Nat.beq s w) | none => true)
def kindFree : Kx → Kx → Bool
  | .q _, .q _ => true
  | .q _, .e _ _ => true
  | .q _, .w _ _ => true
  | .w _ _, .q _ => true
  | .w _ _, .e _ _ => true
  | .w _ _, .w _ _ => true
  | .q _, .g _ _ => true
  | .g _ _, .g _ _ => true
  | .f _, .g _ _ => true
  | .q _, .h _ _ => true
  | .h _ _, .g _ _ => true
  | _, .f _ => true
  | _, _ => false
def isF : Kx → Bool
  | .f _ => true
  | _ => false
def mayPass (l : List Oper) (a b : It) : Bool := (kindFree a.k b.k && memFree a.k b.k && regFree l a.i b.i) || (!isF b.k && reach l 40 b.i a.i)

theorem regFree_spec {l : List Oper} {i j : Nat} (h : regFree l i j = true) :
    (∀ t, t ∈ looksI l j → dstI l i ≠ some t) ∧ (∀ t, t ∈ looksI l i → dstI l j ≠ some t) ∧ (dstI l i = none ∨ dstI l i ≠ dstI l j) := by
  unfold regFree at h
  simp only [Bool.and_eq_true, List.all_eq_true, Bool.not_eq_true', beq_eq_false_iff_ne, Bool.or_eq_true, beq_iff_eq] at h
  exact ⟨h.1.1, h.1.2, h.2⟩
theorem dstI_eq {l : List Oper} {i : Nat} {o : Oper} (h : nth l i = some o) : dstI l i = o.dst := by unfold dstI; rw [h]; rfl
theorem looksI_eq {l : List Oper} {i : Nat} {o : Oper} (h : nth l i = some o) : looksI l i = o.looksAt l.toArray := by unfold looksI; rw [h]
theorem upd_comm {ρ : Nat → V} {d e : Option Tmp} {u v : V} (h : d = none ∨ d ≠ e) : upd (upd ρ d u) e v = upd (upd ρ e v) d u := by
  funext t
  unfold upd
  by_cases h1 : d = some t
  · by_cases h2 : e = some t
    · rcases h with h | h
      · rw [h] at h1; cases h1
      · exact absurd (h1.trans h2.symm) h
    · simp [h1, h2]
  · by_cases h2 : e = some t
    · simp [h1, h2]
    · simp [h1, h2]
theorem upd_ne {ρ : Nat → V} {d : Option Tmp} {v : V} {t : Nat} (h : d ≠ some t) : upd ρ d v t = ρ t := if_neg h
theorem evF_upd {ops : Array Oper} {ρ : Nat → V} {d : Option Tmp} {v : V} {o : Oper} (h : ∀ t, t ∈ o.looksAt ops → d ≠ some t) : ∀ x, x ∈ o.op.operands → evF (upd ρ d v) x = evF ρ x := by
  intro x hx
  cases x with
  | tmp t => exact upd_ne (h t (looks_op hx))
  | _ => rfl

section
variable {X : Cfg} {n : Nat} {l : List Oper} {F : Rfs} {K : (Nat → V) → List (Option E) → Prop}
theorem SQ.swap {a b : It} {its : List It} {ρ : Nat → V} {m : List (Option E)} (hk : kindFree a.k b.k = true) (hm : memFree a.k b.k = true) (hr : regFree l a.i b.i = true) (hF : ∀ w, a.k = .f w → ∃ r en, rfOf F a.i r en) (h : SQ X n l F K (a :: b :: its) ρ m) : SQ X n l F K (b :: a :: its) ρ m := by
  obtain ⟨i, ka⟩ := a
  obtain ⟨j, kb⟩ := b
  simp only at hk hm hr hF
  obtain ⟨f1, f2, f3⟩ := regFree_spec hr
  cases ka with
  | q rd =>
    obtain ⟨o, ho, hn1, r, hG, h⟩ := h
    rw [looksI_eq ho] at f2
    rw [dstI_eq ho] at f1 f3
    cases kb with
    | q rd2 =>
      obtain ⟨o2, ho2, hn2, r2, hG2, h⟩ := h
      rw [looksI_eq ho2] at f1
      rw [dstI_eq ho2] at f2 f3
      refine ⟨o2, ho2, hn2, r2, hG2.congr fun t ht => upd_ne (f1 t ht), o, ho, hn1, r, hG.congr fun t ht => (upd_ne (f2 t ht)).symm, ?_⟩
      rw [← upd_comm f3]; exact h
    | e w rd2 =>
      obtain ⟨o2, ho2, hg2, hw2, R, hO, h⟩ := h
      rw [looksI_eq ho2] at f1
      rw [dstI_eq ho2] at f2 f3
      simp only [memFree, Kx.wr, Kx.rds, Bool.true_and, List.all_eq_true, Bool.not_eq_true'] at hm
      refine ⟨o2, ho2, hg2, hw2, R, hO.congr fun x hx => evF_upd f1 x hx, fun r2 μ' hrr => ?_⟩
      obtain ⟨en, he, h⟩ := h r2 μ' hrr
      have hn : w ∉ rd := fun hin => by have := hm w hin; rw [Nat.beq_refl] at this; cases this
      refine ⟨en, he, o, ho, hn1, r, ?_, ?_⟩
      · rw [fp_set hn]; exact hG.congr fun t ht => (upd_ne (f2 t ht)).symm
      · rw [← upd_comm f3]; exact h
    | f w =>
      simp only [memFree, Kx.wr, Kx.rds, Bool.true_and, List.all_eq_true, Bool.not_eq_true'] at hm
      have hn : w ∉ rd := fun hin => by have := hm w hin; rw [Nat.beq_refl] at this; cases this
      refine fun r2 en hrr => ⟨o, ho, hn1, r, ?_, ?_⟩
      · rw [fp_set hn]; exact hG.congr fun t ht => (upd_ne (f2 t ht)).symm
      · rw [← upd_comm f3]; exact h r2 en hrr
    | g w rd2 =>
      obtain ⟨o2, ho2, hg2, hd2, hw2, en0, hs0, hO, h⟩ := h
      rw [looksI_eq ho2] at f1
      simp only [memFree, Kx.wr, Kx.rds, Bool.true_and, List.all_eq_true, Bool.not_eq_true'] at hm
      have hn : w ∉ rd := fun hin => by have := hm w hin; rw [Nat.beq_refl] at this; cases this
      have e : stF o2 (evF (upd ρ o.dst r)) = stF o2 (evF ρ) := stF_congr fun x hx => evF_upd f1 x hx
      rw [e] at hO h
      refine ⟨o2, ho2, hg2, hd2, hw2, en0, hs0, hO.congr fun x hx => evF_upd f1 x hx, o, ho, hn1, r, ?_, h⟩
      rw [fp_set hn]; exact hG
    | h w rd2 =>
      obtain ⟨o2, ho2, hg2, hw2, R, hO, hne, h⟩ := h
      rw [looksI_eq ho2] at f1
      rw [dstI_eq ho2] at f2 f3
      simp only [memFree, Kx.wr, Kx.rds, Bool.true_and, List.all_eq_true, Bool.not_eq_true'] at hm
      refine ⟨o2, ho2, hg2, hw2, R, hO.congr fun x hx => evF_upd f1 x hx, hne, fun r2 μ' hrr => ?_⟩
      obtain ⟨en, he, h⟩ := h r2 μ' hrr
      have hn : w ∉ rd := fun hin => by have := hm w hin; rw [Nat.beq_refl] at this; cases this
      refine ⟨en, he, o, ho, hn1, r, ?_, ?_⟩
      · rw [fp_set hn]; exact hG.congr fun t ht => (upd_ne (f2 t ht)).symm
      · rw [← upd_comm f3]; exact h
    | w w rd2 =>
      obtain ⟨o2, ho2, hg2, hw2, r2, en, hO, h⟩ := h
      rw [looksI_eq ho2] at f1
      rw [dstI_eq ho2] at f2 f3
      simp only [memFree, Kx.wr, Kx.rds, Bool.true_and, List.all_eq_true, Bool.not_eq_true'] at hm
      have hn : w ∉ rd := fun hin => by have := hm w hin; rw [Nat.beq_refl] at this; cases this
      refine ⟨o2, ho2, hg2, hw2, r2, en, hO.congr fun x hx => evF_upd f1 x hx, o, ho, hn1, r, ?_, ?_⟩
      · rw [fp_set hn]; exact hG.congr fun t ht => (upd_ne (f2 t ht)).symm
      · rw [← upd_comm f3]; exact h
  | w w rd =>
    obtain ⟨o, ho, hg, hw, r, en, hO, h⟩ := h
    rw [looksI_eq ho] at f2
    rw [dstI_eq ho] at f1 f3
    cases kb with
    | q rd2 =>
      obtain ⟨o2, ho2, hn2, r2, hG2, h⟩ := h
      rw [looksI_eq ho2] at f1
      rw [dstI_eq ho2] at f2 f3
      simp only [memFree, Kx.wr, Kx.rds, Bool.and_true, List.all_eq_true, Bool.not_eq_true'] at hm
      have hn : w ∉ rd2 := fun hin => by have := hm w hin; rw [Nat.beq_refl] at this; cases this
      rw [fp_set hn] at hG2
      refine ⟨o2, ho2, hn2, r2, hG2.congr fun t ht => upd_ne (f1 t ht), o, ho, hg, hw, r, en, hO.congr fun x hx => (evF_upd f2 x hx).symm, ?_⟩
      rw [← upd_comm f3]; exact h
    | e w2 rd2 =>
      obtain ⟨o2, ho2, hg2, hw2, R, hO2, h⟩ := h
      rw [looksI_eq ho2] at f1
      rw [dstI_eq ho2] at f2 f3
      simp only [memFree, Kx.wr, Kx.rds, Bool.and_eq_true, List.all_eq_true, Bool.not_eq_true'] at hm
      have hne : w2 ≠ w := fun e => by rw [e, Nat.beq_refl] at hm; cases hm.1.2
      have hn : w ∉ rd2 := fun hin => by have := hm.1.1 w hin; rw [Nat.beq_refl] at this; cases this
      have hn' : w2 ∉ rd := fun hin => by have := hm.2 w2 hin; rw [Nat.beq_refl] at this; cases this
      have hn2 : w ∉ w2 :: rd2 := fun hin => by rcases List.mem_cons.1 hin with e | e; exact hne e.symm; exact hn e
      have hn2' : w2 ∉ w :: rd := fun hin => by rcases List.mem_cons.1 hin with e | e; exact hne e; exact hn' e
      rw [fp_set hn2] at hO2
      refine ⟨o2, ho2, hg2, ⟨by simpa using hw2.1, hw2.2⟩, R, hO2.congr fun x hx => evF_upd f1 x hx, fun r2 μ' hrr => ?_⟩
      obtain ⟨en2, he, h⟩ := h r2 μ' hrr
      rw [fp_set hn] at he
      refine ⟨en2, he, o, ho, hg, ⟨by simpa using hw.1, hw.2⟩, r, en, ?_, ?_⟩
      · rw [fp_set hn2', fp_set hn']; exact hO.congr fun x hx => (evF_upd f2 x hx).symm
      · rw [← upd_comm f3, List.set_comm _ _ hne]; exact h
    | w w2 rd2 =>
      obtain ⟨o2, ho2, hg2, hw2, r2, en2, hO2, h⟩ := h
      rw [looksI_eq ho2] at f1
      rw [dstI_eq ho2] at f2 f3
      simp only [memFree, Kx.wr, Kx.rds, Bool.and_eq_true, List.all_eq_true, Bool.not_eq_true'] at hm
      have hne : w2 ≠ w := fun e => by rw [e, Nat.beq_refl] at hm; cases hm.1.2
      have hn : w ∉ rd2 := fun hin => by have := hm.1.1 w hin; rw [Nat.beq_refl] at this; cases this
      have hn' : w2 ∉ rd := fun hin => by have := hm.2 w2 hin; rw [Nat.beq_refl] at this; cases this
      have hn2 : w ∉ w2 :: rd2 := fun hin => by rcases List.mem_cons.1 hin with e | e; exact hne e.symm; exact hn e
      have hn2' : w2 ∉ w :: rd := fun hin => by rcases List.mem_cons.1 hin with e | e; exact hne e; exact hn' e
      rw [fp_set hn2, fp_set hn] at hO2
      refine ⟨o2, ho2, hg2, ⟨by simpa using hw2.1, hw2.2⟩, r2, en2, hO2.congr fun x hx => evF_upd f1 x hx, o, ho, hg, ⟨by simpa using hw.1, hw.2⟩, r, en, ?_, ?_⟩
      · rw [fp_set hn2', fp_set hn']; exact hO.congr fun x hx => (evF_upd f2 x hx).symm
      · rw [← upd_comm f3, List.set_comm _ _ hne]; exact h
    | f w2 =>
      simp only [memFree, Kx.wr, Kx.rds, List.all_nil, Bool.true_and, Bool.and_eq_true, List.all_eq_true, Bool.not_eq_true'] at hm
      have hne : w2 ≠ w := fun e => by rw [e, Nat.beq_refl] at hm; cases hm.1
      have hn : w2 ∉ rd := fun hin => by have := hm.2 w2 hin; rw [Nat.beq_refl] at this; cases this
      have hn2 : w2 ∉ w :: rd := fun hin => by rcases List.mem_cons.1 hin with e | e; exact hne e; exact hn e
      refine fun r2 en2 hrr2 => ⟨o, ho, hg, ⟨by simpa using hw.1, hw.2⟩, r, en, ?_, ?_⟩
      · rw [fp_set hn2, fp_set hn]; exact hO.congr fun x hx => (evF_upd f2 x hx).symm
      · rw [← upd_comm f3, List.set_comm _ _ hne]
        exact h r2 en2 hrr2
    | g w2 rd2 => cases hk
    | h w2 rd2 => cases hk
  | g w rd =>
    cases kb with
    | q rd2 => cases hk
    | e w2 rd2 => cases hk
    | w w2 rd2 => cases hk
    | f w2 =>
      obtain ⟨o, ho, hg, hd, hw, en0, hs0, hO, h⟩ := h
      rw [looksI_eq ho] at f2
      simp only [memFree, Kx.wr, Kx.rds, List.all_nil, Bool.true_and, Bool.and_eq_true, List.all_eq_true, Bool.not_eq_true'] at hm
      have hne : w2 ≠ w := fun e => by rw [e, Nat.beq_refl] at hm; cases hm.1
      have hn : w2 ∉ rd := fun hin => by have := hm.2 w2 hin; rw [Nat.beq_refl] at this; cases this
      have hn2 : w2 ∉ w :: rd := fun hin => by rcases List.mem_cons.1 hin with e | e; exact hne e; exact hn e
      refine fun r2 en2 hrr2 => ?_
      have e : stF o (evF (upd ρ (dstI l j) r2)) = stF o (evF ρ) := stF_congr fun x hx => evF_upd f2 x hx
      refine ⟨o, ho, hg, hd, ⟨by simpa using hw.1, hw.2⟩, en0, by rw [slot_set_ne hne]; exact hs0, ?_, ?_⟩
      · rw [fp_set hn2, fp_set hn, e]; exact hO.congr fun x hx => (evF_upd f2 x hx).symm
      · rw [e, List.set_comm _ _ hne]; exact h r2 en2 hrr2
    | g w2 rd2 =>
      obtain ⟨o, ho, hg, hd, hw, en0, hs0, hO, o2, ho2, hg2, hd2, hw2, en2, hs2, hO2, h⟩ := h
      simp only [memFree, Kx.wr, Kx.rds, Bool.and_eq_true, List.all_eq_true, Bool.not_eq_true'] at hm
      have hne : w2 ≠ w := fun e => by rw [e, Nat.beq_refl] at hm; cases hm.1.2
      have hn : w ∉ rd2 := fun hin => by have := hm.1.1 w hin; rw [Nat.beq_refl] at this; cases this
      have hn' : w2 ∉ rd := fun hin => by have := hm.2 w2 hin; rw [Nat.beq_refl] at this; cases this
      have hn2 : w ∉ w2 :: rd2 := fun hin => by rcases List.mem_cons.1 hin with e | e; exact hne e.symm; exact hn e
      have hn2' : w2 ∉ w :: rd := fun hin => by rcases List.mem_cons.1 hin with e | e; exact hne e; exact hn' e
      rw [slot_set_ne (Ne.symm hne)] at hs2
      rw [fp_set hn2, fp_set hn] at hO2
      rw [List.set_comm _ _ (Ne.symm hne)] at h
      exact ⟨o2, ho2, hg2, hd2, ⟨by simpa using hw2.1, hw2.2⟩, en2, hs2, hO2, o, ho, hg, hd, ⟨by simpa using hw.1, hw.2⟩, en0, by rw [slot_set_ne hne]; exact hs0, by rw [fp_set hn2', fp_set hn']; exact hO, h⟩
    | h w2 rd2 => cases hk
  | h w rd =>
    cases kb with
    | q rd2 => cases hk
    | e w2 rd2 => cases hk
    | w w2 rd2 => cases hk
    | h w2 rd2 => cases hk
    | f w2 =>
      obtain ⟨o, ho, hg, hw, R, hO, hne0, h⟩ := h
      rw [looksI_eq ho] at f2
      rw [dstI_eq ho] at f1 f3
      simp only [memFree, Kx.wr, Kx.rds, List.all_nil, Bool.true_and, Bool.and_eq_true, List.all_eq_true, Bool.not_eq_true'] at hm
      have hne : w2 ≠ w := fun e => by rw [e, Nat.beq_refl] at hm; cases hm.1
      have hn : w2 ∉ rd := fun hin => by have := hm.2 w2 hin; rw [Nat.beq_refl] at this; cases this
      have hn2 : w2 ∉ w :: rd := fun hin => by rcases List.mem_cons.1 hin with e | e; exact hne e; exact hn e
      refine fun r2 en2 hrr2 => ⟨o, ho, hg, ⟨by simpa using hw.1, hw.2⟩, R, ?_, by rw [fp_set hn]; exact hne0, fun r μ' hrr => ?_⟩
      · rw [fp_set hn2]; exact hO.congr fun x hx => (evF_upd f2 x hx).symm
      · obtain ⟨en, he, h⟩ := h r μ' hrr
        refine ⟨en, by rw [fp_set hn]; exact he, ?_⟩
        rw [← upd_comm f3, List.set_comm _ _ hne]
        exact h r2 en2 hrr2
    | g w2 rd2 =>
      obtain ⟨o, ho, hg, hw, R, hO, ⟨r0, e0, hr0⟩, h⟩ := h
      obtain ⟨e1, he1, o2, ho2, hg2, hd2, hw2, en2, hs2, hO2, _⟩ := h r0 _ hr0
      cases he1
      rw [looksI_eq ho2] at f1
      rw [looksI_eq ho] at f2
      rw [dstI_eq ho] at f1
      simp only [memFree, Kx.wr, Kx.rds, Bool.and_eq_true, List.all_eq_true, Bool.not_eq_true'] at hm
      have hne : w2 ≠ w := fun e => by rw [e, Nat.beq_refl] at hm; cases hm.1.2
      have hn : w ∉ rd2 := fun hin => by have := hm.1.1 w hin; rw [Nat.beq_refl] at this; cases this
      have hn' : w2 ∉ rd := fun hin => by have := hm.2 w2 hin; rw [Nat.beq_refl] at this; cases this
      have hn2 : w ∉ w2 :: rd2 := fun hin => by rcases List.mem_cons.1 hin with e | e; exact hne e.symm; exact hn e
      have hn2' : w2 ∉ w :: rd := fun hin => by rcases List.mem_cons.1 hin with e | e; exact hne e; exact hn' e
      have key : ∀ r, stF o2 (evF (upd ρ o.dst r)) = stF o2 (evF ρ) := fun r => stF_congr fun x hx => evF_upd f1 x hx
      rw [slot_set_ne (Ne.symm hne)] at hs2
      rw [fp_set hn2, fp_set hn, key] at hO2
      refine ⟨o2, ho2, hg2, hd2, ⟨by simpa using hw2.1, hw2.2⟩, en2, hs2, hO2.congr fun x hx => evF_upd f1 x hx, o, ho, hg, ⟨by simpa using hw.1, hw.2⟩, R, ?_, ⟨r0, e0, by rw [fp_set hn']; exact hr0⟩, fun r μ' hrr => ?_⟩
      · rw [fp_set hn2']; exact hO
      · obtain ⟨e3, he3, o3, ho3, _, _, _, en3, hs3, _, hS⟩ := h r μ' hrr
        rw [ho2] at ho3; cases ho3
        rw [slot_set_ne (Ne.symm hne), hs2] at hs3; cases hs3
        rw [key, List.set_comm _ _ (Ne.symm hne)] at hS
        exact ⟨e3, by rw [fp_set hn']; exact he3, hS⟩
  | e w rd =>
    cases kb with
    | q rd2 => cases hk
    | e w2 rd2 => cases hk
    | w w2 rd2 => cases hk
    | g w2 rd2 => cases hk
    | h w2 rd2 => cases hk
    | f w2 =>
      obtain ⟨o, ho, hg, hw, R, hO, h⟩ := h
      rw [looksI_eq ho] at f2
      rw [dstI_eq ho] at f1 f3
      simp only [memFree, Kx.wr, Kx.rds, List.all_nil, Bool.true_and, Bool.and_eq_true, List.all_eq_true, Bool.not_eq_true'] at hm
      have hne : w2 ≠ w := fun e => by rw [e, Nat.beq_refl] at hm; cases hm.1
      have hn : w2 ∉ rd := fun hin => by have := hm.2 w2 hin; rw [Nat.beq_refl] at this; cases this
      have hn2 : w2 ∉ w :: rd := fun hin => by rcases List.mem_cons.1 hin with e | e; exact hne e; exact hn e
      refine fun r2 en2 hrr2 => ⟨o, ho, hg, ⟨by simpa using hw.1, hw.2⟩, R, ?_, fun r μ' hrr => ?_⟩
      · rw [fp_set hn2]; exact hO.congr fun x hx => (evF_upd f2 x hx).symm
      · obtain ⟨en, he, h⟩ := h r μ' hrr
        refine ⟨en, by rw [fp_set hn]; exact he, ?_⟩
        rw [← upd_comm f3, List.set_comm _ _ hne]
        exact h r2 en2 hrr2
  | f w =>
    cases kb with
    | q rd2 => cases hk
    | e w2 rd2 => cases hk
    | w w2 rd2 => cases hk
    | g w2 rd2 =>
      obtain ⟨r0, e0, hr0⟩ := hF w rfl
      obtain ⟨o2, ho2, hg2, hd2, hw2, en2, hs2, hO2, _⟩ := h r0 e0 hr0
      rw [looksI_eq ho2] at f1
      simp only [memFree, Kx.wr, Kx.rds, List.all_nil, Bool.and_true, Bool.and_eq_true, List.all_eq_true, Bool.not_eq_true'] at hm
      have hne : w2 ≠ w := fun e => by rw [e, Nat.beq_refl] at hm; cases hm.2
      have hn : w ∉ rd2 := fun hin => by have := hm.1 w hin; rw [Nat.beq_refl] at this; cases this
      have hn2 : w ∉ w2 :: rd2 := fun hin => by rcases List.mem_cons.1 hin with e | e; exact hne e.symm; exact hn e
      have key : ∀ r, stF o2 (evF (upd ρ (dstI l i) r)) = stF o2 (evF ρ) := fun r => stF_congr fun x hx => evF_upd f1 x hx
      rw [slot_set_ne (Ne.symm hne)] at hs2
      rw [fp_set hn2, fp_set hn, key] at hO2
      refine ⟨o2, ho2, hg2, hd2, ⟨by simpa using hw2.1, hw2.2⟩, en2, hs2, hO2.congr fun x hx => evF_upd f1 x hx, fun r en hrr => ?_⟩
      obtain ⟨o3, ho3, _, _, _, en3, hs3, _, hS⟩ := h r en hrr
      rw [ho2] at ho3; cases ho3
      rw [slot_set_ne (Ne.symm hne), hs2] at hs3; cases hs3
      rw [key, List.set_comm _ _ (Ne.symm hne)] at hS
      exact hS
    | h w2 rd2 => cases hk
    | f w2 =>
      simp only [memFree, Kx.wr, Kx.rds, List.all_nil, Bool.true_and, Bool.and_true, Bool.not_eq_true'] at hm
      have hne : w2 ≠ w := fun e => by rw [e, Nat.beq_refl] at hm; cases hm
      refine fun r2 en2 hrr2 r en hrr => ?_
      rw [← upd_comm f3, List.set_comm _ _ hne]
      exact h r en hrr r2 en2 hrr2

/-- An operation that nothing before it holds up may come first. -/
theorem SQ.front {b : It} {its : List It} : ∀ {A : List It} {ρ : Nat → V} {m : List (Option E)}, (∀ a, a ∈ A → kindFree a.k b.k = true ∧ memFree a.k b.k = true ∧ regFree l a.i b.i = true ∧ ∀ w, a.k = .f w → ∃ r en, rfOf F a.i r en) → SQ X n l F K (A ++ b :: its) ρ m → SQ X n l F K (b :: (A ++ its)) ρ m
  | [], _, _, _, h => h
  | a :: A, ρ, m, hA, h => by
    obtain ⟨h1, h2, h3, h4⟩ := hA a (by simp)
    refine SQ.swap h1 h2 h3 h4 ?_
    obtain ⟨i, ka⟩ := a
    have ih := fun ρ m => SQ.front (b := b) (its := its) (A := A) (ρ := ρ) (m := m) fun a ha => hA a (by simp [ha])
    cases ka with
    | q rd => obtain ⟨o, ho, hn, r, hG, h⟩ := h; exact ⟨o, ho, hn, r, hG, ih _ _ h⟩
    | e w rd => obtain ⟨o, ho, hg, hw, R, hO, h⟩ := h; exact ⟨o, ho, hg, hw, R, hO, fun r μ' hrr => by obtain ⟨en, he, h⟩ := h r μ' hrr; exact ⟨en, he, ih _ _ h⟩⟩
    | f w => exact fun r en hrr => ih _ _ (h r en hrr)
    | w w rd => obtain ⟨o, ho, hg, hw, r, en, hO, h⟩ := h; exact ⟨o, ho, hg, hw, r, en, hO, ih _ _ h⟩
    | g w rd => obtain ⟨o, ho, hg, hd, hw, en, hs, hO, h⟩ := h; exact ⟨o, ho, hg, hd, hw, en, hs, hO, ih _ _ h⟩
    | h w rd => obtain ⟨o, ho, hg, hw, R, hO, hne, h⟩ := h; exact ⟨o, ho, hg, hw, R, hO, hne, fun r μ' hrr => by obtain ⟨en, he, h⟩ := h r μ' hrr; exact ⟨en, he, ih _ _ h⟩⟩

/-- What makes new memory looks at nothing that the region writes. -/
def fresh1 (l : List Oper) (s : Nat) (it : It) : Bool := !isF it.k || ((looksI l it.i).all fun t => (List.range s).all fun j => !(dstI l j == some t)) && (nth l it.i).any fun o => o.guard == none
def FreshAt (X : Cfg) (l : List Oper) (F : Rfs) (ρ0 : Nat → V) (its : List It) : Prop := ∀ i w, (⟨i, .f w⟩ : It) ∈ its → ∃ o, nth l i = some o ∧ o.guard = none ∧ Fresh X o (evF ρ0) (rfOf F i) ∧ ∃ r en, rfOf F i r en
def pairsOk (l : List Oper) : List It → Bool
  | [] => true
  | a :: r => r.all (mayPass l a) && pairsOk l r
theorem pairsOk_app {l : List Oper} {b : It} : ∀ {A B : List It}, pairsOk l (A ++ b :: B) = true → pairsOk l (A ++ B) = true ∧ (∀ a, a ∈ A → mayPass l a b = true) ∧ (∀ a, a ∈ B → mayPass l b a = true)
  | [], B, h => by
    simp only [List.nil_append, pairsOk, Bool.and_eq_true, List.all_eq_true] at h
    exact ⟨h.2, fun a ha => (by cases ha), h.1⟩
  | a :: A, B, h => by
    simp only [List.cons_append, pairsOk, Bool.and_eq_true, List.all_eq_true] at h
    obtain ⟨h1, h2, h3⟩ := pairsOk_app h.2
    refine ⟨?_, fun x hx => ?_, h3⟩
    · simp only [List.cons_append, pairsOk, Bool.and_eq_true, List.all_eq_true]
      exact ⟨fun x hx => h.1 x (by rcases List.mem_append.1 hx with k | k <;> simp [k]), h1⟩
    · rcases List.mem_cons.1 hx with rfl | hx
      · exact h.1 b (by simp)
      · exact h2 x hx

def endK (X : Cfg) (n : Nat) (z : Z) (l : List Oper) (s : Nat) (Q : Exit → S → Prop) (ρ : Nat → V) (m : List (Option E)) : Prop := ∃ regs, ρ = look regs ∧ RWP X n z l.toArray (l.drop s) Q ⟨regs, allE m⟩
end

section draw
variable {X : Cfg} {n : Nat} {z : Z} {Q : Exit → S → Prop} {l : List Oper} {s : Nat} {F : Rfs}
theorem listed_tf {listed : Array Bool} {j : Nat} (hj : j < listed.size) : listed.getD j true = listed.getD j false := by
  rw [Array.getD_eq_getD_getElem?, Array.getD_eq_getD_getElem?, Array.getElem?_eq_getElem hj]; rfl
theorem unl_count {m : Nat} {listed : Array Bool} (hsz : listed.size = l.length) (hml : m ≤ l.length) (hq : ∀ i, i < m → listed.getD i true = true) (htail : ∀ i, m ≤ i → i < l.length → listed.getD i true = false) : unl listed = l.length - m := by
  have hL : listed.toList = (List.range l.length).map fun i => decide (i < m) := by
    apply List.ext_getElem?
    intro i
    by_cases hi : i < l.length
    · rw [List.getElem?_map, List.getElem?_range hi]
      have hv : listed.getD i true = decide (i < m) := by
        by_cases him : i < m
        · rw [hq i him]; simp [him]
        · rw [htail i (by omega) hi]; simp [him]
      rw [Array.getD_eq_getD_getElem?, Array.getElem?_eq_getElem (by omega)] at hv
      rw [Array.getElem?_toList, Array.getElem?_eq_getElem (by omega)]
      simpa using hv
    · rw [List.getElem?_eq_none (by simp; omega), List.getElem?_eq_none (by simp; omega)]
  unfold unl
  rw [hL]
  have hr : ∀ N, m ≤ N → ((List.range N).map fun i => decide (i < m)).count false = N - m := by
    intro N hN
    induction N with
    | zero => simp
    | succ N ihN =>
      rw [List.range_succ, List.map_append, List.count_append]
      by_cases hmN : m ≤ N
      · rw [ihN hmN]
        have : decide (N < m) = false := by simp; omega
        simp [this]; omega
      · have hm' : m = N + 1 := by omega
        have : decide (N < m) = true := by simp; omega
        have hz : ((List.range N).map fun i => decide (i < m)).count false = 0 := by
          rw [List.count_eq_zero]
          intro hmem
          obtain ⟨i, hi, he⟩ := List.mem_map.1 hmem
          have := List.mem_range.1 hi
          simp at he
          omega
        rw [hz]
        simp [this]; omega
  exact hr _ hml
theorem draw_c {z1 : Z} (hz : ZLe z z1) (ok : DrawOk l s) (hsl : s ≤ l.length) (hdst : l.all (dstOk n) = true) {ρ0 : Nat → V} : ∀ (fuel : Nat) (its : List It) (ρ : Nat → V) (m : List (Option E)) (listed : Array Bool) (a : Act) (w : World) (I : Nat → Prop),
    listed.size = l.length → unl listed = fuel → (∀ i, s ≤ i → i < l.length → listed.getD i true = false) → Closed l listed →
    (∀ i, i < s → (listed.getD i true = false ↔ ∃ k, (⟨i, k⟩ : It) ∈ its)) → (its.map It.i).Nodup → (∀ it, it ∈ its → it.i < s) → pairsOk l its = true → its.all (fresh1 l s) = true → FreshAt X l F ρ0 its →
    (∀ t, (∀ j, j < s → dstI l j ≠ some t) → ρ t = ρ0 t) → (∀ i v, (⟨i, .f v⟩ : It) ∈ its → nth m v = some none) →
    SQ X n l F (endK X n z l s Q) its ρ m → Heap X w I (allE m) → (∀ t, VRep w I (ρ t) (a.tmps.getD t undef)) → Ext z1.w z1.I z1.μ w I (allE m) → a.defers = z1.ds → a.tmps.size = n →
    wpAnyIn (fen z.rd) 0 X.P .any l.toArray (liftQ X n z1 Q) fuel listed a w := by
  intro fuel
  induction fuel with
  | zero =>
    intro its ρ m listed a w I hsz hun htail hclo hits hnd hlt hp hf1 hF hρ hfm hSQ hH hR hx hd hs
    have hall : ∀ i, i < l.length → listed.getD i true = true := by
      intro i hi
      cases hb : listed.getD i true with
      | true => rfl
      | false => have := unl_set hb; omega
    have hsl' : s = l.length := by
      rcases Nat.lt_or_ge s l.length with h | h
      · have h1 := htail s (Nat.le_refl _) h; rw [hall s h] at h1; cases h1
      · omega
    have hnil : its = [] := by
      cases its with
      | nil => rfl
      | cons it r =>
        have h1 := hlt it (by simp)
        have h2 := (hits it.i h1).2 ⟨it.k, by simp⟩
        rw [hall it.i (by omega)] at h2; cases h2
    subst hnil
    obtain ⟨regs, rfl, hk⟩ := hSQ
    refine draw_tail ok 0 l.length listed a w hsz hsl (Nat.le_refl _) (fun i hi => by rw [hall i hi]; simp [hi]) (by omega) ?_
    have := hk (by rw [hsl']; simp) z1 hz a w ⟨I, hH, hR, hx, hd, hs⟩
    rwa [hsl'] at this
  | succ fuel ih =>
    intro its ρ m listed a w I hsz hun htail hclo hits hnd hlt hp hf1 hF hρ hfm hSQ hH hR hx hd hs
    cases hits0 : its with
    | nil =>
      subst hits0
      have hq : ∀ i, i < s → listed.getD i true = true := by
        intro i hi
        cases hb : listed.getD i true with
        | true => rfl
        | false => obtain ⟨k, hk⟩ := (hits i hi).1 hb; cases hk
      obtain ⟨regs, rfl, hk⟩ := hSQ
      refine draw_tail ok (fuel + 1) s listed a w hsz (Nat.le_refl _) hsl (fun i hi => ?_) ?_ ?_
      · by_cases him : i < s
        · rw [hq i him]; simp [him]
        · rw [htail i (by omega) hi]; simp [him]
      · have := unl_count (m := s) (l := l) (listed := listed) hsz hsl hq htail
        omega
      · exact hk (by
          rw [List.all_eq_true] at hdst ⊢
          exact fun o ho => hdst o (List.mem_of_mem_drop ho)) z1 hz a w ⟨I, hH, hR, hx, hd, hs⟩
    | cons it0 its0 =>
      have hi0s := hlt it0 (by rw [hits0]; simp)
      have hb00 := (hits it0.i hi0s).2 ⟨it0.k, by rw [hits0]; simp⟩
      -- the first one that is left
      have hex : ∃ i, i < s ∧ listed.getD i true = false ∧ ∀ j, j < i → listed.getD j true = true := by
        have strong : ∀ N i, i < N → i < s → listed.getD i true = false → ∃ i, i < s ∧ listed.getD i true = false ∧ ∀ j, j < i → listed.getD j true = true := by
          intro N
          induction N with
          | zero => intro i h; omega
          | succ N ihN =>
            intro i hiN him hb
            by_cases hall : ∀ j, j < i → listed.getD j true = true
            · exact ⟨i, him, hb, hall⟩
            · rcases Classical.not_forall.1 hall with ⟨j, hj⟩
              rcases Classical.not_imp.1 hj with ⟨h1, h2⟩
              exact ihN j (by omega) (by omega) (by cases hb' : listed.getD j true; rfl; exact absurd hb' h2)
        exact strong (it0.i + 1) it0.i (by omega) hi0s hb00
      obtain ⟨i0, hi0, hb0, hmin⟩ := hex
      refine ⟨fun hnil => ?_, fun i hi => ?_⟩
      · exfalso
        have hlt0 : i0 < l.length := by omega
        have : i0 ∈ Region.ready .any l.toArray listed := by
          rw [mem_ready]
          refine ⟨hb0, l[i0], by simp [hlt0], fun e he hb => ?_⟩
          have hlt := ok.back i0 l[i0] (List.getElem?_eq_getElem hlt0) e he hb
          have h2 := hmin e.on hlt
          rw [← listed_tf (by omega)]
          exact h2
        rw [hnil] at this
        simp at this
      · rw [mem_ready] at hi
        obtain ⟨hbi, o, ho, hedge⟩ := hi
        have ho' : l[i]? = some o := by simpa using ho
        have hil : i < l.length := (List.getElem?_eq_some_iff.1 ho').1
        have hun2 : ∀ j, j < l.length → listed.getD j true = false → ¬ listed.getD j false = true := fun j hj h1 h2 => by
          rw [← listed_tf (by omega), h1] at h2; cases h2
        have him : i < s := by
          rcases Nat.lt_or_ge i s with h | h
          · exact h
          · exfalso
            rcases Nat.lt_or_ge s i with hgt | hge
            · obtain ⟨e, he1, he2, he3⟩ := ok.tail1 i o ho' hgt
              have h1 := hedge e he1 he3
              rw [he2] at h1
              exact hun2 (i - 1) (by omega) (htail (i - 1) (by omega) (by omega)) h1
            · have him : i = s := by omega
              subst him
              exact hun2 i0 (by omega) hb0 (reach_ready hclo ho' hedge (ok.tail0 o ho' i0 hi0))
        obtain ⟨k, hk⟩ := (hits i him).1 hbi
        obtain ⟨A, B, hAB⟩ := List.append_of_mem hk
        rw [hAB] at hSQ hp hnd hits hlt hf1 hF hfm
        obtain ⟨hp1, hp2, hp3⟩ := pairsOk_app hp
        have hnd' : ((A ++ B).map It.i).Nodup ∧ (∀ it, it ∈ A ++ B → it.i ≠ i) := by
          rw [List.map_append, List.map_cons] at hnd
          have h1 := (List.perm_middle (a := i) (l₁ := A.map It.i) (l₂ := B.map It.i)).nodup_iff.1 hnd
          rw [← List.map_append] at h1
          obtain ⟨h2, h3⟩ := List.nodup_cons.1 h1
          exact ⟨h3, fun it hit e => h2 (e ▸ List.mem_map_of_mem hit)⟩
        have hmem : ∀ it, it ∈ A ++ B → it ∈ A ++ ⟨i, k⟩ :: B := fun it hit => by
          rcases List.mem_append.1 hit with h | h <;> simp [h]
        have hfree : ∀ it, it ∈ A → kindFree it.k k = true ∧ memFree it.k k = true ∧ regFree l it.i i = true ∧ ∀ w, it.k = .f w → ∃ r en, rfOf F it.i r en := by
          intro it hit
          have h1 := hp2 it hit
          unfold mayPass at h1
          simp only [Bool.or_eq_true, Bool.and_eq_true] at h1
          rcases h1 with h1 | h1
          · refine ⟨h1.1.1, h1.1.2, h1.2, fun w hw => ?_⟩
            obtain ⟨o9, _, _, _, h9⟩ := hF it.i w (by rw [← hw]; simp [hit])
            exact h9
          · exfalso
            have h2 := reach_ready hclo ho' hedge h1.2
            have h3 := hlt it (by simp [hit])
            have h4 := (hits it.i h3).2 ⟨it.k, by simp [hit]⟩
            exact hun2 it.i (by omega) h4 h2
        have hSQ' := SQ.front hfree hSQ
        have hdo : dstOk n o = true := by
          rw [List.all_eq_true] at hdst
          exact hdst o (List.mem_of_getElem? ho')
        have hon : nth l i = some o := by rw [nth_eq]; exact ho'
        simp only [wpOpIn, ho]
        -- one step
        have step : ∀ (r : V) (m' : List (Option E)) v I' w', SQ X n l F (endK X n z l s Q) (A ++ B) (upd ρ o.dst r) m' → (∀ j v, (⟨j, .f v⟩ : It) ∈ A ++ B → nth m' v = some none) → VRep w' I' r v → Heap X w' I' (allE m') → Ext w I (allE m) w' I' (allE m') → wpAnyIn (fen z.rd) 0 X.P .any l.toArray (liftQ X n z1 Q) fuel (listed.setIfInBounds i true) (a.put o.dst v) w' := by
          intro r m' v I' w' hS hfm' hv hH' hx'
          have hu := unl_set hbi
          refine ih (A ++ B) (upd ρ o.dst r) m' (listed.setIfInBounds i true) _ w' I' (by simp [hsz]) (by omega) (fun j hj hjl => ?_) (fun j oj hoj hb e he1 he3 => ?_) (fun j hj => ?_) hnd'.1 (fun it hit => hlt it (hmem it hit)) hp1 ?_ (fun j v hj => hF j v (hmem _ hj)) (fun t ht => ?_) hfm' hS hH' (fun t => ?_) (hx.trans hx') ?_ ?_
          · rw [getD_set_ne true (by omega)]; exact htail j hj hjl
          · have key : listed.getD e.on false = true := by
              by_cases hji : j = i
              · subst hji
                rw [ho'] at hoj; cases hoj
                exact hedge e he1 he3
              · rw [getD_set_ne true (Ne.symm hji)] at hb
                exact hclo j oj hoj hb e he1 he3
            rw [Array.getD_eq_getD_getElem?, Array.getElem?_setIfInBounds]
            by_cases hei : i = e.on
            · rw [if_pos hei]
              have : i < listed.size := by omega
              simp [this]
            · rw [if_neg hei, ← Array.getD_eq_getD_getElem?]; exact key
          · by_cases hji : j = i
            · subst hji
              constructor
              · intro h
                rw [Array.getD_eq_getD_getElem?, Array.getElem?_setIfInBounds] at h
                simp [show j < listed.size by omega] at h
              · rintro ⟨k', hk'⟩
                exact absurd rfl (hnd'.2 _ hk')
            · rw [getD_set_ne true (Ne.symm hji), hits j hj]
              constructor
              · rintro ⟨k', hk'⟩
                refine ⟨k', ?_⟩
                rcases List.mem_append.1 hk' with h | h
                · simp [h]
                · rcases List.mem_cons.1 h with h | h
                  · injection h with h1 h2; exact absurd h1 hji
                  · simp [h]
              · rintro ⟨k', hk'⟩
                exact ⟨k', hmem _ hk'⟩
          · rw [List.all_eq_true] at hf1 ⊢
            exact fun it hit => hf1 it (hmem it hit)
          · rw [upd_ne (by have := ht i him; rw [dstI_eq hon] at this; exact this)]
            exact hρ t ht
          · cases hod : o.dst with
            | none => rw [upd_none]; exact hH.vrep hx' (hR t)
            | some d =>
              have hdn : d < n := by simp only [dstOk, hod, Bool.and_eq_true] at hdo; simpa [Nat.blt_eq] using hdo.1
              rw [tmps_put hs hdn]
              by_cases hdt : d = t
              · subst hdt; rw [if_pos rfl, upd, if_pos rfl]; exact hv
              · rw [if_neg hdt, upd_ne (by simpa using hdt)]; exact hH.vrep hx' (hR t)
          · cases hod : o.dst <;> simp [Act.put, hd]
          · cases hod : o.dst <;> simp [Act.put, hs]
        have hlook : ∀ t, t ∈ o.looksAt l.toArray → VRep w I (ρ t) (a.tmps.getD t undef) := fun t _ => hR t
        have hops : ∀ x, x ∈ o.op.operands → VRep w I (evF ρ x) (a.eval x) := by
          intro x hx
          cases x with
          | tmp t => exact hR t
          | const v => exact constV_rep w I v
          | global g => exact CRep.lit _ rfl
          | func f => exact CRep.fn (.func f) [] [] [] [] rfl rfl (fun j c u hc => by simp at hc) (fun j c u hc => by simp at hc)
        -- what the others keep
        have keep : ∀ v, (∀ it, it ∈ A ++ B → isF it.k = true → it.k.wr ≠ some v) → ∀ en, ∀ j u, (⟨j, .f u⟩ : It) ∈ A ++ B → nth (m.set v (some en)) u = some none := by
          intro v hv en j u hj
          have h1 := hfm j u (hmem _ hj)
          have hne : v ≠ u := fun e => hv _ hj rfl (by rw [e]; rfl)
          rw [nth_eq, List.getElem?_set_ne hne, ← nth_eq]; exact h1
        have wrs : ∀ v, k.wr = some v → ∀ it, it ∈ A ++ B → isF it.k = true → it.k.wr ≠ some v := by
          intro v hv it hit hF1 hw
          rcases List.mem_append.1 hit with h | h
          · have h1 := (hfree it h).2.1
            unfold memFree at h1
            rw [hw, hv] at h1
            simp [Nat.beq_refl] at h1
          · have h1 := hp3 it h
            unfold mayPass at h1
            rw [hF1] at h1
            simp only [Bool.not_true, Bool.false_and, Bool.or_false, Bool.and_eq_true] at h1
            have h2 := h1.1.2
            unfold memFree at h2
            simp only [hw, hv] at h2
            simp [Nat.beq_refl] at h2
        cases k with
        | q rd =>
          obtain ⟨o2, ho2, hrn, r, hG, hS⟩ := hSQ'
          rw [hon] at ho2; cases ho2
          have hG' := (hG.wide (allE_perm rd m hrn)) a w I hH hlook hs (wpAnyIn (fen z.rd) 0 X.P .any l.toArray (liftQ X n z1 Q) fuel (listed.setIfInBounds i true)) (liftQ X n z1 Q) fun v I' w' hv hH' hx' => step r m v I' w' hS (fun j u hj => hfm j u (hmem _ hj)) hv hH' hx'
          split
          · rename_i hw; rw [if_pos hw] at hG'; exact hG' (dstOk.nd hdo) _
          · rename_i hw; rw [if_neg hw] at hG'; exact ⟨fun _ _ => trivial, hG'⟩
        | e v rd =>
          obtain ⟨o2, ho2, hg, ⟨hw1, hw2⟩, R, hO, hS⟩ := hSQ'
          rw [hon] at ho2; cases ho2
          have hO' := (hO.wide (allE_perm (v :: rd) m hw2)) a w I hH hops (wpAnyIn (fen z.rd) 0 X.P .any l.toArray (liftQ X n z1 Q) fuel (listed.setIfInBounds i true)) (liftQ X n z1 Q) (by
            rintro u r _ I' w' ⟨μ', hrr, rfl⟩ hv hH' hx'
            obtain ⟨en, rfl, hS'⟩ := hS r μ' hrr
            have hpm := allE_write (m := m) (en := en) hw2 hw1
            exact step r _ u I' w' hS' (keep v (wrs v rfl) en) hv (hH'.perm hpm) (hx'.perm (List.Perm.refl _) hpm))
          rw [if_pos (by simp [Region.wanted, hg])]
          exact hO' (dstOk.nd hdo) _
        | w v rd =>
          obtain ⟨o2, ho2, hg, ⟨hw1, hw2⟩, r0, en0, hO, hS0⟩ := hSQ'
          rw [hon] at ho2; cases ho2
          have hO' := (hO.wide (allE_perm (v :: rd) m hw2)) a w I hH hops (wpAnyIn (fen z.rd) 0 X.P .any l.toArray (liftQ X n z1 Q) fuel (listed.setIfInBounds i true)) (liftQ X n z1 Q) (by
            rintro u r _ I' w' ⟨μ', hrr, rfl⟩ hv hH' hx'
            obtain ⟨rfl, rfl⟩ := hrr
            have hS' := hS0
            have hpm := allE_write (m := m) (en := en0) hw2 hw1
            exact step r _ u I' w' hS' (keep v (wrs v rfl) en0) hv (hH'.perm hpm) (hx'.perm (List.Perm.refl _) hpm))
          rw [if_pos (by simp [Region.wanted, hg])]
          exact hO' (dstOk.nd hdo) _
        | h v rd =>
          obtain ⟨o2, ho2, hg, ⟨hw1, hw2⟩, R, hO, _, hS⟩ := hSQ'
          rw [hon] at ho2; cases ho2
          have hO' := (hO.wide (allE_perm (v :: rd) m hw2)) a w I hH hops (wpAnyIn (fen z.rd) 0 X.P .any l.toArray (liftQ X n z1 Q) fuel (listed.setIfInBounds i true)) (liftQ X n z1 Q) (by
            rintro u r _ I' w' ⟨μ', hrr, rfl⟩ hv hH' hx'
            obtain ⟨en, rfl, hS'⟩ := hS r μ' hrr
            have hpm := allE_write (m := m) (en := en) hw2 hw1
            exact step r _ u I' w' hS' (keep v (wrs v rfl) en) hv (hH'.perm hpm) (hx'.perm (List.Perm.refl _) hpm))
          rw [if_pos (by simp [Region.wanted, hg])]
          exact hO' (dstOk.nd hdo) _
        | g v rd =>
          obtain ⟨o2, ho2, hg, hd2, ⟨hw1, hw2⟩, en0, _, hO, hS0⟩ := hSQ'
          rw [hon] at ho2; cases ho2
          have hO' := (hO.wide (allE_perm (v :: rd) m hw2)) a w I hH hops (wpAnyIn (fen z.rd) 0 X.P .any l.toArray (liftQ X n z1 Q) fuel (listed.setIfInBounds i true)) (liftQ X n z1 Q) (by
            rintro u r _ I' w' ⟨μ', rfl, rfl⟩ hv hH' hx'
            have hpm := allE_write (m := m) (en := stF o (evF ρ) en0) hw2 hw1
            exact step r _ u I' w' (by rw [hd2, upd_none]; exact hS0) (keep v (wrs v rfl) _) hv (hH'.perm hpm) (hx'.perm (List.Perm.refl _) hpm))
          rw [if_pos (by simp [Region.wanted, hg])]
          exact hO' (dstOk.nd hdo) _
        | f v =>
          obtain ⟨o2, ho2, hg, hFr, _⟩ := hF i v (by simp)
          rw [hon] at ho2; cases ho2
          have hfv := hfm i v (by simp)
          have hFr' : Fresh X o (evF ρ) (rfOf F i) := by
            refine OpE.congr hFr fun x hx => ?_
            cases x with
            | tmp t =>
              have h1 := List.all_eq_true.1 hf1 ⟨i, .f v⟩ (by simp)
              simp only [fresh1, isF, Bool.not_true, Bool.false_or, Bool.and_eq_true, List.all_eq_true, Bool.not_eq_true', beq_eq_false_iff_ne, List.mem_range, looksI_eq hon] at h1
              exact (hρ t (h1.1 t (looks_op hx))).symm
            | _ => rfl
          have hO' := (OpE.wide (φ := allE m) hFr' (List.Perm.refl _)) a w I hH hops (wpAnyIn (fen z.rd) 0 X.P .any l.toArray (liftQ X n z1 Q) fuel (listed.setIfInBounds i true)) (liftQ X n z1 Q) (by
            rintro u r _ I' w' ⟨_, ⟨en, hrr, rfl⟩, rfl⟩ hv hH' hx'
            have hpm := allE_fresh (en := en) hfv
            have hS' := hSQ' r en hrr
            rw [dstI_eq hon] at hS'
            exact step r _ u I' w' hS' (keep v (wrs v rfl) en) hv (hH'.perm hpm) (hx'.perm (List.Perm.refl _) hpm))
          rw [if_pos (by simp [Region.wanted, hg])]
          exact hO' (dstOk.nd hdo) _

/-- The operations in the order of the derivation: each of the first s once. -/
def nodupN : List Nat → Bool
  | [] => true
  | a :: r => r.all (fun b => !Nat.beq a b) && nodupN r
def itsOk (l : List Oper) (s : Nat) (its : List It) : Bool :=
  its.all (fun it => Nat.blt it.i s) && (List.range s).all (fun i => (its.map It.i).contains i) && nodupN (its.map It.i) && pairsOk l its && its.all (fresh1 l s)
def FX (X : Cfg) (l : List Oper) (regs : List (Nat × V)) : List It → Rfs → (Rfs → Prop) → Prop
  | [], F, K => K F
  | ⟨i, .f _⟩ :: its, F, K => ∃ o, nth l i = some o ∧ o.guard = none ∧ ∃ Rf, Fresh X o (ev regs) Rf ∧ (∃ r en, Rf r en) ∧ FX X l regs its (F ++ [(i, Rf)]) K
  | _ :: its, F, K => FX X l regs its F K
theorem rfOf_app {F : Rfs} {i : Nat} {G : Rfs} (h : i ∈ F.map Prod.fst) : rfOf (F ++ G) i = rfOf F i := by
  induction F with
  | nil => cases h
  | cons a F ih =>
    obtain ⟨j, R⟩ := a
    show (bif Nat.beq j i then R else rfOf (F ++ G) i) = bif Nat.beq j i then R else rfOf F i
    cases hb : Nat.beq j i with
    | true => rfl
    | false =>
      simp only [cond_false]
      refine ih ?_
      rcases List.mem_cons.1 h with h | h
      · rw [h] at hb; simp [Nat.beq_refl] at hb
      · exact h
theorem rfOf_new {F : Rfs} {i : Nat} {R : V → E → Prop} (h : i ∉ F.map Prod.fst) : rfOf (F ++ [(i, R)]) i = R := by
  induction F with
  | nil => show (bif Nat.beq i i then R else _) = R; rw [Nat.beq_refl]; rfl
  | cons a F ih =>
    obtain ⟨j, R'⟩ := a
    show (bif Nat.beq j i then R' else rfOf (F ++ [(i, R)]) i) = R
    cases hb : Nat.beq j i with
    | true => exact absurd (Nat.eq_of_beq_eq_true hb).symm (fun e => h (by simp [e]))
    | false => exact ih fun e => h (by simp [e])
theorem FX.parts {X : Cfg} {l : List Oper} {regs : List (Nat × V)} {K : Rfs → Prop} : ∀ {its : List It} {F : Rfs}, (its.map It.i).Nodup → (∀ it, it ∈ its → it.i ∉ F.map Prod.fst) → FX X l regs its F K → ∃ G, FreshAt X l (F ++ G) (look regs) its ∧ K (F ++ G) ∧ ∀ i, i ∈ G.map Prod.fst → i ∈ its.map It.i
  | [], F, _, _, h => ⟨[], fun i w hi => (by cases hi), by rw [List.append_nil]; exact h, fun i hi => (by cases hi)⟩
  | ⟨i, .q rd⟩ :: its, F, hn, hd, h => by
    obtain ⟨G, h1, h2, h3⟩ := FX.parts (its := its) (List.nodup_cons.1 hn).2 (fun it hit => hd it (by simp [hit])) h
    refine ⟨G, fun j w hj => ?_, h2, fun j hj => List.mem_cons_of_mem _ (h3 j hj)⟩
    rcases List.mem_cons.1 hj with e | e
    · injection e with e1 e2; cases e2
    · exact h1 j w e
  | ⟨i, .e w0 rd⟩ :: its, F, hn, hd, h => by
    obtain ⟨G, h1, h2, h3⟩ := FX.parts (its := its) (List.nodup_cons.1 hn).2 (fun it hit => hd it (by simp [hit])) h
    refine ⟨G, fun j w hj => ?_, h2, fun j hj => List.mem_cons_of_mem _ (h3 j hj)⟩
    rcases List.mem_cons.1 hj with e | e
    · injection e with e1 e2; cases e2
    · exact h1 j w e
  | ⟨i, .w w0 rd⟩ :: its, F, hn, hd, h => by
    obtain ⟨G, h1, h2, h3⟩ := FX.parts (its := its) (List.nodup_cons.1 hn).2 (fun it hit => hd it (by simp [hit])) h
    refine ⟨G, fun j w hj => ?_, h2, fun j hj => List.mem_cons_of_mem _ (h3 j hj)⟩
    rcases List.mem_cons.1 hj with e | e
    · injection e with e1 e2; cases e2
    · exact h1 j w e
  | ⟨i, .g w0 rd⟩ :: its, F, hn, hd, h => by
    obtain ⟨G, h1, h2, h3⟩ := FX.parts (its := its) (List.nodup_cons.1 hn).2 (fun it hit => hd it (by simp [hit])) h
    refine ⟨G, fun j w hj => ?_, h2, fun j hj => List.mem_cons_of_mem _ (h3 j hj)⟩
    rcases List.mem_cons.1 hj with e | e
    · injection e with e1 e2; cases e2
    · exact h1 j w e
  | ⟨i, .h w0 rd⟩ :: its, F, hn, hd, h => by
    obtain ⟨G, h1, h2, h3⟩ := FX.parts (its := its) (List.nodup_cons.1 hn).2 (fun it hit => hd it (by simp [hit])) h
    refine ⟨G, fun j w hj => ?_, h2, fun j hj => List.mem_cons_of_mem _ (h3 j hj)⟩
    rcases List.mem_cons.1 hj with e | e
    · injection e with e1 e2; cases e2
    · exact h1 j w e
  | ⟨i, .f w0⟩ :: its, F, hn, hd, h => by
    obtain ⟨o, ho, hg, Rf, hF, hne, h⟩ := h
    have hi := hd ⟨i, .f w0⟩ (by simp)
    obtain ⟨G, h1, h2, h3⟩ := FX.parts (its := its) (List.nodup_cons.1 hn).2 (fun it hit e => by
      rw [List.map_append] at e
      rcases List.mem_append.1 e with e | e
      · exact hd it (by simp [hit]) e
      · have e2 : it.i = i := by simpa using e
        exact (List.nodup_cons.1 hn).1 (by show i ∈ its.map It.i; rw [← e2]; exact List.mem_map_of_mem hit)) h
    refine ⟨(i, Rf) :: G, fun j w hj => ?_, by simpa using h2, fun j hj => ?_⟩
    · have e0 : F ++ (i, Rf) :: G = F ++ [(i, Rf)] ++ G := by simp
      rcases List.mem_cons.1 hj with e | e
      · injection e with e1 e2
        subst e1
        refine ⟨o, ho, hg, ?_⟩
        rw [e0, rfOf_app (by simp), rfOf_new hi, evF_look]; exact ⟨hF, hne⟩
      · rw [e0]; exact h1 j w e
    · rcases List.mem_cons.1 hj with e | e
      · simp [e]
      · exact List.mem_cons_of_mem _ (h3 j e)

theorem nodupN_spec : ∀ {L : List Nat}, nodupN L = true → L.Nodup
  | [], _ => List.nodup_nil
  | a :: r, h => by
    simp only [nodupN, Bool.and_eq_true, List.all_eq_true, Bool.not_eq_true'] at h
    exact List.nodup_cons.2 ⟨fun hin => (by have := h.1 a hin; rw [Nat.beq_refl] at this; cases this), nodupN_spec h.2⟩

theorem filterMap_none : ∀ k : Nat, (List.replicate k (none : Option E)).filterMap id = []
  | 0 => rfl
  | k + 1 => by rw [List.replicate_succ, List.filterMap_cons]; exact filterMap_none k
/-- A REGION IN OPEN ORDER, derived in an order of our own. -/
theorem awp_draw_c {regs : List (Nat × V)} {μ : List E} {id : Nat} (s k : Nat) (its : List It) (hm : X.P.follows .mixedOrders = true) (hchk : drawChk l s = true) (hits : itsOk l s its = true) (hml : Nat.ble s l.length = true) (hd : l.all (dstOk n) = true) (hfm : (its.all fun it => match it.k with | .f w => Nat.blt w k | _ => true) = true)
    (h : FX X l regs its [] fun F => SQ X n l F (endK X n z l s Q) its (look regs) (List.replicate k none ++ μ.map some)) : AWP X n z (.region id l.toArray true) Q ⟨regs, μ⟩ := by
  intro z1 hz a w st
  obtain ⟨I, hH, hR, hx, hdf, hs⟩ := st.drew
  unfold itsOk at hits
  simp only [Bool.and_eq_true, List.all_eq_true] at hits
  obtain ⟨⟨⟨⟨g1, g2⟩, g3⟩, g4⟩, g5⟩ := hits
  have hsl := Nat.le_of_ble_eq_true hml
  have hin : ∀ i, i < s → i ∈ its.map It.i := fun i hi => by simpa using g2 i (List.mem_range.2 hi)
  have hnd : (its.map It.i).Nodup := nodupN_spec g3
  obtain ⟨G, h1, h2, h3⟩ := FX.parts hnd (fun it _ e => by cases e) h
  rw [List.nil_append] at h1 h2
  have hall : allE (List.replicate k none ++ μ.map some) = μ := by
    unfold allE
    rw [List.filterMap_append]
    rw [filterMap_none k, List.nil_append, List.filterMap_map]
    show List.filterMap some μ = μ
    exact List.filterMap_some
  refine wpIn_region_any hm ?_
  refine draw_c (F := G) hz (drawOk hchk) hsl hd _ its (look regs) _ _ a _ I (by simp) ?_ (fun i _ hi => by simp [hi]) (fun j o ho hb => by
    have hlt : j < l.length := (List.getElem?_eq_some_iff.1 ho).1
    simp [hlt] at hb) (fun i hi => ?_) hnd (fun it hit => by have := g1 it hit; simpa [Nat.blt_eq] using this) g4 (List.all_eq_true.2 g5) h1 (fun t _ => rfl) (fun i v hv => ?_) h2 (by rw [hall]; exact hH) hR (by rw [hall]; exact hx) hdf hs
  · unfold unl
    simp
  · constructor
    · intro _
      obtain ⟨it, hit, e⟩ := List.mem_map.1 (hin i hi)
      exact ⟨it.k, by rw [← e]; exact hit⟩
    · intro _
      simp [show i < l.length by omega]
  · have h4 := List.all_eq_true.1 hfm _ hv
    have h5 : v < k := by simpa [Nat.blt_eq] using h4
    rw [nth_eq, List.getElem?_append_left (by simpa using h5), List.getElem?_replicate, if_pos h5]
end draw

/-! ## Steps of a derivation -/
section rules
variable {X : Cfg} {n : Nat} {z : Z} {Q : Exit → S → Prop} {l : List Oper} {s : Nat} {F : Rfs} {K : (Nat → V) → List (Option E) → Prop} {its : List It} {o : Oper} {regs : List (Nat × V)} {m : List (Option E)} {i : Nat} {rd : List Nat}
theorem sq_det {r : V} {d : Tmp} (ho : nth l i = some o) (hn : rd.Nodup) (hd : o.dst = some d) (hg : o.guard = none) (h : Det X o (ev regs) (fp m rd) r (fp m rd)) (k : SQ X n l F K its (look ((d, r) :: regs)) m) : SQ X n l F K (⟨i, .q rd⟩ :: its) (look regs) m :=
  ⟨o, ho, hn, r, gdet_plain hg h, by rw [hd, look_upd]; exact k⟩
theorem sq_op {w : Nat} {R : V → List E → Prop} {d : Tmp} (ho : nth l i = some o) (hw : Nat.blt w m.length = true) (hn : (w :: rd).Nodup) (hd : o.dst = some d) (hg : o.guard = none) (h : OpE X o (ev regs) (fp m (w :: rd)) R) (k : ∀ r μ', R r μ' → ∃ en, μ' = en :: fp m rd ∧ SQ X n l F K its (look ((d, r) :: regs)) (m.set w (some en))) : SQ X n l F K (⟨i, .e w rd⟩ :: its) (look regs) m :=
  ⟨o, ho, hg, ⟨by simpa [Nat.blt_eq] using hw, hn⟩, R, by rw [evF_look]; exact h, fun r μ' hr => by obtain ⟨en, h1, h2⟩ := k r μ' hr; exact ⟨en, h1, by rw [hd, look_upd]; exact h2⟩⟩
theorem sq_op0 {w : Nat} {R : V → List E → Prop} (ho : nth l i = some o) (hw : Nat.blt w m.length = true) (hn : (w :: rd).Nodup) (hd : o.dst = none) (hg : o.guard = none) (h : OpE X o (ev regs) (fp m (w :: rd)) R) (k : ∀ r μ', R r μ' → ∃ en, μ' = en :: fp m rd ∧ SQ X n l F K its (look regs) (m.set w (some en))) : SQ X n l F K (⟨i, .e w rd⟩ :: its) (look regs) m :=
  ⟨o, ho, hg, ⟨by simpa [Nat.blt_eq] using hw, hn⟩, R, by rw [evF_look]; exact h, fun r μ' hr => by obtain ⟨en, h1, h2⟩ := k r μ' hr; exact ⟨en, h1, by rw [hd, upd_none]; exact h2⟩⟩
theorem sq_v0 {w : Nat} {r : V} {en en0 : E} (ho : nth l i = some o) (hw : Nat.blt w m.length = true) (hn : (w :: rd).Nodup) (hd : o.dst = none) (hg : o.guard = none) (hs : slot m w = some en0) (h : Det X o (ev regs) (fp m (w :: rd)) r (en :: fp m rd)) (he : stF o (ev regs) en0 = en) (k : SQ X n l F K its (look regs) (m.set w (some en))) : SQ X n l F K (⟨i, .g w rd⟩ :: its) (look regs) m :=
  ⟨o, ho, hg, hd, ⟨by simpa [Nat.blt_eq] using hw, hn⟩, en0, hs, by rw [evF_look, he]; exact OpE.mono h fun r' μ' e => e.2, by rw [evF_look, he]; exact k⟩
theorem sq_fresh {w : Nat} {d : Tmp} {R : V → E → Prop} (hR : rfOf F i = R) (hd : dstI l i = some d) (k : ∀ r en, R r en → SQ X n l F K its (look ((d, r) :: regs)) (m.set w (some en))) : SQ X n l F K (⟨i, .f w⟩ :: its) (look regs) m :=
  fun r en hr => by rw [hR] at hr; rw [hd, look_upd]; exact k r en hr
theorem sq_nil {μ : List E} (hμ : allE m = μ) (h : RWP X n z l.toArray (l.drop s) Q ⟨regs, μ⟩) : SQ X n l F (endK X n z l s Q) [] (look regs) m := ⟨regs, rfl, by rw [hμ]; exact h⟩
theorem fx_skip {k : Kx} {Kf : Rfs → Prop} {G : Rfs} (hk : isF k = false) (h : FX X l regs its G Kf) : FX X l regs (⟨i, k⟩ :: its) G Kf := by
  cases k with
  | f w => cases hk
  | q _ => exact h
  | e _ _ => exact h
  | w _ _ => exact h
  | g _ _ => exact h
  | h _ _ => exact h
theorem fx_fresh {w : Nat} {Kf : Rfs → Prop} {G : Rfs} {Rf : V → E → Prop} (ho : nth l i = some o) (hg : o.guard = none) (h : Fresh X o (ev regs) Rf) (hne : ∃ r en, Rf r en) (k : FX X l regs its (G ++ [(i, Rf)]) Kf) : FX X l regs (⟨i, .f w⟩ :: its) G Kf := ⟨o, ho, hg, Rf, h, hne, k⟩
theorem fx_nil {Kf : Rfs → Prop} {G : Rfs} (h : Kf G) : FX X l regs [] G Kf := h
end rules
end Go.Eng
end
section
set_option linter.unusedSimpArgs false
set_option linter.unusedVariables false
namespace Go.Eng
open Go Go.RowKit

theorem madeCells_rows {z : Array Value} {size : Nat} (hz : z.size = size) (hpos : 0 < size) : ∀ k : Nat, (madeCells z (k * size)).toList = (List.replicate k z.toList).flatten
  | 0 => by simp [madeCells]
  | k + 1 => by
    have ih := madeCells_rows hz hpos k
    rw [List.replicate_succ', List.flatten_append, ← ih]
    unfold madeCells
    rw [Array.toList_map, Array.toList_map, Array.toList_range, Array.toList_range, Nat.add_mul, Nat.one_mul, List.range_add, List.map_append]
    congr 1
    rw [List.map_map, List.flatten_cons, List.flatten_nil, List.append_nil]
    apply List.ext_getElem?
    intro i
    by_cases hi : i < size
    · rw [List.getElem?_map, List.getElem?_range hi, Option.map_some]
      have h1 : (k * size + i) % z.size = i := by rw [hz, Nat.mul_comm, Nat.mul_add_mod, Nat.mod_eq_of_lt hi]
      simp only [Function.comp_apply, h1]
      rw [getElem!_pos z i (by omega), Array.getElem?_toList, Array.getElem?_eq_getElem (by omega)]
    · rw [List.getElem?_eq_none (by simp; omega), List.getElem?_eq_none (by simp; omega)]

theorem reps_replicate {w : World} {I : Nat → Prop} {row : List C} {vs : List Value} (h : CReps w I row vs) : ∀ k : Nat, CReps w I (List.replicate k row).flatten (List.replicate k vs).flatten
  | 0 => .nil
  | k + 1 => by rw [List.replicate_succ, List.replicate_succ, List.flatten_cons, List.flatten_cons]; exact h.append (reps_replicate h k)

section
variable {X : Cfg} {o : Oper} {e : Operand → V} {μ : List E} {t : TypeId}
end
end Go.Eng
end
section
set_option linter.unusedSimpArgs false
set_option linter.unusedVariables false
namespace Go.Eng
open Go Go.RowKit

section
variable {X : Cfg} {o : Oper} {e : Operand → V} {μ : List E}
end
end Go.Eng
end
section
set_option linter.unusedSimpArgs false
set_option linter.unusedVariables false
namespace Go.Eng
open Go Go.RowKit

theorem mem1_eq {sv : Value} {t : TypeId} {n : Nat} {rows rows' : List (List C)} {bμ : List E} (h : rows = rows') : E.vec sv t n rows :: bμ = [E.vec sv t n rows'] ++ bμ := by rw [h]; rfl
end Go.Eng
end
section
set_option linter.unusedSimpArgs false
set_option linter.unusedVariables false
namespace Go.Eng
open Go Go.RowKit

end Go.Eng
end
section
set_option linter.unusedSimpArgs false
set_option linter.unusedVariables false
namespace Go.Eng
open Go Go.RowKit

section
variable {X : Cfg} {o : Oper} {e : Operand → V} {μ : List E} {t : TypeId}

end
end Go.Eng
end
section
set_option linter.unusedSimpArgs false
set_option linter.unusedVariables false
namespace Go.Eng
open Go Go.RowKit

/-! ## Cells that are fresh, and what they read as -/
inductive FReps (w : World) (J : Nat → Prop) : List C → List Value → Prop where
  | nil : FReps w J [] []
  | cons {c : C} {v : Value} {cs : List C} {vs : List Value} (h : FRep w J c v) (t : FReps w J cs vs) : FReps w J (c :: cs) (v :: vs)
theorem FReps.mono {w w' : World} {J J' : Nat → Prop} (hw : ∀ b, J b → w'.heap[b]? = w.heap[b]?) (hI : ∀ b, J b → J' b) {cs : List C} {vs : List Value} (h : FReps w J cs vs) : FReps w' J' cs vs := by
  induction h with
  | nil => exact .nil
  | cons h _ ih => exact .cons (h.mono hw hI) ih
theorem FReps.lits {w : World} {J : Nat → Prop} {cs : List C} {vs : List Value} (h : FReps w J cs vs) (w' : World) (I : Nat → Prop) : CReps w' I (vs.map .lit) vs := by
  induction h with
  | nil => exact .nil
  | cons h _ ih => exact .cons (.lit _ h.one) ih
section
variable {sv : Value} {c : C}
def cflC (sv : Value) (c : C) : List C → List C → Prop
  | [], [] => True
  | x :: xs, y :: ys => (x = y ∨ (x = .lit sv ∧ y = c)) ∧ cflC sv c xs ys
  | _, _ => False
theorem cflC_reps {w : World} {I : Nat → Prop} (h : CRep w I c sv) : ∀ {xs ys : List C} {vs : List Value}, cflC sv c xs ys → CReps w I xs vs → CReps w I ys vs
  | [], [], _, _, k => k
  | x :: xs, y :: ys, _, hc, .cons hd tl => by
    refine .cons ?_ (cflC_reps h hc.2 tl)
    rcases hc.1 with rfl | ⟨rfl, rfl⟩
    · exact hd
    · cases hd; exact h
  | [], _ :: _, _, h, _ => (h : False).elim
  | _ :: _, [], _, h, _ => (h : False).elim
structure EFlC (sv : Value) (c : C) (e e' : E) : Prop where
  blocks : e'.blocks = e.blocks
  mono : e.Mono → e'.Mono
  rep : ∀ w I, CRep w I c sv → ERep w I e → ERep w I e'
theorem EFlC.refl (e : E) : EFlC sv c e e := ⟨rfl, fun h => h, fun _ _ _ h => h⟩
theorem EFlC.row {b : Nat} {t : TypeId} {cs ds : List C} (h : cflC sv c cs ds) : EFlC sv c (.row b t cs) (.row b t ds) :=
  ⟨rfl, fun _ => trivial, fun _ _ hs ⟨vs, h1, h2⟩ => ⟨vs, h1, cflC_reps hs h h2⟩⟩
theorem cflC_length {xs ys : List C} (h : cflC sv c xs ys) : ys.length = xs.length := by
  induction xs generalizing ys with
  | nil => cases ys with
    | nil => rfl
    | cons y ys => exact h.elim
  | cons x xs ih => cases ys with
    | nil => exact h.elim
    | cons y ys => simp [ih h.2]
theorem cflC_refl (xs : List C) : cflC sv c xs xs := by
  induction xs with
  | nil => trivial
  | cons x xs ih => exact ⟨.inl rfl, ih⟩
theorem cflC_append {xs ys xs' ys' : List C} (h : cflC sv c xs ys) (k : cflC sv c xs' ys') : cflC sv c (xs ++ xs') (ys ++ ys') := by
  induction xs generalizing ys with
  | nil => cases ys with
    | nil => exact k
    | cons y ys => exact h.elim
  | cons x xs ih => cases ys with
    | nil => exact h.elim
    | cons y ys => exact ⟨h.1, ih h.2⟩
theorem flat_cflC {R : List (List C)} {i : Nat} {r r' : List C} (hi : R[i]? = some r) (h : cflC sv c r r') : cflC sv c R.flatten (R.set i r').flatten := by
  induction R generalizing i with
  | nil => simp at hi
  | cons q R ih =>
    cases i with
    | zero =>
      simp at hi; subst hi
      simpa using cflC_append h (cflC_refl R.flatten)
    | succ i => simpa using cflC_append (cflC_refl q) (ih (by simpa using hi))
theorem EFlC.vec {s : Value} {t : TypeId} {n i : Nat} {R : List (List C)} {r r' : List C} (hi : R[i]? = some r) (h : cflC sv c r r') : EFlC sv c (.vec s t n R) (.vec s t n (R.set i r')) := by
  refine ⟨rfl, fun _ => trivial, fun w I hs k => ?_⟩
  rcases k with ⟨_, _, rfl⟩ | ⟨h1, xs, h2, h3, h4⟩
  · simp at hi
  · refine .inr ⟨h1, xs, by rw [List.length_set]; exact h2, cflC_reps hs (flat_cflC hi h) h3, fun q hq => ?_⟩
    rcases List.mem_or_eq_of_mem_set hq with h | h
    · exact h4 q h
    · subst h; rw [cflC_length ‹_›]; exact h4 r (List.mem_of_getElem? hi)
def FLC (sv : Value) (c : C) (x y : V) : Prop := ∀ w I v, CRep w I c sv → VRep w I x v → VRep w I y v
theorem FLC.sl : FLC sv c (.c (.lit sv)) (.c c) := by
  intro w I v h hv
  rw [hv.lit_inv]
  exact h
theorem FLC.agg {xs ys : List C} (h : cflC sv c xs ys) : FLC sv c (.agg xs) (.agg ys) := by
  intro w I v hs hv
  obtain ⟨vs, rfl, hc⟩ := hv.agg_inv
  exact ⟨vs, rfl, cflC_reps hs h hc⟩
end

abbrev Cfg.up (X : Cfg) (n : Nat) (h : X.N ≤ n) : Cfg := ⟨X.P, n, X.G, fun w w' hb => X.hG w w' fun b hb' => hb b (Nat.lt_of_lt_of_le hb' h)⟩

theorem Con.up {X : Cfg} {f : FuncId} {args : List V} {μ : List E} {Q : V → List E → Prop} (h : Con X f args μ Q) (n : Nat) (hn : X.N ≤ n) : Con (X.up n hn) f args μ Q := by
  intro w I vs hH ha
  have H0 : Heap X w I μ := ⟨Nat.le_trans hn hH.lo, hH.glob, hH.nodup, fun b hb => ⟨Nat.le_trans hn (hH.own b hb).1, (hH.own b hb).2⟩, hH.imm, hH.rep, hH.mono⟩
  refine (h w I vs H0 ha).mono ?_
  rintro en w' ⟨v, r, μ', I', h1, h2, h3, h4, h5⟩
  refine ⟨v, r, μ', I', h1, h2, h3, ⟨Nat.le_trans hH.lo h5.size, h4.glob, h4.nodup, fun b hb => ⟨?_, (h4.own b hb).2⟩, h4.imm, h4.rep, h4.mono⟩, h5⟩
  rcases h5.own' b hb with h | h
  · exact (hH.own b h).1
  · exact Nat.le_trans hH.lo h

/-! ## A fresh tree, handed over -/
end Go.Eng
end
section
set_option linter.unusedSimpArgs false
set_option linter.unusedVariables false
namespace Go.Eng
open Go Go.RowKit

/-- A value that was u is u' now: the same, or another number, or a string that is at most m longer, or another truth value. -/
def kpV (m : Nat) (u u' : Value) : Prop :=
  u' = u ∨ (∃ k a b, u = .int k a ∧ u' = .int k b) ∨ (∃ s t, u = .string s ∧ u' = .string t ∧ t.size ≤ s.size + m) ∨ (∃ a b, u = .bool a ∧ u' = .bool b)
theorem kpV.mono {m m' : Nat} (h : m ≤ m') {u u' : Value} (k : kpV m u u') : kpV m' u u' := by
  rcases k with k | k | ⟨s, t, h1, h2, h3⟩ | k
  · exact .inl k
  · exact .inr (.inl k)
  · exact .inr (.inr (.inl ⟨s, t, h1, h2, by omega⟩))
  · exact .inr (.inr (.inr k))
theorem kpV.one {m : Nat} {u u' : Value} (h : kpV m u u') (h1 : u.oneCell' = true) : u'.oneCell' = true := by
  rcases h with rfl | ⟨_, _, _, _, rfl⟩ | ⟨_, _, _, rfl, _⟩ | ⟨_, _, _, rfl⟩ <;> first | exact h1 | rfl
/-- The blocks bs of w are those of w0, written kind by kind. -/
def Kp (w0 : World) (bs : List Nat) (m : Nat) (w : World) : Prop :=
  ∀ b, b ∈ bs → ∀ cs t, w0.heap[b]? = some (.cells cs t (0, 0)) → ∃ cs', w.heap[b]? = some (.cells cs' t (0, 0)) ∧ cs'.size = cs.size ∧ ∀ (i : Nat) (u u' : Value), cs[i]? = some u → cs'[i]? = some u' → kpV m u u'
theorem Kp.refl (w0 : World) (bs : List Nat) (m : Nat) : Kp w0 bs m w0 := fun b _ cs t h => ⟨cs, h, rfl, fun i u u' h1 h2 => .inl (by rw [h1] at h2; exact (Option.some.inj h2).symm)⟩
theorem Kp.up {w0 w : World} {bs : List Nat} {m m' : Nat} (hm : m ≤ m') (h : Kp w0 bs m w) : Kp w0 bs m' w := fun b hb cs t hc => by
  obtain ⟨cs', h1, h2, h3⟩ := h b hb cs t hc
  exact ⟨cs', h1, h2, fun i u u' a b => (h3 i u u' a b).mono hm⟩
theorem Kp.mono (w0 : World) (bs : List Nat) (m : Nat) : (E.reg bs (Kp w0 bs m)).Mono := fun w w' hw h b hb cs t hc => by
  obtain ⟨cs', h1, h2, h3⟩ := h b hb cs t hc
  exact ⟨cs', by rw [hw b hb]; exact h1, h2, h3⟩

section
variable {X : Cfg} {o : Oper} {e : Operand → V} {μ : List E} {w0 : World} {bs : List Nat} {m : Nat}

end
end Go.Eng
end
section
set_option linter.unusedSimpArgs false
set_option linter.unusedVariables false
namespace Go.Eng
open Go Go.RowKit

section
variable {X : Cfg} {o : Oper} {e : Operand → V} {μ : List E} {t : TypeId} {w0 : World} {bs : List Nat} {m : Nat}

end
end Go.Eng
end
section
set_option linter.unusedSimpArgs false
set_option linter.unusedVariables false
namespace Go.Eng
open Go Go.RowKit
section
variable {X : Cfg} {o : Oper} {e : Operand → V} {μ : List E} {t : TypeId}

/-- A call that reads memory of the caller's own and leaves it as it is. -/
theorem det_call_same {f : FuncId} {arg_ : List Operand} {ts : Array TypeId} {args : List V} {μf φ : List E} {r : V} (ps : List Nat) (ho : o.op = .call { callee := .value (.func f), args := arg_.toArray, argTypes := ts }) (hf : callOk X.P f = true)
    (hc : Con X f args μf fun r' μ' => r' = r ∧ μ' = μf) (ha : vles (arg_.map e) args) (hp : pickN ps μ = some (μf, φ)) : Det X o e μ r μ := by
  have h := det_call_mem (o := o) (e := e) ps ho hf hc ha hp
  exact OpE.det_perm (a := unpick ps μf φ) h ((unpick_perm ps μf φ).trans (pickN_perm hp).symm)
end

theorem setN_nth {α : Type} : ∀ {l : List α} {p : Nat} {x : α}, nth l p = some x → setN l p x = l
  | [], _, _, h => by simp [nth] at h
  | y :: l, 0, x, h => by simp only [nth, Option.some.injEq] at h; subst h; rfl
  | y :: l, p + 1, x, h => by
    have := setN_nth (l := l) (p := p) h
    show y :: setN l p x = y :: l
    rw [this]
/-- The same memory, of which a function knows nothing. -/
theorem Con.keep {X : Cfg} {f : FuncId} {args : List V} {μ : List E} {r : V} (h : Con X f args μ fun r' μ' => r' = r ∧ ∃ ν, μ' = ν ++ μ) : Con X f args μ fun r' μ' => r' = r ∧ μ' = μ := Con.drop h
end Go.Eng
end
section
set_option linter.unusedSimpArgs false
set_option linter.unusedVariables false
namespace Go.Eng
open Go Go.RowKit
section
variable {X : Cfg} {o : Oper} {e : Operand → V} {μ : List E} {x : Operand}
end
/-! ## A slice of numbers that may be nil -/
section
variable {X : Cfg} {o : Oper} {e : Operand → V} {μ : List E} {t ty et : TypeId} {size bytes : Nat} {x y : Operand}
end
end Go.Eng
end
section
set_option linter.unusedSimpArgs false
set_option linter.unusedVariables false
namespace Go.Eng
open Go Go.RowKit
/-! ## Arrays -/
def arrT (P : Program) (t : TypeId) : Option (Nat × TypeId × Nat) := match P.underlying t with
  | some (.array n e) => (match P.info? e with | some i => some (n, e, i.size) | none => none)
  | _ => none
theorem arrT_parts {P : Program} {t e : TypeId} {n size : Nat} (h : arrT P t = some (n, e, size)) : P.underlying t = some (.array n e) ∧ ∃ i, P.info? e = some i ∧ i.size = size := by
  unfold arrT at h
  split at h
  · rename_i n' e' hu
    split at h
    · rename_i i hi
      simp only [Option.some.injEq, Prod.mk.injEq] at h
      obtain ⟨rfl, rfl, rfl⟩ := h
      exact ⟨hu, i, hi, rfl⟩
    · cases h
  · cases h
theorem det_arr_lit {X : Cfg} {o : Oper} {e : Operand → V} {μ : List E} {t et : TypeId} {x y : Operand} {n size b off : Nat} {i : Int} (ho : o.op = .indexAddr t x y) (ht : arrT X.P t = some (n, et, size)) (hx : e x = .c (.lit (.pointer (some ⟨b, off, none⟩)))) (hy : e y = .c (.lit (.int .i64 i))) (h0 : 0 ≤ i) (hi : i < n) :
    Det X o e μ (.c (.lit (.pointer (some ⟨b, off + i.toNat * size, none⟩)))) μ :=
  det_same fun a w I hH hops => by
    have hxv := hops x (by rw [ho]; simp [Op.operands])
    have hyv := hops y (by rw [ho]; simp [Op.operands])
    rw [hx] at hxv
    rw [hy] at hyv
    obtain ⟨hu, inf, hinf, hs⟩ := arrT_parts ht
    refine ⟨.pointer (some ⟨b, off + i.toNat * size, none⟩), ?_, CRep.lit _ rfl⟩
    simp [execOp, ho, hxv.lit_inv, hyv.lit_inv, Instr.indexAt, asIntOf, run_underlying hu, Instr.sureAddr, h0, hi, sizeOf, typeInfo, hinf, hs, add_none]
end Go.Eng
end
section
set_option linter.unusedSimpArgs false
set_option linter.unusedVariables false
namespace Go.Eng
open Go Go.RowKit
section
variable {X : Cfg} {o : Oper} {e : Operand → V} {μ : List E}
end
end Go.Eng
end
section
set_option linter.unusedSimpArgs false
set_option linter.unusedVariables false
namespace Go.Eng
open Go Go.RowKit
section
variable {X : Cfg} {o : Oper} {e : Operand → V}
end
end Go.Eng
end
section
set_option linter.unusedSimpArgs false
set_option linter.unusedVariables false
namespace Go.Eng
open Go Go.RowKit
section
variable {X : Cfg} {o : Oper} {e : Operand → V} {μ : List E}
end
end Go.Eng
end
section
set_option linter.unusedSimpArgs false
set_option linter.unusedVariables false
namespace Go.Eng
open Go Go.RowKit
end Go.Eng
end
section
set_option linter.unusedSimpArgs false
set_option linter.unusedVariables false
namespace Go.Eng
open Go Go.RowKit
section
variable {P : Program} {b : Frame} {a : Act} {k : List Item} {cs : List Frame} {w : World}
theorem stepR_scope {c : Code} : step P (lone (b.atR a (.code (.scope c) :: k)) cs w) = .next (lone (b.atR a (.code c :: .inScope c :: k)) cs w) :=
  step_lone_go (by simp [stepG, stepG.exec, Frame.atR])
theorem stepR_inScope {c : Code} : step P (lone (b.atR a (.inScope c :: k)) cs w) = .next (lone (b.atR a k) cs w) :=
  step_lone_go (by simp [stepG, stepG.exec, Frame.atR])
end
theorem wpIn_scope {F : Fence} {n : Nat} {P : Program} {Q : Exit → Act → World → Prop} {a : Act} {w : World} {c : Code} (h : c.wpIn F n P (Exit.noGoto Q) a w) : (Code.scope c).wpIn F n P Q a w := by
  intro b k cs hro hb hr
  have h0 : (lone (b.atR a (.code (.scope c) :: k)) cs w).fenced P F := fenced_calm hb hr rfl
  obtain ⟨e, a₁, w₁, hq, harr⟩ := h b (.inScope c :: k) cs hro hb hr
  cases e with
  | normal => exact ⟨.normal, a₁, w₁, hq, .head h0 stepR_scope (StepsIn.trans harr (.one (fenced_calm hb hr rfl) stepR_inScope))⟩
  | exit id' =>
    have hx : exitTo id' (.inScope c :: k) = exitTo id' k := by simp [exitTo]
    exact ⟨.exit id', a₁, w₁, hq, fun k' hk => .head h0 stepR_scope (harr.1 k' (by rw [hx]; exact hk)),
      fun hr' hk => let ⟨k₁, h1, h2⟩ := harr.2 hr' (by rw [hx]; exact hk); ⟨k₁, h1, .head h0 stepR_scope h2⟩⟩
  | goto l => exact hq.elim
  | ret => exact ⟨_, a₁, w₁, hq, .of_steps (.one h0 stepR_scope) harr⟩
  | panic ch => exact ⟨_, a₁, w₁, hq, .of_steps (.one h0 stepR_scope) harr⟩
  | outgrown => exact ⟨_, a₁, w₁, hq, .of_steps (.one h0 stepR_scope) harr⟩
def scopeQ (Q : Exit → S → Prop) : Exit → S → Prop
  | .goto _, _ => False
  | e, σ => Q e σ
theorem awp_scope {X : Cfg} {n : Nat} {z : Z} {Q : Exit → S → Prop} {σ : S} {c : Code} (h : AWP X n z c (scopeQ Q) σ) : AWP X n z (.scope c) Q σ := by
  intro z1 hz1 a w s
  refine wpIn_scope (wpIn_mono (h z1 hz1 a w s) ?_)
  rintro e a' w' ⟨z2, σ', hz2, q, s'⟩
  cases e with
  | goto l => exact q.elim
  | _ => exact ⟨z2, σ', hz2, q, s'⟩
end Go.Eng
end
section
set_option linter.unusedSimpArgs false
set_option linter.unusedVariables false
namespace Go.Eng
open Go Go.RowKit
section
variable {X : Cfg} {o : Oper} {e : Operand → V} {μ : List E}
/-- An array type's places. -/
def placesA (P : Program) (t : TypeId) : Option (Nat × Nat) := match P.underlying t with
  | some (.array n e) => (match P.info? e with | some i => some (n, i.size) | none => none)
  | _ => none
theorem det_build_arr {t : TypeId} {zs : List Value} {n size : Nat} {parts : List (Nat × Operand)} {cells : List C} (ho : o.op = .build t parts.toArray) (hz : zeroT X.P t = some zs) (hp : placesA X.P t = some (n, size)) (hf : afill (fun i => some (i * size, size)) (zs.map .lit) (parts.map fun p => (p.1, e p.2)) = some cells) :
    Det X o e μ (.agg cells) μ :=
  det_same fun a w I _ hops => by
    unfold zeroT at hz
    split at hz
    · rename_i i hi
      split at hz
      · rename_i v hv
        split at hz
        · rename_i hall
          simp only [Option.some.injEq] at hz
          subst hz
          have hc : CReps w I (v.cells.toList.map .lit) v.cells.toList := CReps.lits _ fun u hu => by
            rw [Array.all_eq_true_iff_forall_mem] at hall
            exact hall u (by simpa using hu)
          unfold placesA at hp
          split at hp
          · rename_i n' e' hu
            split at hp
            · rename_i ie hie
              simp only [Option.some.injEq, Prod.mk.injEq] at hp
              obtain ⟨rfl, rfl⟩ := hp
              obtain ⟨us, hfill, hcs⟩ := afill_run (w := w) (I := I) (a := a) (fun i => some (i * ie.size, ie.size)) (parts := parts) (fun p hp' => hops p.2 (by rw [ho]; simp [Op.operands]; exact ⟨p.1, hp'⟩)) hc hf
              refine ⟨.agg us.toArray, ?_, us, rfl, hcs⟩
              simp only [execOp, ho, Instr.build, zeroValue, Sem.run_bind, typeInfo, run_program, hi, hv, Sem.run_pure, Result.andThen_ok, run_underlying hu, sizeOf, hie]
              simp only [List.map_toArray, Array.toArray_toList] at hfill ⊢
              rw [hfill]
              rfl
            · cases hp
          · cases hp
        · cases hz
      · cases hz
    · cases hz
end
end Go.Eng
end
section
set_option linter.unusedSimpArgs false
set_option linter.unusedVariables false
namespace Go.Eng
open Go Go.RowKit Go.Lib
section
variable {X : Cfg} {o : Oper} {e : Operand → V} {μ : List E}
theorem run_ptr_ne_nil {P : Program} {w : World} {t te : TypeId} (hp : P.underlying t = some (.pointer te)) (a : Option Addr) : (binOp .neq t (.pointer a) (.pointer none)).run P w = .ok (.bool (!a.isNone)) w := by
  have h : ∀ d : Nat, (Op.equalIn (d + 1) t (.pointer a) (.pointer none)).run P w = .ok a.isNone w := fun d => by
    cases a <;> simp [Op.equalIn, run_underlying hp]
  simp only [binOp]
  simp [Op.equal, Op.maxDepth, h 9999]
theorem det_ptr_ne {t te ty : TypeId} {x y : Operand} {a : Option Addr} (ho : o.op = .binOp .neq t x y ty) (hx : e x = .c (.lit (.pointer a))) (hy : e y = .c (.lit (.pointer none))) (hp : X.P.underlying t = some (.pointer te)) : Det X o e μ (.c (.lit (.bool (!a.isNone)))) μ :=
  det_bin ho hx hy (fun w => by simp only [eqGuard, Sem.run_bind, Sem.run_pure, Result.andThen_ok]; exact run_ptr_ne_nil hp a) rfl
theorem det_ptr_ne_imm {t te ty : TypeId} {x y : Operand} {cells : List C} (ho : o.op = .binOp .neq t x y ty) (hx : e x = .c (.iptr cells)) (hy : e y = .c (.lit (.pointer none))) (hp : X.P.underlying t = some (.pointer te)) : Det X o e μ (.c (.lit (.bool true))) μ :=
  det_same fun a w I hH hops => by
    have hxv := hops x (by rw [ho]; simp [Op.operands])
    have hyv := hops y (by rw [ho]; simp [Op.operands])
    rw [hx] at hxv
    rw [hy] at hyv
    have hxv' : CRep w I (.iptr cells) (a.eval x) := hxv
    generalize hv : a.eval x = v at hxv'
    cases hxv' with
    | iptr _ ad us hI hc hr =>
      refine ⟨.bool true, ?_, CRep.lit _ rfl⟩
      have := run_ptr_ne_nil (P := X.P) (w := w) hp (some ad)
      simp [execOp, ho, hv, hyv.lit_inv, eqGuard, this]
theorem run_ptr_eq_nil {P : Program} {w : World} {t te : TypeId} (hp : P.underlying t = some (.pointer te)) (a : Option Addr) : (binOp .eql t (.pointer a) (.pointer none)).run P w = .ok (.bool a.isNone) w := by
  have h : ∀ d : Nat, (Op.equalIn (d + 1) t (.pointer a) (.pointer none)).run P w = .ok a.isNone w := fun d => by
    cases a <;> simp [Op.equalIn, run_underlying hp]
  simp only [binOp]
  simp [Op.equal, Op.maxDepth, h 9999]
theorem det_ptr_eq {t te ty : TypeId} {x y : Operand} {a : Option Addr} (ho : o.op = .binOp .eql t x y ty) (hx : e x = .c (.lit (.pointer a))) (hy : e y = .c (.lit (.pointer none))) (hp : X.P.underlying t = some (.pointer te)) : Det X o e μ (.c (.lit (.bool a.isNone))) μ :=
  det_bin ho hx hy (fun w => by simp only [eqGuard, Sem.run_bind, Sem.run_pure, Result.andThen_ok]; exact run_ptr_eq_nil hp a) rfl
theorem det_nilcheck_imm {x : Operand} {cells : List C} (ho : o.op = .nilCheck x) (hx : e x = .c (.iptr cells)) : Det X o e μ (.c (.iptr cells)) μ :=
  det_same fun a w I _ hops => by
    have hxv := hops x (by rw [ho]; simp [Op.operands])
    rw [hx] at hxv
    have hxv' : CRep w I (.iptr cells) (a.eval x) := hxv
    generalize hv : a.eval x = v at hxv'
    cases hxv' with
    | iptr _ ad us hI hc hr => exact ⟨.pointer (some ad), by simp [execOp, ho, hv], CRep.iptr _ _ us hI hc hr⟩
/-- A cell of an array that lies in a register. -/
theorem det_index_arr {t et : TypeId} {x y : Operand} {n : Nat} {i : Int} {l : List C} {d : C} (ho : o.op = .index t x y) (ht : arrT X.P t = some (n, et, 1)) (h1 : oneT X.P et = true) (hx : e x = .agg l) (hy : e y = .c (.lit (.int .i64 i))) (h0 : 0 ≤ i) (hi : i < n) (hd : l[i.toNat]? = some d) : Det X o e μ (.c d) μ :=
  det_same fun a w I _ hops => by
    have hxv := hops x (by rw [ho]; simp [Op.operands])
    have hyv := hops y (by rw [ho]; simp [Op.operands])
    rw [hx] at hxv
    rw [hy] at hyv
    obtain ⟨hu, inf, hinf, hs⟩ := arrT_parts ht
    obtain ⟨vs, hv, hcs⟩ := hxv.agg_inv
    obtain ⟨u, hu1, hu2⟩ := hcs.at_ hd
    obtain ⟨g1, g2⟩ := run_isAgg_false h1 w
    refine ⟨u, ?_, hu2⟩
    simp [execOp, ho, hv, hyv.lit_inv, Instr.index, asIntOf, run_underlying hu, h0, hi, g1, g2, part, hu1]
theorem and255 (b : Int) : 0 ≤ IntKind.i64.wrap ((BitVec.ofInt 64 b &&& BitVec.ofInt 64 255).toNat : Int) ∧ IntKind.i64.wrap ((BitVec.ofInt 64 b &&& BitVec.ofInt 64 255).toNat : Int) < 256 ∧ (0 ≤ b → b ≤ 255 → IntKind.i64.wrap ((BitVec.ofInt 64 b &&& BitVec.ofInt 64 255).toNat : Int) = b) := by
  have e : (BitVec.ofInt 64 b &&& BitVec.ofInt 64 255).toNat = (BitVec.ofInt 64 b).toNat % 256 := by
    rw [BitVec.toNat_and, show (BitVec.ofInt 64 255).toNat = 2 ^ 8 - 1 by decide, Nat.and_two_pow_sub_one_eq_mod]
  rw [e]
  have h1 := Nat.mod_lt (BitVec.ofInt 64 b).toNat (show 0 < 256 by omega)
  rw [wrap_in ⟨by omega, by omega⟩]
  refine ⟨by omega, by omega, fun h2 h3 => ?_⟩
  have : (BitVec.ofInt 64 b).toNat = b.toNat := by
    rw [BitVec.toNat_ofInt]
    omega
  rw [this]
  omega
/-- The last eight bits. -/
def low8 (b : Int) : Int := IntKind.i64.wrap ((BitVec.ofInt 64 b &&& BitVec.ofInt 64 255).toNat : Int)
theorem det_low8 {t ty : TypeId} {x y : Operand} {b : Int} (ho : o.op = .binOp .and t x y ty) (hx : e x = .c (.lit (.int .i64 b))) (hy : e y = .c (.lit (.int .i64 255))) : Det X o e μ (.c (.lit (.int .i64 (low8 b)))) μ :=
  det_bits ho (.inl rfl) hx hy (fun P w => by rfl) rfl
theorem det_neg_nw {t : TypeId} {x : Operand} {n : Int} (ho : o.op = .unOp .neg t x) (hx : e x = .c (.lit (.int .i64 n))) (h : In64 (-n)) : Det X o e μ (.c (.lit (.int .i64 (-n)))) μ := by
  have := det_neg (X := X) (μ := μ) ho hx
  rwa [wrap_in h] at this
theorem det_convE {src dst : TypeId} {x : Operand} {k k' : IntKind} {n m : Int} (ho : o.op = .convert src dst x) (hs : (X.P.underlying src).isSome = true) (hd : intT X.P dst = some k) (hx : e x = .c (.lit (.int k' n))) (h : k.wrap n = m) : Det X o e μ (.c (.lit (.int k m))) μ := by
  have := det_conv (X := X) (μ := μ) ho hs hd hx
  rwa [h] at this
theorem det_shlE {t ty : TypeId} {x y : Operand} {k k' : IntKind} {a b m : Int} (ho : o.op = .binOp .shl t x y ty) (hx : e x = .c (.lit (.int k a))) (hy : e y = .c (.lit (.int k' b))) (h0 : 0 ≤ b) (h : k.wrap (a * 2 ^ (min b.toNat k.bits)) = m) : Det X o e μ (.c (.lit (.int k m))) μ := by
  have := det_shl (X := X) (μ := μ) ho hx hy h0
  rwa [h] at this
theorem det_quoE {t ty : TypeId} {x y : Operand} {k : IntKind} {a b m : Int} (ho : o.op = .binOp .quo t x y ty) (hx : e x = .c (.lit (.int k a))) (hy : e y = .c (.lit (.int k b))) (hb : b ≠ 0) (h : k.wrap (a.tdiv b) = m) : Det X o e μ (.c (.lit (.int k m))) μ := by
  have := det_quo (X := X) (μ := μ) ho hx hy hb
  rwa [h] at this
theorem det_shrE {t ty : TypeId} {x y : Operand} {k k' : IntKind} {a b m : Int} (ho : o.op = .binOp .shr t x y ty) (hx : e x = .c (.lit (.int k a))) (hy : e y = .c (.lit (.int k' b))) (h0 : 0 ≤ b) (h : a.fdiv (2 ^ (min b.toNat k.bits)) = m) : Det X o e μ (.c (.lit (.int k m))) μ := by
  have := det_shr (X := X) (μ := μ) ho hx hy h0
  rwa [h] at this
/-- The slice of all of an array. -/
theorem det_cut_arrp {t et : TypeId} {x : Operand} {n size b off : Nat} (ho : o.op = .slice t x none none none) (ht : arrT X.P t = some (n, et, size)) (hx : e x = .c (.lit (.pointer (some ⟨b, off, none⟩)))) (hn : 0 < n) : Det X o e μ (.c (.lit (.slice (some ⟨b, off, none⟩) n n))) μ :=
  det_same fun a w I _ hops => by
    have hxv := hops x (by rw [ho]; simp [Op.operands])
    rw [hx] at hxv
    obtain ⟨hu, inf, hinf, hs⟩ := arrT_parts ht
    have h0 : ¬ n = 0 := by omega
    exact ⟨.slice (some ⟨b, off, none⟩) n n, by simp [execOp, ho, hxv.lit_inv, Instr.sliceAt, run_underlying hu, Instr.sureAddr, Instr.sliceBounds, sizeOf, typeInfo, hinf, h0, add_none], CRep.lit _ rfl⟩
/-- A load from a package-level variable of known contents. -/
theorem det_load_glob {t : TypeId} {x : Operand} {m g off : Nat} {us : List Value} (ho : o.op = .load t x) (ht : aggT X.P t = some m) (hx : e x = .c (.lit (.pointer (some ⟨g, off, none⟩)))) (hl : us.length = m) (h1 : us.all Value.oneCell' = true) (hg : ∀ w, X.G w → ∀ j u, us[j]? = some u → w.cell? ⟨g, off + j, none⟩ = some u) :
    Det X o e μ (.agg (us.map .lit)) μ :=
  det_same fun a w I hH hops => by
    have hxv := hops x (by rw [ho]; simp [Op.operands])
    rw [hx] at hxv
    obtain ⟨g1, g2⟩ := run_isAgg_true ht w
    have hload := run_loadCells_list (P := X.P) w ⟨g, off, none⟩ us (fun j v hj => by rw [add_none]; exact hg w hH.glob j v hj)
    rw [hl] at hload
    refine ⟨.agg us.toArray, ?_, us, rfl, CReps.lits us fun v hv => List.all_eq_true.1 h1 v hv⟩
    simp only [execOp, ho, hxv.lit_inv, Instr.loadAt, Instr.sureAddr, loadVar, Sem.run_bind, Sem.run_pure, Result.andThen_ok, g1, g2, if_true, hload]
/-! ## Structs with structs in them, held against each other -/
def flatF2 (P : Program) : List Field → Nat → Option (List FK)
  | [], _ => some []
  | f :: r, o =>
    if f.name ≠ "_" ∧ f.offset = o then
      match fkT P f.type with
      | some k => (match flatF2 P r (o + 1) with | some ks => some (k :: ks) | none => none)
      | none => match P.underlying f.type, P.info? f.type with
        | some (.struct fs), some i => if P.stoodInHeld f.type = false then (match flatF P fs.toList 0, flatF2 P r (o + i.size) with | some ks, some ks' => if ks.length = i.size then some (ks ++ ks') else none | _, _ => none) else none
        | _, _ => none
    else none
def flatK2 (P : Program) (t : TypeId) : Option (List FK) := match P.underlying t with
  | some (.struct fs) => if P.stoodInHeld t = false ∧ P.eqGuardType P.depth t = false then flatF2 P fs.toList 0 else none
  | _ => none
theorem fitK_len : ∀ {ks : List FK} {xs ys : List C}, fitK ks xs ys = true → xs.length = ks.length ∧ ys.length = ks.length
  | .int :: ks, .lit (.int .i64 _) :: xs, .lit (.int .i64 _) :: ys, h => by have := fitK_len (ks := ks) (xs := xs) (ys := ys) h; simp [this]
  | .str :: ks, .lit (.string _) :: xs, .lit (.string _) :: ys, h => by have := fitK_len (ks := ks) (xs := xs) (ys := ys) h; simp [this]
  | .bool :: ks, .lit (.bool _) :: xs, .lit (.bool _) :: ys, h => by have := fitK_len (ks := ks) (xs := xs) (ys := ys) h; simp [this]
  | [], [], [], _ => ⟨rfl, rfl⟩
theorem fitK_split : ∀ {ks ks' : List FK} {xs ys : List C}, fitK (ks ++ ks') xs ys = true → fitK ks (xs.take ks.length) (ys.take ks.length) = true ∧ fitK ks' (xs.drop ks.length) (ys.drop ks.length) = true
  | [], ks', xs, ys, h => ⟨by simp [fitK], by simpa using h⟩
  | .int :: ks, ks', .lit (.int .i64 _) :: xs, .lit (.int .i64 _) :: ys, h => by have := fitK_split (ks := ks) (ks' := ks') (xs := xs) (ys := ys) h; simpa [fitK] using this
  | .str :: ks, ks', .lit (.string _) :: xs, .lit (.string _) :: ys, h => by have := fitK_split (ks := ks) (ks' := ks') (xs := xs) (ys := ys) h; simpa [fitK] using this
  | .bool :: ks, ks', .lit (.bool _) :: xs, .lit (.bool _) :: ys, h => by have := fitK_split (ks := ks) (ks' := ks') (xs := xs) (ys := ys) h; simpa [fitK] using this
theorem litsEq_split : ∀ (n : Nat) {xs ys : List C}, xs.length = ys.length → litsEq xs ys = (litsEq (xs.take n) (ys.take n) && litsEq (xs.drop n) (ys.drop n))
  | 0, xs, ys, _ => by simp [litsEq]
  | n + 1, [], [], _ => by simp [litsEq]
  | n + 1, x :: xs, y :: ys, h => by
    simp only [litsEq, List.take_succ_cons, List.drop_succ_cons]
    rw [litsEq_split n (by simpa using h), Bool.and_assoc]
  | n + 1, [], _ :: _, h => by simp at h
  | n + 1, _ :: _, [], h => by simp at h
theorem eqFields_run2 {P : Program} {w : World} {I : Nat → Prop} (d : Nat) {US VS : Array Value} : ∀ (fs : List Field) (o : Nat) (ks : List FK) (xs ys : List C) (us vs : List Value), flatF2 P fs o = some ks → fitK ks xs ys = true → CReps w I xs us → CReps w I ys vs →
    US.toList.drop o = us → VS.toList.drop o = vs → (Op.eqFields (d + 2) US VS fs).run P w = .ok (litsEq xs ys) w
  | [], o, ks, xs, ys, us, vs, hf, hk, _, _, _, _ => by
    simp only [flatF2, Option.some.injEq] at hf
    subst hf
    match xs, ys, hk with
    | [], [], _ => simp [Op.eqFields, litsEq]
  | f :: r, o, ks, xs, ys, us, vs, hf, hk, hx, hy, hu, hv => by
    unfold flatF2 at hf
    split at hf
    · rename_i hn
      split at hf
      · rename_i k hk1
        split at hf
        · rename_i ks' hk2
          simp only [Option.some.injEq] at hf
          subst hf
          cases k with
          | int =>
            have ht : ∃ k, P.underlying f.type = some (.int k) := by
              unfold fkT at hk1; split at hk1 <;> first | exact ⟨_, by assumption⟩ | cases hk1
            obtain ⟨kk, ht⟩ := ht
            match xs, ys, hk, hx, hy with
            | .lit (.int .i64 a) :: xs, .lit (.int .i64 b) :: ys, hk, .cons h1 hx, .cons h2 hy =>
              cases h1; cases h2
              obtain ⟨u0, u1⟩ := drop_get hu
              obtain ⟨v0, v1⟩ := drop_get hv
              have := eqStep hn.1 hn.2 (by simp [isAgg, run_underlying ht]) (by simpa using u0) (by simpa using v0) (run_equalIn_int w (d + 1) f.type .i64 kk a b ht) (eqFields_run2 d r (o + 1) ks' xs ys _ _ hk2 hk hx hy u1 v1)
              simp only [litsEq, cEq]
              exact this
          | str =>
            have ht : P.underlying f.type = some .string := by
              unfold fkT at hk1; split at hk1 <;> first | assumption | cases hk1
            match xs, ys, hk, hx, hy with
            | .lit (.string a) :: xs, .lit (.string b) :: ys, hk, .cons h1 hx, .cons h2 hy =>
              cases h1; cases h2
              obtain ⟨u0, u1⟩ := drop_get hu
              obtain ⟨v0, v1⟩ := drop_get hv
              have := eqStep hn.1 hn.2 (by simp [isAgg, run_underlying ht]) (by simpa using u0) (by simpa using v0) (run_equalIn_string w (d + 1) f.type a b ht) (eqFields_run2 d r (o + 1) ks' xs ys _ _ hk2 hk hx hy u1 v1)
              rw [str_beq] at this
              simpa [litsEq, cEq] using this
          | bool =>
            have ht : P.underlying f.type = some .bool := by
              unfold fkT at hk1; split at hk1 <;> first | assumption | cases hk1
            match xs, ys, hk, hx, hy with
            | .lit (.bool a) :: xs, .lit (.bool b) :: ys, hk, .cons h1 hx, .cons h2 hy =>
              cases h1; cases h2
              obtain ⟨u0, u1⟩ := drop_get hu
              obtain ⟨v0, v1⟩ := drop_get hv
              have := eqStep hn.1 hn.2 (by simp [isAgg, run_underlying ht]) (by simpa using u0) (by simpa using v0) (run_equalIn_bool' w (d + 1) f.type a b ht) (eqFields_run2 d r (o + 1) ks' xs ys _ _ hk2 hk hx hy u1 v1)
              simpa [litsEq, cEq] using this
        · cases hf
      · split at hf
        · rename_i fs2 i hu2 hi2
          split at hf
          · rename_i hst
            split at hf
            · rename_i ks1 ks2 e1 e2
              split at hf
              · rename_i hlen
                simp only [Option.some.injEq] at hf
                subst hf
                obtain ⟨lx, ly⟩ := fitK_len hk
                obtain ⟨q1, q2⟩ := fitK_split hk
                rw [litsEq_split ks1.length (by omega)]
                have hagg : (isAgg f.type).run P w = .ok true w := by simp [isAgg, run_underlying hu2]
                have hsz : (sizeOf f.type).run P w = .ok i.size w := by simp [sizeOf, typeInfo, hi2]
                have inner : (Op.equalIn (d + 2) f.type (.agg (us.take ks1.length).toArray) (.agg (vs.take ks1.length).toArray)).run P w = .ok (litsEq (xs.take ks1.length) (ys.take ks1.length)) w := by
                  have hfs : P.fieldsOf f.type = fs2 := by simp [Program.fieldsOf, hu2]
                  rw [run_equalIn_struct w (d + 1) f.type _ _ (by rw [hfs]; exact hu2) hst, hfs]
                  exact eqFields_run d fs2.toList 0 ks1 _ _ _ _ e1 q1 (hx.take _) (hy.take _) (by simp) (by simp)
                have rest := eqFields_run2 (US := US) (VS := VS) d r (o + i.size) ks2 (xs.drop ks1.length) (ys.drop ks1.length) (us.drop ks1.length) (vs.drop ks1.length) e2 q2 (hx.drop _) (hy.drop _) (by rw [← hlen, ← hu, List.drop_drop]) (by rw [← hlen, ← hv, List.drop_drop])
                have px : US.extract o (o + i.size) = (us.take ks1.length).toArray := by
                  refine Array.ext' ?_
                  rw [Array.toList_extract, List.extract_eq_take_drop, Nat.add_sub_cancel_left, ← hu, hlen]
                have py : VS.extract o (o + i.size) = (vs.take ks1.length).toArray := by
                  refine Array.ext' ?_
                  rw [Array.toList_extract, List.extract_eq_take_drop, Nat.add_sub_cancel_left, ← hv, hlen]
                have hp : ∀ A : Array Value, (part f.type A f.offset).run P w = .ok (.agg (A.extract o (o + i.size))) w := fun A => by simp [part, hagg, hsz, hn.2]
                generalize litsEq (xs.take ks1.length) (ys.take ks1.length) = b1 at *
                generalize litsEq (xs.drop ks1.length) (ys.drop ks1.length) = b2 at *
                cases b1 <;> simp [Op.eqFields, hn.1, hp, px, py, inner, rest]
              · cases hf
            · cases hf
          · cases hf
        · cases hf
    · cases hf
theorem det_aeql2 {t ty : TypeId} {x y : Operand} {ks : List FK} {xs ys : List C} (ho : o.op = .binOp .eql t x y ty) (ht : flatK2 X.P t = some ks) (hx : e x = .agg xs) (hy : e y = .agg ys) (hk : fitK ks xs ys = true) : Det X o e μ (.c (.lit (.bool (litsEq xs ys)))) μ :=
  det_same fun a w I _ hops => by
    have hxv := hops x (by rw [ho]; simp [Op.operands])
    have hyv := hops y (by rw [ho]; simp [Op.operands])
    rw [hx] at hxv
    rw [hy] at hyv
    obtain ⟨us, h0, hu⟩ := hxv.agg_inv
    obtain ⟨vs, h2, hv⟩ := hyv.agg_inv
    unfold flatK2 at ht
    split at ht
    · rename_i fs hus
      split at ht
      · rename_i hg
        have hfs : X.P.fieldsOf t = fs := by simp [Program.fieldsOf, hus]
        have h4 : (Op.equalIn 10000 t (.agg us.toArray) (.agg vs.toArray)).run X.P w = .ok (litsEq xs ys) w := by
          rw [run_equalIn_struct w 9999 t _ _ (by rw [hfs]; exact hus) hg.1, hfs]
          exact eqFields_run2 9997 fs.toList 0 ks xs ys _ _ ht hk hu hv (by simp) (by simp)
        refine ⟨.bool (litsEq xs ys), ?_, CRep.lit _ rfl⟩
        simp only [execOp, ho, h0, h2, Sem.run_bind, run_eqGuard_agg w _ _ _ _ _ _ hg.2, run_eql_struct, h4, Result.andThen_ok, Sem.run_pure]
      · cases ht
    · cases ht
/-! ## Rows whose cells are written as one likes -/
theorem st_rowE {b off : Nat} {t : TypeId} {cs cs' new : List C} (p : Nat) (h : nth μ p = some (.row b t cs)) (hl : off + new.length ≤ cs.length) (he : spl cs off new = cs') :
    StoreTo μ (.lit (.pointer (some ⟨b, off, none⟩))) new (setN μ p (.row b t cs')) := by
  subst he
  exact st_row p h (Nat.ble_eq_true_of_le hl)
theorem st_vecE {sv : Value} {size i off : Nat} {t : TypeId} {rows rows' : List (List C)} {row new : List C} (p : Nat) (h : nth μ p = some (.vec sv t size rows)) (hi : rows[i]? = some row) (hl : Nat.ble (off + new.length) row.length = true) (he : rows.set i (spl row off new) = rows') :
    StoreTo μ (.vptr sv size i off) new (setN μ p (.vec sv t size rows')) := by
  subst he
  exact st_vec p h hi hl
theorem det_load_aggE {t : TypeId} {x : Operand} {c : C} {cells l rest : List C} {m : Nat} (ho : o.op = .load t x) (ht : aggT X.P t = some m) (hx : e x = .c c) (hp : PtrTo μ c cells) (hc : cells = l ++ rest) (hl : l.length = m) :
    Det X o e μ (.agg l) μ := by
  have h := det_load_agg (X := X) (e := e) ho ht hx hp (by rw [hc]; exact Nat.ble_eq_true_of_le (by rw [List.length_append]; omega))
  rw [hc, ← hl, List.take_left] at h
  exact h
/-- Rows in a new block, of the call's own. -/
theorem ope_rows {et : TypeId} {size len : Nat} {rows : List (List C)} (hpos : 0 < size) (hrl : rows.length = len) (hmax : len ≤ maxLen) (hrs : ∀ r, r ∈ rows → r.length = size)
    (h : ∀ (a : Act) (w : World) (I : Nat → Prop), (∀ x, x ∈ o.op.operands → VRep w I (e x) (a.eval x)) → ∃ us : List Value, (execOp a.eval o).run X.P w = .ok (.value (.slice (some ⟨w.heap.size, 0, none⟩) len len)) (w.alloc (.cells us.toArray et)) ∧ CReps w I rows.flatten us ∧ us.length = len * size) : OpE X o e μ fun r μ' => ∃ sv, r = .c (.lit sv) ∧ μ' = .vec sv et size rows :: μ := by
  intro a w I hH hops K Q k
  obtain ⟨us, hrun, hc, hul⟩ := h a w I hops
  have hlr : len = rows.length := hrl.symm
  subst hlr
  have hold : ∀ b, b < w.heap.size → (w.alloc (.cells us.toArray et)).heap[b]? = w.heap[b]? := fun b hb => Below.heap_alloc w _ b hb
  have hrep : ERep (w.alloc (.cells us.toArray et)) I (.vec (.slice (some ⟨w.heap.size, 0, none⟩) rows.length rows.length) et size rows) :=
    vec_of_owns (xs := us) ⟨hul, .inr ⟨w.heap.size, rows.length, us.toArray, rfl, Nat.zero_le _, heap_alloc_new w _, Nat.le_refl _, hmax, by simpa using hul, by simp [← hul]⟩⟩ (hc.mono (fun b hb => hold b (hH.imm b hb)) fun _ h => h) hrs
  cases hn : rows.length with
  | zero =>
    rw [hn] at hrep hrun
    obtain ⟨h1, h2⟩ := fresh_alloc hH (.cells us.toArray et) (.row w.heap.size et (us.map .lit)) rfl trivial ⟨us, heap_alloc_new w _, CReps.lits us hc.one⟩
    have h1' : Heap X (w.alloc (.cells us.toArray et)) I μ := h1.tail
    have e0 : blocksOf (.vec (.slice (some ⟨w.heap.size, 0, none⟩) 0 0) et size rows :: μ) = blocksOf μ := by simp [blocksOf, E.blocks, svB]
    refine wp_value hrun (k _ _ _ I _ ⟨_, rfl, rfl⟩ (CRep.lit _ rfl) ⟨h1'.lo, h1'.glob, by rw [e0]; exact h1'.nodup, fun b hb => h1'.own b (by rw [← e0]; exact hb), h1'.imm, fun en hen => ?_, fun en hen => ?_⟩ (h2.less fun b hb => by rw [e0] at hb; rw [blocksOf_cons]; exact List.mem_append.2 (.inr hb)))
    · rcases List.mem_cons.1 hen with rfl | h
      · exact hrep
      · exact h1'.rep en h
    · rcases List.mem_cons.1 hen with rfl | h
      · trivial
      · exact h1'.mono en h
  | succ n =>
    rw [hn] at hrep hrun
    obtain ⟨h1, h2⟩ := fresh_alloc hH (.cells us.toArray et) (.vec (.slice (some ⟨w.heap.size, 0, none⟩) (n + 1) (n + 1)) et size rows) rfl trivial hrep
    exact wp_value hrun (k _ _ _ I _ ⟨_, rfl, rfl⟩ (CRep.lit _ rfl) h1 h2)
/-- 'make([]T, k)', to be written to. -/
theorem ope_make {t et : TypeId} {x y : Operand} {size bytes : Nat} {zs : List Value} {kx ky : IntKind} {i j : Int} (k : Nat) (ho : o.op = .makeSlice t x y) (ht : elemT X.P t = some (et, size, bytes)) (hz0 : zeroT X.P et = some zs)
    (hx : e x = .c (.lit (.int kx i))) (hy : e y = .c (.lit (.int ky j))) (hi : i = (k : Int)) (hj : j = (k : Int)) (hb : k * bytes ≤ 281474976710656) (hk : k ≤ 1073741824) : OpE X o e μ fun r μ' => ∃ sv, r = .c (.lit sv) ∧ μ' = .vec sv et size (List.replicate k (zs.map .lit)) :: μ := by
  obtain ⟨hu, inf, z, hinf, hz, hs, hby, hzs, hpos⟩ := elemT_parts ht
  have hzl : z.cells.toList = zs ∧ ∀ v, v ∈ zs → v.oneCell' = true := by
    unfold zeroT at hz0
    rw [hinf] at hz0
    simp only [hz] at hz0
    split at hz0
    · rename_i h
      cases hz0
      rw [Array.all_eq_true_iff_forall_mem] at h
      exact ⟨rfl, fun v hv => h v (by simpa using hv)⟩
    · cases hz0
  have hlen : zs.length = size := by rw [← hzl.1]; simpa using hzs
  refine ope_rows (et := et) (len := k) hpos (by simp) (by simp only [maxLen]; omega) (fun r hr => by rw [List.eq_of_mem_replicate hr, List.length_map, hlen]) fun a w I hops => ?_
  have h1 := hops x (by rw [ho]; simp [Op.operands])
  have h2 := hops y (by rw [ho]; simp [Op.operands])
  rw [hx] at h1
  rw [hy] at h2
  subst hi hj
  have hbb : (inf.bytes : Int) * (k : Int) ≤ 281474976710656 := by
    have h : ((inf.bytes * k : Nat) : Int) ≤ 281474976710656 := by rw [hby, Nat.mul_comm]; omega
    rwa [Int.natCast_mul] at h
  have hr := run_make (P := X.P) w t et inf z hu hinf hz kx ky (k : Int) (k : Int) (by omega) (Int.le_refl _) hbb (by omega)
  simp only [Int.toNat_natCast, hs] at hr
  refine ⟨(madeCells z.cells (k * size)).toList, ?_, ?_, by simp [size_madeCells]⟩
  · simp [execOp, ho, h1.lit_inv, h2.lit_inv, hr, Result.andThen]
  · rw [madeCells_rows (by omega) hpos, hzl.1]
    exact reps_replicate (CReps.lits zs hzl.2) k
/-! ## Cuts -/
/-- v is the cut from k on, of length m, of the slice sv. -/
def CutOf (sv : Value) (size k m : Nat) (v : Value) : Prop := ∃ a n cap, sv = .slice a n cap ∧ k + m ≤ n ∧ n ≤ cap ∧ v = .slice (if cap = k then a else a.map (·.add (k * size))) m (cap - k)
theorem det_cutg {t et : TypeId} {size bytes k m : Nat} {x : Operand} {lo hi : Option Operand} {sv : Value} {rows : List (List C)} (p : Nat) (ho : o.op = .slice t x lo hi none) (ht : elemT X.P t = some (et, size, bytes)) (hx : e x = .c (.lit sv))
    (hp : nth μ p = some (.vec sv et size rows)) (h1 : bnd e lo 0 k) (h2 : bnd e hi rows.length (k + m)) (hk : k + m ≤ rows.length) : Det X o e μ (.c (.gh (CutOf sv size k m))) μ :=
  det_same fun a w I hH hops => by
    obtain ⟨hu, inf, z, hinf, hz, hs, hby, hzs, hpos⟩ := elemT_parts ht
    have hxv := hops x (by rw [ho]; simp [Op.operands])
    rw [hx] at hxv
    have e1 := hxv.lit_inv
    have hform : ∃ ad cap, sv = .slice ad rows.length cap ∧ rows.length ≤ cap := by
      rcases hH.rep _ (nth_mem hp) with ⟨a0, rfl, rfl⟩ | ⟨hb, xs, hown, hc, hr⟩
      · exact ⟨a0, 0, rfl, Nat.le_refl _⟩
      · rcases hown.2 with ⟨rfl, h0⟩ | ⟨g, cap, cur, rfl, hbg, hg, hnc, hcm, hcs, htake⟩
        · exact ⟨none, 0, by rw [h0], by rw [h0]; exact Nat.le_refl _⟩
        · exact ⟨_, cap, rfl, hnc⟩
    obtain ⟨ad, cap, rfl, hcap⟩ := hform
    refine ⟨.slice (if cap = k then ad else ad.map (·.add (k * size))) m (cap - k), ?_, CRep.gh _ _ rfl ⟨ad, _, cap, rfl, hk, hcap, rfl⟩⟩
    have hB : (Instr.sliceBounds true rows.length cap (lo.map a.eval) (hi.map a.eval) none).run X.P w = .ok (k, k + m, cap) w := by
      have hHi : ∀ xh, hi = some xh → ∀ code, (Instr.sliceBound (a.eval xh) cap code).run X.P w = .ok (k + m) w := by
        rintro xh rfl code
        obtain ⟨kd, i, he, hi'⟩ := h2
        have hxh := hops xh (by rw [ho]; simp [Op.operands])
        rw [he] at hxh
        exact bnd_run hxh hi' (by omega)
      have hLo : ∀ xl, lo = some xl → ∀ code, (Instr.sliceBound (a.eval xl) (k + m) code).run X.P w = .ok k w := by
        rintro xl rfl code
        obtain ⟨kd, i, he, hi'⟩ := h1
        have hxl := hops xl (by rw [ho]; simp [Op.operands])
        rw [he] at hxl
        exact bnd_run hxl hi' (by omega)
      cases hi with
      | none =>
        have hkm : k + m = rows.length := h2
        cases lo with
        | none => have : k = 0 := h1; subst this; simp [Instr.sliceBounds]; omega
        | some xl => simp [Instr.sliceBounds, ← hkm, hLo xl rfl]
      | some xh =>
        cases lo with
        | none => have : k = 0 := h1; subst this; simp [Instr.sliceBounds, hHi xh rfl]
        | some xl => simp [Instr.sliceBounds, hHi xh rfl, hLo xl rfl]
    simp [execOp, ho, e1, Instr.sliceAt, Instr.slice, run_underlying hu, hB, sizeOf, typeInfo, hinf, hs]
def IsCut (c : C) (sv : Value) (et : TypeId) (size : Nat) (rows : List (List C)) (k m : Nat) : Prop := ∀ w I v, ERep w I (.vec sv et size rows) → CRep w I c v → CutOf sv size k m v
theorem isCut_gh {sv : Value} {et : TypeId} {size k m : Nat} {rows : List (List C)} : IsCut (.gh (CutOf sv size k m)) sv et size rows k m := by
  intro w I v _ h
  cases h with
  | gh _ _ _ h => exact h
theorem run_copy_none' {P : Program} (w : World) (dT sT ty elem : TypeId) (d a : Option Addr) (dLen dCap sLen sCap : Nat) (hu : P.underlying dT = some (.slice elem)) (hs : (P.info? elem).isSome = true) (hn : Nat.min sLen dLen = 0) :
    (Builtin.copy_ #[dT, sT] ty #[.slice d dLen dCap, .slice a sLen sCap]).run P w = .ok (goInt 0) w := by
  obtain ⟨i, hq⟩ := Option.isSome_iff_exists.1 hs
  have hl : ∀ (x : Addr), (loadCells x 0).run P w = .ok #[] w := fun x => by simpa using run_loadCells_list (P := P) w x [] (by simp)
  cases d <;> cases a <;> simp [Builtin.copy_, run_underlying hu, Builtin.lenOf, Builtin.firstCells, sizeOf, typeInfo, hq, hn, storeCells, hl]
theorem run_copy_rowS {P : Program} (w : World) (dT sT ty elem : TypeId) (size : Nat) (g o dLen dCap : Nat) (a : Addr) (sLen sCap : Nat) (cur : Array Value) (t : TypeId) (cs : List Value)
    (hu : P.underlying dT = some (.slice elem)) (hs : (P.info? elem).map (·.size) = some size)
    (hg : w.heap[g]? = some (.cells cur t (0, 0))) (hn : cs.length = Nat.min sLen dLen * size)
    (hsrc : ∀ j v, cs[j]? = some v → w.cell? (a.add j) = some v) (hfit : o + cs.length ≤ cur.size) (h1 : ∀ v ∈ cs, v.oneCell' = true) :
    (Builtin.copy_ #[dT, sT] ty #[.slice (some ⟨g, o, none⟩) dLen dCap, .slice (some a) sLen sCap]).run P w =
      .ok (goInt (Nat.min sLen dLen)) (w.setRow g (cur.toList.take o ++ cs ++ cur.toList.drop (o + cs.length)).toArray) := by
  have hl := run_loadCells_list (P := P) w a cs hsrc
  have hst := run_storeCells_at P g o t cs 0 cur w hg (by simpa using hfit) h1
  rw [hn] at hl
  cases hq : P.info? elem with
  | none => simp [hq] at hs
  | some i =>
    have hi : i.size = size := by simpa [hq] using hs
    simp [Builtin.copy_, run_underlying hu, Builtin.lenOf, Builtin.firstCells, sizeOf, typeInfo, hq, hi, hl, hst]
theorem flat_drop {size : Nat} {rows : List (List C)} (k : Nat) (hr : ∀ r, r ∈ rows → r.length = size) (hk : k ≤ rows.length) : (rows.take k).flatten = rows.flatten.take (k * size) ∧ (rows.drop k).flatten = rows.flatten.drop (k * size) := by
  have hl : (rows.take k).flatten.length = k * size := by
    have : ∀ l : List (List C), (∀ r, r ∈ l → r.length = size) → l.flatten.length = l.length * size := by
      intro l h
      induction l with
      | nil => simp
      | cons r l ih => rw [List.flatten_cons, List.length_append, ih fun r hr => h r (by simp [hr]), h r (by simp), List.length_cons, Nat.succ_mul, Nat.add_comm]
    rw [this _ fun r h => hr r (List.mem_of_mem_take h), List.length_take, Nat.min_eq_left hk]
  have e1 : rows.flatten = (rows.take k).flatten ++ (rows.drop k).flatten := by rw [← List.flatten_append, List.take_append_drop]
  constructor
  · rw [e1, ← hl, List.take_left]
  · rw [e1, ← hl, List.drop_left]
theorem over_take {α : Type} (l us : List α) (a n : Nat) (h : a + us.length ≤ n) (h2 : a ≤ l.length) : (l.take a ++ us ++ l.drop (a + us.length)).take n = (l.take n).take a ++ us ++ (l.take n).drop (a + us.length) := by
  have e1 : (l.take a ++ us).length = a + us.length := by rw [List.length_append, List.length_take, Nat.min_eq_left h2]
  rw [List.take_append, List.take_of_length_le (by omega), e1, List.take_take, Nat.min_eq_left (by omega), List.drop_take]
/-- Cells of an own slice overwritten. -/
theorem vec_over {w : World} {I : Nat → Prop} {et : TypeId} {size k : Nat} {g n cap : Nat} {rows news : List (List C)} {us : List Value} (hH : Heap X w I μ) {p : Nat} (hp : nth μ p = some (.vec (.slice (some ⟨g, 0, none⟩) n cap) et size rows)) (hcap : 0 < cap)
    (hc : CReps w I news.flatten us) (hn : ∀ r, r ∈ news → r.length = size) (hk : k + news.length ≤ rows.length) :
    ∃ cur, w.heap[g]? = some (.cells cur et (0, 0)) ∧ us.length = news.length * size ∧ k * size + us.length ≤ cur.size ∧ n = rows.length ∧
      (Heap X (w.setRow g (cur.toList.take (k * size) ++ us ++ cur.toList.drop (k * size + us.length)).toArray) I (setN μ p (.vec (.slice (some ⟨g, 0, none⟩) n cap) et size (rows.take k ++ news ++ rows.drop (k + news.length)))) ∧
       Ext w I μ (w.setRow g (cur.toList.take (k * size) ++ us ++ cur.toList.drop (k * size + us.length)).toArray) I (setN μ p (.vec (.slice (some ⟨g, 0, none⟩) n cap) et size (rows.take k ++ news ++ rows.drop (k + news.length))))) := by
  obtain ⟨c', rfl⟩ : ∃ c', cap = c' + 1 := ⟨cap - 1, by omega⟩
  have hbl : (E.vec (.slice (some ⟨g, 0, none⟩) n (c' + 1)) et size rows).blocks = [g] := rfl
  rcases hH.rep _ (nth_mem hp) with ⟨a0, h0, rfl⟩ | ⟨hb, xs, hown, hcx, hr⟩
  · cases h0
  rcases hown.2 with ⟨h0, _⟩ | ⟨g', cap', cur, heq, hbg, hg, hnc, hcm, hcs, htake⟩
  · cases h0
  simp only [Value.slice.injEq, Option.some.injEq, Addr.mk.injEq] at heq
  obtain ⟨⟨rfl, _⟩, rfl, rfl⟩ := heq
  have hul := rows_of_flat hn hc
  have hkm : (k + news.length) * size ≤ rows.length * size := Nat.mul_le_mul_right _ hk
  have hcm' : rows.length * size ≤ (c' + 1) * size := Nat.mul_le_mul_right _ hnc
  rw [Nat.add_mul] at hkm
  have hfit : k * size + us.length ≤ cur.size := by rw [hcs, hul]; omega
  refine ⟨cur, hg, hul, hfit, rfl, ?_⟩
  have still : ∀ q, I q → (w.setRow g (cur.toList.take (k * size) ++ us ++ cur.toList.drop (k * size + us.length)).toArray).heap[q]? = w.heap[q]? := fun q hq => setRow_other w g q _ (fun e => (hH.own g (mem_blocksOf (nth_mem hp) (by simp [E.blocks, svB]))).2 (e ▸ hq))
  refine Heap.write hH hp rfl rfl rfl (by simp) (fun q _ hq => setRow_other w g q _ (by simpa [E.blocks, svB] using hq)) (by simp [E.blocks, svB]) (fun q hq => .inl hq) trivial ?_
  have hlen : (rows.take k ++ news ++ rows.drop (k + news.length)).length = rows.length := by simp only [List.length_append, List.length_take, List.length_drop]; omega
  obtain ⟨f1, _⟩ := flat_drop k hr (by omega)
  obtain ⟨_, f2⟩ := flat_drop (k + news.length) hr hk
  have hxl : xs.length = rows.length * size := hown.1
  refine .inr ⟨by simp [svB], xs.take (k * size) ++ us ++ xs.drop (k * size + us.length), ?_, ?_, ?_⟩
  · rw [hlen]
    refine ⟨by simp only [List.length_append, List.length_take, List.length_drop]; omega, .inr ⟨g, c' + 1, _, rfl, hbg, setRow_heap w g cur _ et (0, 0) hg, hnc, hcm, ?_, ?_⟩⟩
    · simp only [List.size_toArray, List.length_append, List.length_take, List.length_drop, Array.length_toList]; omega
    · show (cur.toList.take (k * size) ++ us ++ cur.toList.drop (k * size + us.length)).take (rows.length * size) = _
      rw [← htake]
      refine over_take _ _ _ _ (by omega) ?_
      rw [Array.length_toList]; omega
  · rw [List.flatten_append, List.flatten_append, f1, f2, Nat.add_mul, ← hul]
    exact ((((hcx.mono still fun _ h => h).take _).append (hc.mono still fun _ h => h)).append ((hcx.mono still fun _ h => h).drop _))
  · intro r h
    rcases List.mem_append.1 h with h | h
    · rcases List.mem_append.1 h with h | h
      · exact hr r (List.mem_of_mem_take h)
      · exact hn r h
    · exact hr r (List.mem_of_mem_drop h)
theorem cut_pos {sv v : Value} {size k m : Nat} (h : CutOf sv size k m v) (hm : 0 < m) : ∃ a n cap, sv = .slice a n cap ∧ k + m ≤ n ∧ n ≤ cap ∧ v = .slice (a.map (·.add (k * size))) m (cap - k) := by
  obtain ⟨a, n, cap, h1, h2, h3, h4⟩ := h
  exact ⟨a, n, cap, h1, h2, h3, by rw [h4, if_neg (by omega)]⟩
theorem take_zero_min {rows news : List (List C)} {k m : Nat} (h : min news.length m = 0) : rows.take k ++ news.take m ++ rows.drop (k + min news.length m) = rows := by
  have : news.take m = [] := List.eq_nil_of_length_eq_zero (by rw [List.length_take]; omega)
  rw [this, h, List.append_nil, Nat.add_zero, List.take_append_drop]
/-- copy(x[k:], y), y left alone. -/
theorem det_copy {t ts et : TypeId} {x y : Operand} {cx : C} {sv : Value} {size bytes k m : Nat} {rows news : List (List C)} (p : Nat) (ho : o.op = .call { callee := .builtin .copy, args := #[x, y], argTypes := #[t, ts] }) (ht : elemT X.P t = some (et, size, bytes))
    (hx : e x = .c cx) (hcut : IsCut cx sv et size rows k m) (hp : nth μ p = some (.vec sv et size rows)) (hy : e y = .c (.sl size news)) (hk : k + m ≤ rows.length) :
    Det X o e μ (.c (.lit (.int .i64 (min news.length m : Nat)))) (setN μ p (.vec sv et size (rows.take k ++ news.take m ++ rows.drop (k + min news.length m)))) := by
  intro a w I hH hops K Q kk
  obtain ⟨hu, inf, z, hinf, hz, hs, hby, hzs, hpos⟩ := elemT_parts ht
  have hxv := hops x (by rw [ho]; simp [Op.operands, Call.operands])
  have hyv := hops y (by rw [ho]; simp [Op.operands, Call.operands])
  rw [hx] at hxv
  rw [hy] at hyv
  have hv := hcut w I _ (hH.rep _ (nth_mem hp)) hxv
  by_cases hz0 : min news.length m = 0
  · obtain ⟨a0, n0, cap0, h1, h2, h3, h4⟩ := hv
    have hsame : setN μ p (.vec sv et size (rows.take k ++ news.take m ++ rows.drop (k + min news.length m))) = μ := by rw [take_zero_min hz0, setN_nth hp]
    rw [hsame, hz0] at kk
    refine wp_value (v := .int .i64 0) (w' := w) ?_ (kk _ _ _ I w ⟨rfl, rfl⟩ (CRep.lit _ rfl) hH (Ext.refl _ _ _))
    rcases sl_flat hyv with ⟨rfl, a1, cap1, h5⟩ | ⟨ad, cap1, us, h5, _⟩
    · have := run_copy_none' (P := X.P) w t ts o.type et (if cap0 = k then a0 else a0.map (·.add (k * size))) a1 m (cap0 - k) 0 cap1 hu (by rw [hinf]; rfl) (by simp [Nat.min_def])
      simp only [execOp, ho, resolve, invoke, builtin, Sem.run_bind, Sem.run_pure, Result.andThen_ok, List.map_toArray, List.map_cons, List.map_nil, h4, h5, this]
      rfl
    · have := run_copy_none' (P := X.P) w t ts o.type et (if cap0 = k then a0 else a0.map (·.add (k * size))) (some ad) m (cap0 - k) news.length cap1 hu (by rw [hinf]; rfl) hz0
      simp only [execOp, ho, resolve, invoke, builtin, Sem.run_bind, Sem.run_pure, Result.andThen_ok, List.map_toArray, List.map_cons, List.map_nil, h4, h5, this]
      rfl
  · obtain ⟨a0, n0, cap0, h1, h2, h3, h4⟩ := cut_pos hv (by omega)
    rcases sl_flat hyv with ⟨rfl, _⟩ | ⟨ad, cap1, us, h5, hc, hul, hrl, hcell⟩
    · simp at hz0
    have hg0 : ∃ g, a0 = some ⟨g, 0, none⟩ := by
      rcases hH.rep _ (nth_mem hp) with ⟨_, h0, rfl⟩ | ⟨hb, xs, hown, _⟩
      · simp at hk; omega
      · rcases hown.2 with ⟨h0, hn0⟩ | ⟨g, cap, cur, heq, _⟩
        · omega
        · rw [h1] at heq; simp only [Value.slice.injEq] at heq; exact ⟨g, heq.1⟩
    obtain ⟨g, rfl⟩ := hg0
    subst h1
    have hnl : (news.take m).length = min news.length m := by rw [List.length_take, Nat.min_comm]
    obtain ⟨f1, _⟩ := flat_drop (rows := news) (min news.length m) hrl (Nat.min_le_left _ _)
    have f0 : news.take m = news.take (min news.length m) := by
      rcases Nat.le_total news.length m with h | h
      · rw [List.take_of_length_le h, Nat.min_eq_left h, List.take_length]
      · rw [Nat.min_eq_right h]
    have hc' : CReps w I (news.take m).flatten (us.take (min news.length m * size)) := by rw [f0, f1]; exact hc.take _
    obtain ⟨cur, hg, hul', hfit, hn, hH', hx'⟩ := vec_over (k := k) hH hp (by omega) hc' (fun r h => hrl r (List.mem_of_mem_take h)) (by rw [hnl]; omega)
    rw [hnl] at hH' hx'
    refine wp_value (v := .int .i64 (min news.length m : Nat)) ?_ (kk _ _ _ I _ ⟨rfl, rfl⟩ (CRep.lit _ rfl) hH' hx')
    have := run_copy_rowS (P := X.P) w t ts o.type et size g (k * size) m (cap0 - k) ad news.length cap1 cur et (us.take (min news.length m * size)) hu (by rw [hinf]; simp [hs]) hg (by rw [hul', hnl])
      (fun j v hj => hcell j v (by rw [List.getElem?_take] at hj; split at hj; exact hj; cases hj)) hfit hc'.one
    have ea : (Option.map (fun q : Addr => q.add (k * size)) (some ⟨g, 0, none⟩)) = some ⟨g, k * size, none⟩ := by
      rw [Option.map_some, add_none, Nat.zero_add]
    rw [ea] at h4
    simp only [execOp, ho, resolve, invoke, builtin, Sem.run_bind, Sem.run_pure, Result.andThen_ok, List.map_toArray, List.map_cons, List.map_nil, h4, h5, this]
    rfl
/-- copy(x[k:], x[:m']): within one slice. -/
theorem det_copy_in {t ts et : TypeId} {x y : Operand} {cx cy : C} {sv : Value} {size bytes k m l : Nat} {rows : List (List C)} (p : Nat) (ho : o.op = .call { callee := .builtin .copy, args := #[x, y], argTypes := #[t, ts] }) (ht : elemT X.P t = some (et, size, bytes))
    (hx : e x = .c cx) (hcut : IsCut cx sv et size rows k m) (hp : nth μ p = some (.vec sv et size rows)) (hy : e y = .c cy) (hcy : IsCut cy sv et size rows 0 l) (hk : k + m ≤ rows.length) (hl : l ≤ rows.length) (hm0 : 0 < m) (hl0 : 0 < l) :
    Det X o e μ (.c (.lit (.int .i64 (min l m : Nat)))) (setN μ p (.vec sv et size (rows.take k ++ rows.take (min l m) ++ rows.drop (k + min l m)))) := by
  intro a w I hH hops K Q kk
  obtain ⟨hu, inf, z, hinf, hz, hs, hby, hzs, hpos⟩ := elemT_parts ht
  have hxv := hops x (by rw [ho]; simp [Op.operands, Call.operands])
  have hyv := hops y (by rw [ho]; simp [Op.operands, Call.operands])
  rw [hx] at hxv
  rw [hy] at hyv
  obtain ⟨a0, n0, cap0, h1, h2, h3, h4⟩ := cut_pos (hcut w I _ (hH.rep _ (nth_mem hp)) hxv) hm0
  obtain ⟨a1, n1, cap1, g1, g2, g3, g4⟩ := cut_pos (hcy w I _ (hH.rep _ (nth_mem hp)) hyv) hl0
  rcases hH.rep _ (nth_mem hp) with ⟨_, h0, rfl⟩ | ⟨hb, xs, hown, hcx, hr⟩
  · simp at hl; omega
  rcases hown.2 with ⟨h0, hn0⟩ | ⟨g, cap, cur0, rfl, _⟩
  · omega
  simp only [Value.slice.injEq] at h1 g1
  obtain ⟨rfl, rfl, rfl⟩ := h1
  obtain ⟨rfl, rfl, rfl⟩ := g1
  have hnl : (rows.take (min l m)).length = min l m := by rw [List.length_take]; omega
  obtain ⟨f1, _⟩ := flat_drop (rows := rows) (min l m) hr (by omega)
  have hc' : CReps w I (rows.take (min l m)).flatten (xs.take (min l m * size)) := by rw [f1]; exact hcx.take _
  obtain ⟨cur, hg, hul', hfit, hn, hH', hx'⟩ := vec_over (k := k) hH hp (by omega) hc' (fun r h => hr r (List.mem_of_mem_take h)) (by rw [hnl]; omega)
  rw [hnl] at hH' hx'
  refine wp_value (v := .int .i64 (min l m : Nat)) ?_ (kk _ _ _ I _ ⟨rfl, rfl⟩ (CRep.lit _ rfl) hH' hx')
  have hcell := hown.cells (g := g) rfl
  have e0 : (⟨g, 0, none⟩ : Addr).add (0 * size) = ⟨g, 0, none⟩ := by rw [add_none]; simp
  have := run_copy_rowS (P := X.P) w t ts o.type et size g (k * size) m (cap - k) ⟨g, 0, none⟩ l (cap - 0) cur et (xs.take (min l m * size)) hu (by rw [hinf]; simp [hs]) hg (by rw [hul', hnl])
    (fun j v hj => hcell j v (by rw [List.getElem?_take] at hj; split at hj; exact hj; cases hj)) hfit hc'.one
  have ea : (Option.map (fun q : Addr => q.add (k * size)) (some ⟨g, 0, none⟩)) = some ⟨g, k * size, none⟩ := by
    rw [Option.map_some, add_none, Nat.zero_add]
  rw [ea] at h4
  have eb : (Option.map (fun q : Addr => q.add (0 * size)) (some ⟨g, 0, none⟩)) = some ⟨g, 0, none⟩ := by
    rw [Option.map_some, e0]
  rw [eb] at g4
  simp only [execOp, ho, resolve, invoke, builtin, Sem.run_bind, Sem.run_pure, Result.andThen_ok, List.map_toArray, List.map_cons, List.map_nil, h4, g4, this]
  rfl
/-- A slice as its own cut. -/
theorem isCut_lit {w : World} {I : Nat → Prop} {sv : Value} {et : TypeId} {size : Nat} {rows : List (List C)} (h : ERep w I (.vec sv et size rows)) : CutOf sv size 0 rows.length sv := by
  have fix : ∀ a n cap, n = rows.length → n ≤ cap → sv = .slice a n cap → (a = none ∨ ∃ q : Addr, a = some q ∧ q.add 0 = q) → CutOf sv size 0 rows.length sv := by
    rintro a n cap rfl h2 rfl h4
    refine ⟨a, _, cap, rfl, by omega, h2, ?_⟩
    have : a.map (fun q : Addr => q.add (0 * size)) = a := by
      rcases h4 with rfl | ⟨q, rfl, hq⟩
      · rfl
      · rw [Option.map_some, Nat.zero_mul, hq]
    rw [this]
    simp
  have add0 : ∀ q : Addr, q.add 0 = q := fun q => by unfold Addr.add; simp
  rcases h with ⟨a, rfl, rfl⟩ | ⟨hb, xs, hown, _⟩
  · refine fix a 0 0 rfl (Nat.le_refl _) rfl ?_
    cases a with
    | none => exact .inl rfl
    | some q => exact .inr ⟨q, rfl, add0 q⟩
  · rcases hown.2 with ⟨rfl, h0⟩ | ⟨g, cap, cur, rfl, _, _, hnc, _⟩
    · exact fix none 0 0 h0.symm (Nat.le_refl _) rfl (.inl rfl)
    · exact fix _ _ cap rfl hnc rfl (.inr ⟨_, rfl, add0 _⟩)
theorem isCut_self {sv : Value} {et : TypeId} {size : Nat} {rows : List (List C)} {m : Nat} (hm : m = rows.length) : IsCut (.lit sv) sv et size rows 0 m := by
  subst hm
  intro w I v h hv
  cases hv
  exact isCut_lit h
end
/-! ## Own memory lent to a function that makes memory -/
def litE : E → Bool
  | .row _ _ cells => cells.all litC
  | .vec _ _ _ rows => rows.all fun r => r.all litC
  | _ => false
theorem litE_rep {w w' : World} {I I' : Nat → Prop} {en : E} (h : litE en = true) (hb : ∀ b, b ∈ en.blocks → w'.heap[b]? = w.heap[b]?) (r : ERep w I en) : ERep w' I' en := by
  cases en with
  | row b t cells =>
    obtain ⟨vs, h1, h2⟩ := r
    exact ⟨vs, by rw [hb b (by simp [E.blocks])]; exact h1, litCs_rep h h2⟩
  | vec sv t size rows =>
    rcases r with r | ⟨h1, xs, h2, h3, h4⟩
    · exact .inl r
    · refine .inr ⟨h1, xs, ?_, ?_, h4⟩
      · rcases h2.2 with h5 | ⟨g, cap, cur, h5, h6, h7, h8⟩
        · exact ⟨h2.1, .inl h5⟩
        · exact ⟨h2.1, .inr ⟨g, cap, cur, h5, h6, by rw [hb g (svB_of h1 (by rw [h5]; rfl))]; exact h7, h8⟩⟩
      · refine litCs_rep ?_ h3
        rw [List.all_eq_true]
        intro c hc
        obtain ⟨r, hr, hc⟩ := List.mem_flatten.1 hc
        have := List.all_eq_true.1 h r hr
        exact List.all_eq_true.1 this c hc
  | _ => cases h
/-- A cell that reads as another while an entry is left alone. -/
def LendOk (en : E) (x y : C) : Prop := ∀ (w : World) (I I0 : Nat → Prop) (v : Value), ERep w I en → (∀ b, I b → I0 b) → (∀ b, b ∈ en.blocks → I0 b) → CRep w I x v → CRep w I0 y v
def lendsG (en : E) : List V → List V → Prop
  | [], [] => True
  | x :: xs, y :: ys => ((∃ c d, x = .c c ∧ y = .c d ∧ LendOk en c d) ∨ (VLe x y ∧ y.plain = true)) ∧ lendsG en xs ys
  | _, _ => False
theorem lendsG_reps {en : E} {w : World} {I I0 : Nat → Prop} (hr : ERep w I en) (hI : ∀ b, I b → I0 b) (hb : ∀ b, b ∈ en.blocks → I0 b) : ∀ {l l' : List V} {vs : List Value}, lendsG en l l' → V1Reps w I l vs → V1Reps w I0 l' vs
  | [], [], [], _, _ => trivial
  | [], [], _ :: _, _, h => h.elim
  | x :: xs, y :: ys, [], _, h => h.elim
  | x :: xs, y :: ys, v :: vs, k, h => by
    refine ⟨?_, lendsG_reps hr hI hb k.2 h.2⟩
    rcases k.1 with ⟨c, d, rfl, rfl, hl⟩ | ⟨h3, h4⟩
    · exact hl w I I0 v hr hI hb h.1
    · exact V1Rep.mono (fun _ _ => rfl) hI (V.plain_v1 h4 (h3 w I v h.1.up))
  | [], _ :: _, _, k, _ => (k : False).elim
  | _ :: _, [], _, k, _ => (k : False).elim
theorem Con.borrowG {X : Cfg} {f : FuncId} {args args' : List V} {en : E} {Q : V → List E → Prop} (hen : (∃ b t cs, en = .row b t cs) ∨ ∃ sv t n rs, en = .vec sv t n rs) (h : Con X f args [] Q) (hq : ∀ r μ', Q r μ' → litV r = true ∧ μ'.all litE = true) (ha : lendsG en args' args) :
    Con X f args' [en] fun r μ' => ∃ μ1, Q r μ1 ∧ μ' = μ1 ++ [en] := by
  have hmono : ∀ (w w' : World) (I I' : Nat → Prop), (∀ b, I b → w'.heap[b]? = w.heap[b]?) → (∀ b, I b → I' b) → (∀ b, b ∈ en.blocks → w'.heap[b]? = w.heap[b]?) → ERep w I en → ERep w' I' en := by
    intro w w' I I' h1 h2 h3 h4
    rcases hen with ⟨b, t, cs, rfl⟩ | ⟨sv, t, n, rs, rfl⟩
    · exact h4.mono trivial h1 h2 h3
    · exact h4.mono trivial h1 h2 h3
  intro w I vs hH hv
  have hrep := hH.rep _ (List.mem_singleton.2 rfl)
  have H0 : Heap X w (fun b => I b ∨ b ∈ en.blocks) [] := by
    refine ⟨hH.lo, hH.glob, by simp [blocksOf], fun b hb => by simp [blocksOf] at hb, ?_, fun en hen => by simp at hen, fun en hen => by simp at hen⟩
    rintro b (h | h)
    · exact hH.imm b h
    · exact hrep.lt h
  refine (h w _ vs H0 (lendsG_reps hrep (fun b h => .inl h) (fun b h => .inr h) ha hv)).mono ?_
  rintro en' w' ⟨v, r', μ', I', h1, hQ, h3, h4, h5⟩
  obtain ⟨q1, q2⟩ := hq _ _ hQ
  have still := H0.still h5
  refine ⟨v, r', μ' ++ [en], I, h1, ⟨μ', hQ, rfl⟩, litV_rep q1 h3, ?_, ?_⟩
  · refine ⟨Nat.le_trans hH.lo h5.size, h4.glob, ?_, ?_, fun b hb => Nat.lt_of_lt_of_le (hH.imm b hb) h5.size, ?_, ?_⟩
    · rw [blocksOf_append]
      refine List.nodup_append.2 ⟨h4.nodup, hH.nodup, fun a hm b hb' hab => ?_⟩
      subst hab
      exact (h4.own a hm).2 (h5.imm a (.inr (by simpa [blocksOf] using hb')))
    · intro b hb
      rw [blocksOf_append] at hb
      rcases List.mem_append.1 hb with hb | hb
      · exact ⟨(h4.own b hb).1, fun hI => (h4.own b hb).2 (h5.imm b (.inl hI))⟩
      · exact hH.own b hb
    · intro e he
      rcases List.mem_append.1 he with he | he
      · exact litE_rep (List.all_eq_true.1 q2 e he) (fun _ _ => rfl) (h4.rep e he)
      · rw [List.mem_singleton.1 he]
        exact hmono w w' I I (fun b hb => still b (.inl hb)) (fun b h => h) (fun b hb => still b (.inr hb)) hrep
    · intro e he
      rcases List.mem_append.1 he with he | he
      · exact h4.mono e he
      · exact hH.mono e he
  · refine ⟨h5.os, h5.tape, h5.output, h5.size, fun b hb _ => h5.block b hb (by simp [blocksOf]), fun b h => h, fun b h => .inl h, fun b hb => ?_⟩
    rw [blocksOf_append] at hb
    rcases List.mem_append.1 hb with hb | hb
    · rcases h5.own' b hb with h | h
      · simp [blocksOf] at h
      · exact .inr h
    · exact .inl hb
/-- An array in a variable, as a slice of cells. -/
theorem lend_arr {b off : Nat} {t : TypeId} {cs : List C} {l : List C} {rest : List C} {n : Nat} (he : cs.drop off = l ++ rest) (hn : l.length = n) : LendOk (.row b t cs) (.lit (.slice (some ⟨b, off, none⟩) n n)) (.sl 1 (l.map fun c => [c])) := by
  subst hn
  intro w I I0 v hr hI hb hv
  cases hv
  obtain ⟨vs, h1, h2⟩ := hr
  have h3 := (h2.drop off)
  rw [he] at h3
  have h4 := h3.take l.length
  rw [List.take_left] at h4
  have hl := h4.length
  have key := CRep.sl (w := w) (I := I0) 1 (l.map fun c => [c]) ⟨b, off, none⟩ l.length (fun i _ => ((vs.drop off).take l.length).getD i undef) (hb b (by simp [E.blocks])) (fun r hr => by obtain ⟨s, _, rfl⟩ := List.mem_map.1 hr; rfl) (by simp) (fun i j hi hj => by
    have hj0 : j = 0 := by omega
    subst hj0
    have hi' : i < l.length := by simpa using hi
    rw [show i * 1 + 0 = i by omega, add_none, cell_of_row w b (off + i) vs.toArray t (0, 0) h1]
    have : i < ((vs.drop off).take l.length).length := by rw [← hl]; exact hi'
    have hgt := List.getElem?_eq_getElem this
    rw [List.getD_eq_getElem?_getD, hgt, Option.getD_some, ← hgt]
    simp [List.getElem?_drop, List.getElem?_take, hi']) (fun i r hi j c hj => by
    rw [List.getElem?_map] at hi
    obtain ⟨s, hs, rfl⟩ := Option.map_eq_some_iff.1 hi
    have hj0 : j = 0 := by have := (List.getElem?_eq_some_iff.1 hj).1; simp at this; omega
    subst hj0
    simp only [List.getElem?_cons_zero, Option.some.injEq] at hj
    subst hj
    obtain ⟨u, hu1, hu2⟩ := h4.at_ hs
    rw [List.getD_eq_getElem?_getD, hu1, Option.getD_some]
    exact hu2.mono (fun _ _ => rfl) hI)
  simpa using key
section
variable {X : Cfg} {o : Oper} {e : Operand → V} {μ : List E}
/-- A call that reads own memory and makes an own slice. -/
theorem ope_call_lendO {f : FuncId} {arg_ : List Operand} {ts : Array TypeId} {args : List V} {en : E} {et : TypeId} {size : Nat} {rows : List (List C)} (p : Nat) (m : List V) (ho : o.op = .call { callee := .value (.func f), args := arg_.toArray, argTypes := ts }) (hf : callOk X.P f = true)
    (hp : nth μ p = some en) (hen : (∃ b t cs, en = .row b t cs) ∨ ∃ sv t n rs, en = .vec sv t n rs) (hc : OwnR X f args et size rows) (hl : rows.all (fun r => r.all litC) = true) (ha : lendsG en m args) (hm : vles (arg_.map e) m) :
    OpE X o e μ fun r μ' => ∃ sv, r = .c (.lit sv) ∧ μ' = .vec sv et size rows :: μ := by
  have hpk : pickN [p] μ = some ([en], delN μ p) := by unfold pickN; rw [hp]; rfl
  have hb := Con.borrowG hen hc (fun r μ' ⟨sv, h1, h2⟩ => ⟨by rw [h1]; rfl, by rw [h2]; simp [litE, hl]⟩) ha
  have h0 := ope_call ho hf ((hb.frame (delN μ p)).perm (pickN_perm hpk)) hm
  intro a w I hH hops K Q k
  refine h0 a w I hH hops K Q ?_
  rintro v r μ' I' w' ⟨_, ⟨_, ⟨sv, h1, rfl⟩, rfl⟩, rfl⟩ hv hH' x
  have hperm : ([E.vec sv et size rows] ++ [en] ++ delN μ p).Perm (.vec sv et size rows :: μ) := List.Perm.cons _ (nth_perm hp).symm
  exact k v r _ I' w' ⟨sv, h1, rfl⟩ hv (hH'.perm hperm) (x.perm (List.Perm.refl _) hperm)
end
end Go.Eng
end
section
set_option linter.unusedSimpArgs false
set_option linter.unusedVariables false
namespace Go.Eng
open Go Go.RowKit

section
variable {X : Cfg} {o : Oper} {e : Operand → V} {μ : List E} {t ty : TypeId} {x y : Operand} {a b : Nat}
abbrev vUn (n : Nat) : V := .c (.lit (.int .u64 (n : Int)))
theorem det_uand (ho : o.op = .binOp .and t x y ty) (hx : e x = vUn a) (hy : e y = .c (.lit (.int .u64 4294967295))) (ha : a < 18446744073709551616) : Det X o e μ (vUn (a % 4294967296)) μ :=
  det_bits ho (.inl rfl) hx hy (fun P w => by rw [intBits_and, and_low32 _ (by omega) (by omega)]; rfl) rfl
theorem det_ushr (ho : o.op = .binOp .shr t x y ty) (hx : e x = vUn a) (hy : e y = .c (.lit (.int .u64 32))) : Det X o e μ (vUn (a / 4294967296)) μ := by
  have h := det_shr (X := X) (μ := μ) ho hx hy (by decide)
  have e1 : (a : Int).fdiv (2 ^ (min (32 : Int).toNat IntKind.u64.bits)) = ((a / 4294967296 : Nat) : Int) := by
    rw [show (2 : Int) ^ (min (32 : Int).toNat IntKind.u64.bits) = 4294967296 by decide, Int.fdiv_eq_ediv_of_nonneg _ (by decide)]
    omega
  rw [e1] at h
  exact h
theorem u64_wrap {n : Nat} (h : n < 18446744073709551616) : IntKind.u64.wrap (n : Int) = n := IntWalk.u64_in _ ⟨by omega, by omega⟩
theorem det_umul (ho : o.op = .binOp .mul t x y ty) (hx : e x = vUn a) (hy : e y = vUn b) (h : a * b < 18446744073709551616) : Det X o e μ (vUn (a * b)) μ := by
  have h1 := det_mul (X := X) (μ := μ) ho hx hy
  rw [← Int.natCast_mul, u64_wrap h] at h1
  exact h1
theorem det_uadd (ho : o.op = .binOp .add t x y ty) (hx : e x = vUn a) (hy : e y = vUn b) (h : a + b < 18446744073709551616) : Det X o e μ (vUn (a + b)) μ := by
  have h1 := det_add (X := X) (μ := μ) ho hx hy
  rw [← Int.natCast_add, u64_wrap h] at h1
  exact h1
theorem det_umod (ho : o.op = .binOp .mul t x y ty) (hx : e x = vUn a) (hy : e y = vUn b) : Det X o e μ (vUn (a * b % 18446744073709551616)) μ := by
  have h1 := det_mul (X := X) (μ := μ) ho hx hy
  rw [← Int.natCast_mul, show IntKind.u64.wrap ((a * b : Nat) : Int) = ((a * b % 18446744073709551616 : Nat) : Int) by rw [IntKind.wrap_u64]; omega] at h1
  exact h1
theorem det_uquo (ho : o.op = .binOp .quo t x y ty) (hx : e x = vUn a) (hy : e y = vUn b) (hb : b ≠ 0 ∧ a < 18446744073709551616) : Det X o e μ (vUn (a / b)) μ := by
  have h := det_quo (X := X) (μ := μ) ho hx hy (by omega)
  have hle := Nat.div_le_self a b
  rw [show ((a : Int).tdiv (b : Int)) = ((a / b : Nat) : Int) from rfl, u64_wrap (by omega)] at h
  exact h
theorem det_urem (ho : o.op = .binOp .rem t x y ty) (hx : e x = vUn a) (hy : e y = vUn b) (hb : b ≠ 0) : Det X o e μ (vUn (a % b)) μ := det_rem ho hx hy (by omega)
end
end Go.Eng
end
