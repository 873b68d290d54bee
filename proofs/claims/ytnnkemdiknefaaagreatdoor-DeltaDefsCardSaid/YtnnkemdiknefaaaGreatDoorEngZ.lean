/-
  The engine, part R: an append of a make to the nil slice, cuts of it, capacities, the greatest of four.
  The engine, part S: regions in open order where quiet operations float behind the one that changes memory.
  The engine, part T: cuts of slices that are maps of lists.
  The engine, part U: regions whose order is open, in general: quiet operations, a chain of operations that change memory or make it, and makers of new memory that hang on nothing in the region.
  The engine, part V: make of slices that nobody writes any more.
  The engine, part W: ranges over functions with a ghost; calls that turn an own slice into another.
  The engine, part AA: ranges over functions with a ghost that may be left early.
  The engine, part AB: memory on both sides of what a call hands back is forgotten.
  The engine, part AD: cuts of an own slice as plain values, the append of one of its cuts to another, clear behind its end.
  The engine: numbers of 64 bits without a sign, as natural numbers.
  Conditions: none.
-/
import Derived.Test.YtnnkemdiknefaaaGreatDoorEngY
import Derived.Lib.AppendZerosOnto
import Derived.Laws.MakeOwn
import Derived.Laws.CopyRow
import Derived.Laws.MathBits
import Derived.Laws.Bits64b
section
set_option linter.unusedSimpArgs false
set_option linter.unusedVariables false
namespace Go.Eng
open Go Go.RowKit Go.Lib

def RowR (et : TypeId) (n : Nat) (_ : World) (_ : Nat → Prop) (o : Obj) : Prop := ∃ cs : Array Value, o = .cells cs et (0, 0) ∧ cs.size = n

theorem Heap.dropL {X : Cfg} {w : World} {I : Nat → Prop} : ∀ {ν μ : List E}, Heap X w I (ν ++ μ) → Heap X w I μ
  | [], _, h => h
  | _ :: _, _, h => Heap.dropL (Heap.tail h)
theorem Con.drop {X : Cfg} {f : FuncId} {args : List V} {μ μ2 : List E} {R : V} (h : Con X f args μ fun r μ' => r = R ∧ ∃ ν, μ' = ν ++ μ2) : Con X f args μ fun r μ' => r = R ∧ μ' = μ2 := by
  intro w I vs hH ha
  refine (h w I vs hH ha).mono ?_
  rintro en w' ⟨v, r, μ', I', h1, ⟨h2, ν, rfl⟩, h4, h5, h6⟩
  exact ⟨v, r, μ2, I', h1, ⟨h2, rfl⟩, h4, Heap.dropL h5, h6.less fun b hb => by rw [yM]; exact List.mem_append.2 (.inr hb)⟩
section
variable {X : Cfg} {o : Oper} {e : Operand → V} {μ : List E} {t : TypeId}

end
end Go.Eng
end
section
set_option linter.unusedSimpArgs false
set_option linter.unusedVariables false
namespace Go.Eng
open Go Go.RowKit
section drawq
variable {X : Cfg} {n : Nat} {z : Z} {Q : Exit → S → Prop} {regs : List (Nat × V)} {μ : List E} {l : List Oper} {m : Nat}
end drawq

def P2 (X : Cfg) (n : Nat) (z z1 : Z) (Q : Exit → S → Prop) (regs : List (Nat × V)) (l : List Oper) (s : Nat) (ks : List Kd) (rs1 : List V) (μ1 : List E) : Prop :=
  ∀ (fuel : Nat) (listed : Array Bool) (a : Act) (w : World) (I : Nat → Prop), listed.size = l.length → unl listed = fuel → (∀ i, s + 1 ≤ i → i < l.length → listed.getD i true = false) → Closed l listed → listed.getD s true = true → (∀ i, i < s → (kd ks i).fl = false → listed.getD i true = true) →
    Heap X w I μ1 → (∀ t, VRep w I (valAt (l.take (s + 1)) rs1 (fun i => listed.getD i true) (look regs t) t) (a.tmps.getD t undef)) → Ext z1.w z1.I z1.μ w I μ1 → a.defers = z1.ds → a.tmps.size = n →
    wpAnyIn (fen z.rd) 0 X.P .any l.toArray (liftQ X n z1 Q) fuel listed a w

section drawg
variable {X : Cfg} {n : Nat} {z : Z} {Q : Exit → S → Prop} {regs : List (Nat × V)} {μ : List E} {l : List Oper} {s : Nat} {M : List E → Prop} {ks : List Kd}
end drawg
def drawChkG (l : List Oper) (s e : Nat) (ks : List Kd) : Bool :=
  drawChk l e && (List.range s).all (fun i => (kd ks i).fl || reach l 40 s i) && lookChk l s ks && Nat.beq ks.length s && Nat.blt s e && Nat.ble e l.length && (List.range e).all (fun i => Nat.ble i s || reach l 40 i s)

end Go.Eng
end
section
set_option linter.unusedSimpArgs false
set_option linter.unusedVariables false
namespace Go.Eng
open Go Go.RowKit Go.Lib
section
variable {X : Cfg} {o : Oper} {e : Operand → V} {μ : List E} {t : TypeId} {α : Type} {f : α → List C} {l : List α}

theorem det_cut_drop {et : TypeId} {size bytes k : Nat} {x lo : Operand} (ho : o.op = .slice t x (some lo) none none) (ht : elemT X.P t = some (et, size, bytes)) (hx : e x = .c (.sl size (l.map f))) (h2 : e lo = .c (.lit (.int .i64 k))) (hk : k ≤ l.length) :
    Det X o e μ (.c (.sl size ((l.drop k).map f))) μ := by
  have h := det_cut_sl (X := X) (μ := μ) k (l.map f).length ho ht hx (show bnd e (some lo) 0 k from ⟨.i64, k, h2, rfl⟩) (show bnd e none _ _ from rfl) (by simpa using hk) (Nat.le_refl _)
  rw [List.take_length, ← List.map_drop] at h
  exact h
end

/-! ## Lending an own slice to a function that only reads -/
def litC : C → Bool
  | .lit _ => true
  | _ => false
def litV1 : V → Bool
  | .c x => litC x
  | .agg l => l.all litC
  | _ => false
def litV : V → Bool
  | .tup l => l.all litV1
  | x => litV1 x
def lends (sv : Value) (size : Nat) (rows : List (List C)) : List V → List V → Prop
  | [], [] => True
  | x :: xs, y :: ys => (x = y ∨ (x = .c (.lit sv) ∧ y = .c (.sl size rows))) ∧ lends sv size rows xs ys
  | _, _ => False
def vlend (sv : Value) (size : Nat) (rows : List (List C)) : List V → List V → Prop
  | [], [] => True
  | x :: xs, y :: ys => ((x = .c (.lit sv) ∧ y = .c (.sl size rows)) ∨ (VLe x y ∧ y.plain = true)) ∧ vlend sv size rows xs ys
  | _, _ => False
end Go.Eng
end
section
set_option linter.unusedSimpArgs false
set_option linter.unusedVariables false
namespace Go.Eng
open Go Go.RowKit

inductive Kx where
  | q (rd : List Nat)
  | e (w : Nat) (rd : List Nat)
  | f (w : Nat)
  | w (w : Nat) (rd : List Nat)
structure It where
  i : Nat
  k : Kx

def upd (ρ : Nat → V) (d : Option Tmp) (v : V) : Nat → V := fun t => if d = some t then v else ρ t
def evF (ρ : Nat → V) (x : Operand) : V := match x with
  | .tmp t => ρ t
  | y => ev [] y
theorem evF_look (regs : List (Nat × V)) : evF (look regs) = ev regs := by
  funext x; cases x <;> rfl
theorem look_upd (regs : List (Nat × V)) (d : Tmp) (v : V) : upd (look regs) (some d) v = look ((d, v) :: regs) := by
  funext t; rw [kX]; unfold upd
  by_cases h : d = t
  · rw [if_pos h, if_pos (by rw [h])]
  · rw [if_neg h, if_neg (by simpa using h)]
theorem upd_none (ρ : Nat → V) (v : V) : upd ρ none v = ρ := by funext t; unfold upd; rw [if_neg (by simp)]

def GDetF (X : Cfg) (n : Nat) (ops : Array Oper) (o : Oper) (ρ : Nat → V) (μ : List E) (r : V) : Prop :=
  ∀ (a : Act) (w : World) (I : Nat → Prop), Heap X w I μ → (∀ t, t ∈ o.looksAt ops → VRep w I (ρ t) (a.tmps.getD t undef)) → a.tmps.size = n →
    ∀ (K : Act → World → Prop) (Q : Exit → Act → World → Prop), (∀ v I' w', VRep w' I' r v → Heap X w' I' μ → Ext w I μ w' I' μ → K (a.put o.dst v) w') →
      if Region.wanted o (yielded ops a.tmps) then OW X.P o a w K Q else K (a.put o.dst undef) w

theorem GDetF.congr {X : Cfg} {n : Nat} {ops : Array Oper} {o : Oper} {ρ ρ' : Nat → V} {μ : List E} {r : V} (h : GDetF X n ops o ρ μ r) (he : ∀ t, t ∈ o.looksAt ops → ρ t = ρ' t) : GDetF X n ops o ρ' μ r :=
  fun a w I hH hR hs => h a w I hH (fun t ht => by rw [he t ht]; exact hR t ht) hs
theorem GDetF.wide {X : Cfg} {n : Nat} {ops : Array Oper} {o : Oper} {ρ : Nat → V} {μ φ ψ : List E} {r : V} (h : GDetF X n ops o ρ μ r) (p : ψ.Perm (μ ++ φ)) : GDetF X n ops o ρ ψ r := by
  intro a w I hH hR hs K Q k
  have hH1 := hH.perm p
  refine h a w I hH1.left hR hs K Q ?_
  intro v I' w' hv hH' hx
  obtain ⟨h6, h7⟩ := hH1.frame hH' hx
  exact k v I' w' hv (h6.perm p.symm) (h7.perm p.symm p.symm)
theorem OpE.wide {X : Cfg} {o : Oper} {e : Operand → V} {μ φ ψ : List E} {R : V → List E → Prop} (h : OpE X o e μ R) (p : ψ.Perm (μ ++ φ)) : OpE X o e ψ fun r μ'' => ∃ μ', R r μ' ∧ μ'' = μ' ++ φ := by
  intro a w I hH hops K Q k
  have hH1 := hH.perm p
  refine h a w I hH1.left hops K Q ?_
  intro v r μ' I' w' hr hv hH' hx
  obtain ⟨h6, h7⟩ := hH1.frame hH' hx
  exact k v r _ I' w' ⟨μ', hr, rfl⟩ hv h6 (h7.perm p.symm (List.Perm.refl _))
theorem OpE.congr {X : Cfg} {o : Oper} {e e' : Operand → V} {μ : List E} {R : V → List E → Prop} (h : OpE X o e μ R) (he : ∀ x, x ∈ o.op.operands → e x = e' x) : OpE X o e' μ R :=
  fun a w I hH hops => h a w I hH fun x hx => by rw [he x hx]; exact hops x hx

/-! ## Slots of memory -/
def slot (m : List (Option E)) (s : Nat) : Option E := (nth m s).join
def fp (m : List (Option E)) (l : List Nat) : List E := l.filterMap (slot m)
def allE (m : List (Option E)) : List E := m.filterMap id
def clr : List (Option E) → List Nat → List (Option E)
  | m, [] => m
  | m, s :: l => clr (m.set s none) l

theorem slot_set_ne {m : List (Option E)} {s t : Nat} {v : Option E} (h : s ≠ t) : slot (m.set s v) t = slot m t := by
  unfold slot; rw [nth_eq, nth_eq, List.getElem?_set_ne h]
theorem slot_set_eq {m : List (Option E)} {s : Nat} {v : Option E} (h : s < m.length) : slot (m.set s v) s = v := by
  unfold slot; rw [nth_eq, List.getElem?_set_self h]; cases v <;> rfl
theorem fp_set {m : List (Option E)} {s : Nat} {v : Option E} : ∀ {l : List Nat}, s ∉ l → fp (m.set s v) l = fp m l
  | [], _ => rfl
  | t :: l, h => by
    unfold fp
    rw [List.filterMap_cons, List.filterMap_cons, slot_set_ne (fun e => h (by simp [e]))]
    have := fp_set (m := m) (s := s) (v := v) (l := l) (fun e => h (by simp [e]))
    unfold fp at this
    rw [this]
theorem allE_slot : ∀ (m : List (Option E)) (s : Nat), (allE m).Perm ((slot m s).toList ++ allE (m.set s none))
  | [], s => by cases s <;> exact List.Perm.refl _
  | x :: m, 0 => by cases x <;> exact List.Perm.refl _
  | x :: m, s + 1 => by
    have ih := allE_slot m s
    have e : slot (x :: m) (s + 1) = slot m s := rfl
    rw [e, List.set_cons_succ]
    cases x with
    | none => exact ih
    | some y =>
      show (y :: allE m).Perm ((slot m s).toList ++ (y :: allE (m.set s none)))
      exact (ih.cons y).trans (List.perm_middle.symm)
theorem allE_perm : ∀ (ks : List Nat) (m : List (Option E)), ks.Nodup → (allE m).Perm (fp m ks ++ allE (clr m ks))
  | [], m, _ => List.Perm.refl _
  | s :: ks, m, h => by
    have hs : s ∉ ks := (List.nodup_cons.1 h).1
    have ih := allE_perm ks (m.set s none) (List.nodup_cons.1 h).2
    rw [fp_set hs] at ih
    have h1 := (allE_slot m s).trans (ih.append_left _)
    have e : fp m (s :: ks) = (slot m s).toList ++ fp m ks := by
      unfold fp; rw [List.filterMap_cons]; cases slot m s <;> rfl
    rw [e, List.append_assoc]
    exact h1
theorem clr_set {m : List (Option E)} {s : Nat} {v : Option E} (l : List Nat) : clr (m.set s v) (s :: l) = clr m (s :: l) := by
  show clr ((m.set s v).set s none) l = clr (m.set s none) l
  rw [List.set_set]
theorem allE_write {m : List (Option E)} {w : Nat} {rd : List Nat} {en : E} (hn : (w :: rd).Nodup) (hw : w < m.length) : ((en :: fp m rd) ++ allE (clr m (w :: rd))).Perm (allE (m.set w (some en))) := by
  have h := allE_perm (w :: rd) (m.set w (some en)) hn
  rw [clr_set] at h
  have e : fp (m.set w (some en)) (w :: rd) = en :: fp m rd := by
    have := fp_set (m := m) (s := w) (v := some en) (List.nodup_cons.1 hn).1
    unfold fp at this ⊢
    rw [List.filterMap_cons, slot_set_eq hw, this]
  rw [e] at h
  exact h.symm
theorem set_self {m : List (Option E)} {w : Nat} (h : nth m w = some none) : m.set w none = m := by
  rw [nth_eq] at h
  apply List.ext_getElem?
  intro i
  by_cases hi : w = i
  · subst hi; rw [List.getElem?_set_self (List.getElem?_eq_some_iff.1 h).1, h]
  · rw [List.getElem?_set_ne hi]
theorem allE_fresh {m : List (Option E)} {w : Nat} {en : E} (h : nth m w = some none) : (en :: allE m).Perm (allE (m.set w (some en))) := by
  have hw : w < m.length := by rw [nth_eq] at h; exact (List.getElem?_eq_some_iff.1 h).1
  have h1 := allE_slot (m.set w (some en)) w
  rw [slot_set_eq hw, List.set_set, set_self h] at h1
  exact h1.symm

/-! ## The derivation, in an order of our own -/
abbrev Rfs := List (Nat × (V → E → Prop))
def rfOf : Rfs → Nat → V → E → Prop
  | [], _ => fun _ _ => False
  | (j, R) :: r, i => bif Nat.beq j i then R else rfOf r i

def dstI (l : List Oper) (i : Nat) : Option Tmp := (nth l i).bind (·.dst)
def SQ (X : Cfg) (n : Nat) (l : List Oper) (F : Rfs) (K : (Nat → V) → List (Option E) → Prop) : List It → (Nat → V) → List (Option E) → Prop
  | [], ρ, m => K ρ m
  | ⟨i, .q rd⟩ :: its, ρ, m => ∃ o, nth l i = some o ∧ rd.Nodup ∧ ∃ r, GDetF X n l.toArray o ρ (fp m rd) r ∧ SQ X n l F K its (upd ρ o.dst r) m
  | ⟨i, .e w rd⟩ :: its, ρ, m => ∃ o, nth l i = some o ∧ o.guard = none ∧ (w < m.length ∧ (w :: rd).Nodup) ∧ ∃ R, OpE X o (evF ρ) (fp m (w :: rd)) R ∧ ∀ r μ', R r μ' → ∃ en, μ' = en :: fp m rd ∧ SQ X n l F K its (upd ρ o.dst r) (m.set w (some en))
  | ⟨i, .f w⟩ :: its, ρ, m => ∀ r en, rfOf F i r en → SQ X n l F K its (upd ρ (dstI l i) r) (m.set w (some en))
  | ⟨i, .w w rd⟩ :: its, ρ, m => ∃ o, nth l i = some o ∧ o.guard = none ∧ (w < m.length ∧ (w :: rd).Nodup) ∧ ∃ r en, OpE X o (evF ρ) (fp m (w :: rd)) (fun r' μ' => r' = r ∧ μ' = en :: fp m rd) ∧ SQ X n l F K its (upd ρ o.dst r) (m.set w (some en))

def looksI (l : List Oper) (i : Nat) : List Tmp := match nth l i with
  | some o => o.looksAt l.toArray
  | none => []
def regFree (l : List Oper) (i j : Nat) : Bool :=
  (looksI l j).all (fun t => !(dstI l i == some t)) && (looksI l i).all (fun t => !(dstI l j == some t)) && ((dstI l i == none) || !(dstI l i == dstI l j))
def Kx.wr : Kx → Option Nat
  | .q _ => none
  | .e v _ => some v
  | .f v => some v
  | .w v _ => some v
def Kx.rds : Kx → List Nat
  | .q rd => rd
  | .e _ rd => rd
  | .f _ => []
  | .w _ rd => rd
def memFree (a b : Kx) : Bool :=
  (match a.wr with | some w => b.rds.all (fun s => !Nat.beq s w) && (match b.wr with | some v => !Nat.beq v w | none => true) | none => true) &&
  (match b.wr with | some w => a.rds.all (fun s => !Nat.beq s w) | none => true)
def kindFree : Kx → Kx → Bool
  | .q _, .q _ => true
  | .q _, .e _ _ => true
  | .q _, .w _ _ => true
  | .w _ _, .q _ => true
  | .w _ _, .e _ _ => true
  | .w _ _, .w _ _ => true
  | _, .f _ => true
  | _, _ => false
def isF : Kx → Bool
  | .f _ => true
  | _ => false
def mayPass (l : List Oper) (a b : It) : Bool := (kindFree a.k b.k && memFree a.k b.k && regFree l a.i b.i) || (!isF b.k && reach l 40 b.i a.i)

theorem regFree_spec {l : List Oper} {i j : Nat} (h : regFree l i j = true) :
    (∀ t, t ∈ looksI l j → dstI l i ≠ some t) ∧ (∀ t, t ∈ looksI l i → dstI l j ≠ some t) ∧ (dstI l i = none ∨ dstI l i ≠ dstI l j) := by
  unfold regFree at h
  simp only [Bool.and_eq_true, List.all_eq_true, Bool.not_eq_true', beq_eq_false_iff_ne, Bool.or_eq_true, beq_iff_eq] at h
  exact ⟨h.1.1, h.1.2, h.2⟩
theorem dstI_eq {l : List Oper} {i : Nat} {o : Oper} (h : nth l i = some o) : dstI l i = o.dst := by unfold dstI; rw [h]; rfl
theorem looksI_eq {l : List Oper} {i : Nat} {o : Oper} (h : nth l i = some o) : looksI l i = o.looksAt l.toArray := by unfold looksI; rw [h]
theorem upd_comm {ρ : Nat → V} {d e : Option Tmp} {u v : V} (h : d = none ∨ d ≠ e) : upd (upd ρ d u) e v = upd (upd ρ e v) d u := by
  funext t
  unfold upd
  by_cases h1 : d = some t
  · by_cases h2 : e = some t
    · rcases h with h | h
      · rw [h] at h1; cases h1
      · exact absurd (h1.trans h2.symm) h
    · simp [h1, h2]
  · by_cases h2 : e = some t
    · simp [h1, h2]
    · simp [h1, h2]
theorem upd_ne {ρ : Nat → V} {d : Option Tmp} {v : V} {t : Nat} (h : d ≠ some t) : upd ρ d v t = ρ t := if_neg h
theorem evF_upd {ops : Array Oper} {ρ : Nat → V} {d : Option Tmp} {v : V} {o : Oper} (h : ∀ t, t ∈ o.looksAt ops → d ≠ some t) : ∀ x, x ∈ o.op.operands → evF (upd ρ d v) x = evF ρ x := by
  intro x hx
  cases x with
  | tmp t => exact upd_ne (h t (looks_op hx))
  | _ => rfl

section
variable {X : Cfg} {n : Nat} {l : List Oper} {F : Rfs} {K : (Nat → V) → List (Option E) → Prop}
theorem SQ.swap {a b : It} {its : List It} {ρ : Nat → V} {m : List (Option E)} (hk : kindFree a.k b.k = true) (hm : memFree a.k b.k = true) (hr : regFree l a.i b.i = true) (h : SQ X n l F K (a :: b :: its) ρ m) : SQ X n l F K (b :: a :: its) ρ m := by
  obtain ⟨i, ka⟩ := a
  obtain ⟨j, kb⟩ := b
  simp only at hk hm hr
  obtain ⟨f1, f2, f3⟩ := regFree_spec hr
  cases ka with
  | q rd =>
    obtain ⟨o, ho, hn1, r, hG, h⟩ := h
    rw [looksI_eq ho] at f2
    rw [dstI_eq ho] at f1 f3
    cases kb with
    | q rd2 =>
      obtain ⟨o2, ho2, hn2, r2, hG2, h⟩ := h
      rw [looksI_eq ho2] at f1
      rw [dstI_eq ho2] at f2 f3
      refine ⟨o2, ho2, hn2, r2, hG2.congr fun t ht => upd_ne (f1 t ht), o, ho, hn1, r, hG.congr fun t ht => (upd_ne (f2 t ht)).symm, ?_⟩
      rw [← upd_comm f3]; exact h
    | e w rd2 =>
      obtain ⟨o2, ho2, hg2, hw2, R, hO, h⟩ := h
      rw [looksI_eq ho2] at f1
      rw [dstI_eq ho2] at f2 f3
      simp only [memFree, Kx.wr, Kx.rds, Bool.true_and, List.all_eq_true, Bool.not_eq_true'] at hm
      refine ⟨o2, ho2, hg2, hw2, R, hO.congr fun x hx => evF_upd f1 x hx, fun r2 μ' hrr => ?_⟩
      obtain ⟨en, he, h⟩ := h r2 μ' hrr
      have hn : w ∉ rd := fun hin => by have := hm w hin; rw [Nat.beq_refl] at this; cases this
      refine ⟨en, he, o, ho, hn1, r, ?_, ?_⟩
      · rw [fp_set hn]; exact hG.congr fun t ht => (upd_ne (f2 t ht)).symm
      · rw [← upd_comm f3]; exact h
    | f w =>
      simp only [memFree, Kx.wr, Kx.rds, Bool.true_and, List.all_eq_true, Bool.not_eq_true'] at hm
      have hn : w ∉ rd := fun hin => by have := hm w hin; rw [Nat.beq_refl] at this; cases this
      refine fun r2 en hrr => ⟨o, ho, hn1, r, ?_, ?_⟩
      · rw [fp_set hn]; exact hG.congr fun t ht => (upd_ne (f2 t ht)).symm
      · rw [← upd_comm f3]; exact h r2 en hrr
    | w w rd2 =>
      obtain ⟨o2, ho2, hg2, hw2, r2, en, hO, h⟩ := h
      rw [looksI_eq ho2] at f1
      rw [dstI_eq ho2] at f2 f3
      simp only [memFree, Kx.wr, Kx.rds, Bool.true_and, List.all_eq_true, Bool.not_eq_true'] at hm
      have hn : w ∉ rd := fun hin => by have := hm w hin; rw [Nat.beq_refl] at this; cases this
      refine ⟨o2, ho2, hg2, hw2, r2, en, hO.congr fun x hx => evF_upd f1 x hx, o, ho, hn1, r, ?_, ?_⟩
      · rw [fp_set hn]; exact hG.congr fun t ht => (upd_ne (f2 t ht)).symm
      · rw [← upd_comm f3]; exact h
  | w w rd =>
    obtain ⟨o, ho, hg, hw, r, en, hO, h⟩ := h
    rw [looksI_eq ho] at f2
    rw [dstI_eq ho] at f1 f3
    cases kb with
    | q rd2 =>
      obtain ⟨o2, ho2, hn2, r2, hG2, h⟩ := h
      rw [looksI_eq ho2] at f1
      rw [dstI_eq ho2] at f2 f3
      simp only [memFree, Kx.wr, Kx.rds, Bool.and_true, List.all_eq_true, Bool.not_eq_true'] at hm
      have hn : w ∉ rd2 := fun hin => by have := hm w hin; rw [Nat.beq_refl] at this; cases this
      rw [fp_set hn] at hG2
      refine ⟨o2, ho2, hn2, r2, hG2.congr fun t ht => upd_ne (f1 t ht), o, ho, hg, hw, r, en, hO.congr fun x hx => (evF_upd f2 x hx).symm, ?_⟩
      rw [← upd_comm f3]; exact h
    | e w2 rd2 =>
      obtain ⟨o2, ho2, hg2, hw2, R, hO2, h⟩ := h
      rw [looksI_eq ho2] at f1
      rw [dstI_eq ho2] at f2 f3
      simp only [memFree, Kx.wr, Kx.rds, Bool.and_eq_true, List.all_eq_true, Bool.not_eq_true'] at hm
      have hne : w2 ≠ w := fun e => by rw [e, Nat.beq_refl] at hm; cases hm.1.2
      have hn : w ∉ rd2 := fun hin => by have := hm.1.1 w hin; rw [Nat.beq_refl] at this; cases this
      have hn' : w2 ∉ rd := fun hin => by have := hm.2 w2 hin; rw [Nat.beq_refl] at this; cases this
      have hn2 : w ∉ w2 :: rd2 := fun hin => by rcases List.mem_cons.1 hin with e | e; exact hne e.symm; exact hn e
      have hn2' : w2 ∉ w :: rd := fun hin => by rcases List.mem_cons.1 hin with e | e; exact hne e; exact hn' e
      rw [fp_set hn2] at hO2
      refine ⟨o2, ho2, hg2, ⟨by simpa using hw2.1, hw2.2⟩, R, hO2.congr fun x hx => evF_upd f1 x hx, fun r2 μ' hrr => ?_⟩
      obtain ⟨en2, he, h⟩ := h r2 μ' hrr
      rw [fp_set hn] at he
      refine ⟨en2, he, o, ho, hg, ⟨by simpa using hw.1, hw.2⟩, r, en, ?_, ?_⟩
      · rw [fp_set hn2', fp_set hn']; exact hO.congr fun x hx => (evF_upd f2 x hx).symm
      · rw [← upd_comm f3, List.set_comm _ _ hne]; exact h
    | w w2 rd2 =>
      obtain ⟨o2, ho2, hg2, hw2, r2, en2, hO2, h⟩ := h
      rw [looksI_eq ho2] at f1
      rw [dstI_eq ho2] at f2 f3
      simp only [memFree, Kx.wr, Kx.rds, Bool.and_eq_true, List.all_eq_true, Bool.not_eq_true'] at hm
      have hne : w2 ≠ w := fun e => by rw [e, Nat.beq_refl] at hm; cases hm.1.2
      have hn : w ∉ rd2 := fun hin => by have := hm.1.1 w hin; rw [Nat.beq_refl] at this; cases this
      have hn' : w2 ∉ rd := fun hin => by have := hm.2 w2 hin; rw [Nat.beq_refl] at this; cases this
      have hn2 : w ∉ w2 :: rd2 := fun hin => by rcases List.mem_cons.1 hin with e | e; exact hne e.symm; exact hn e
      have hn2' : w2 ∉ w :: rd := fun hin => by rcases List.mem_cons.1 hin with e | e; exact hne e; exact hn' e
      rw [fp_set hn2, fp_set hn] at hO2
      refine ⟨o2, ho2, hg2, ⟨by simpa using hw2.1, hw2.2⟩, r2, en2, hO2.congr fun x hx => evF_upd f1 x hx, o, ho, hg, ⟨by simpa using hw.1, hw.2⟩, r, en, ?_, ?_⟩
      · rw [fp_set hn2', fp_set hn']; exact hO.congr fun x hx => (evF_upd f2 x hx).symm
      · rw [← upd_comm f3, List.set_comm _ _ hne]; exact h
    | f w2 =>
      simp only [memFree, Kx.wr, Kx.rds, List.all_nil, Bool.true_and, Bool.and_eq_true, List.all_eq_true, Bool.not_eq_true'] at hm
      have hne : w2 ≠ w := fun e => by rw [e, Nat.beq_refl] at hm; cases hm.1
      have hn : w2 ∉ rd := fun hin => by have := hm.2 w2 hin; rw [Nat.beq_refl] at this; cases this
      have hn2 : w2 ∉ w :: rd := fun hin => by rcases List.mem_cons.1 hin with e | e; exact hne e; exact hn e
      refine fun r2 en2 hrr2 => ⟨o, ho, hg, ⟨by simpa using hw.1, hw.2⟩, r, en, ?_, ?_⟩
      · rw [fp_set hn2, fp_set hn]; exact hO.congr fun x hx => (evF_upd f2 x hx).symm
      · rw [← upd_comm f3, List.set_comm _ _ hne]
        exact h r2 en2 hrr2
  | e w rd =>
    cases kb with
    | q rd2 => cases hk
    | e w2 rd2 => cases hk
    | w w2 rd2 => cases hk
    | f w2 =>
      obtain ⟨o, ho, hg, hw, R, hO, h⟩ := h
      rw [looksI_eq ho] at f2
      rw [dstI_eq ho] at f1 f3
      simp only [memFree, Kx.wr, Kx.rds, List.all_nil, Bool.true_and, Bool.and_eq_true, List.all_eq_true, Bool.not_eq_true'] at hm
      have hne : w2 ≠ w := fun e => by rw [e, Nat.beq_refl] at hm; cases hm.1
      have hn : w2 ∉ rd := fun hin => by have := hm.2 w2 hin; rw [Nat.beq_refl] at this; cases this
      have hn2 : w2 ∉ w :: rd := fun hin => by rcases List.mem_cons.1 hin with e | e; exact hne e; exact hn e
      refine fun r2 en2 hrr2 => ⟨o, ho, hg, ⟨by simpa using hw.1, hw.2⟩, R, ?_, fun r μ' hrr => ?_⟩
      · rw [fp_set hn2]; exact hO.congr fun x hx => (evF_upd f2 x hx).symm
      · obtain ⟨en, he, h⟩ := h r μ' hrr
        refine ⟨en, by rw [fp_set hn]; exact he, ?_⟩
        rw [← upd_comm f3, List.set_comm _ _ hne]
        exact h r2 en2 hrr2
  | f w =>
    cases kb with
    | q rd2 => cases hk
    | e w2 rd2 => cases hk
    | w w2 rd2 => cases hk
    | f w2 =>
      simp only [memFree, Kx.wr, Kx.rds, List.all_nil, Bool.true_and, Bool.and_true, Bool.not_eq_true'] at hm
      have hne : w2 ≠ w := fun e => by rw [e, Nat.beq_refl] at hm; cases hm
      refine fun r2 en2 hrr2 r en hrr => ?_
      rw [← upd_comm f3, List.set_comm _ _ hne]
      exact h r en hrr r2 en2 hrr2

theorem SQ.front {b : It} {its : List It} : ∀ {A : List It} {ρ : Nat → V} {m : List (Option E)}, (∀ a, a ∈ A → kindFree a.k b.k = true ∧ memFree a.k b.k = true ∧ regFree l a.i b.i = true) → SQ X n l F K (A ++ b :: its) ρ m → SQ X n l F K (b :: (A ++ its)) ρ m
  | [], _, _, _, h => h
  | a :: A, ρ, m, hA, h => by
    obtain ⟨h1, h2, h3⟩ := hA a (by simp)
    refine SQ.swap h1 h2 h3 ?_
    obtain ⟨i, ka⟩ := a
    have ih := fun ρ m => SQ.front (b := b) (its := its) (A := A) (ρ := ρ) (m := m) fun a ha => hA a (by simp [ha])
    cases ka with
    | q rd => obtain ⟨o, ho, hn, r, hG, h⟩ := h; exact ⟨o, ho, hn, r, hG, ih _ _ h⟩
    | e w rd => obtain ⟨o, ho, hg, hw, R, hO, h⟩ := h; exact ⟨o, ho, hg, hw, R, hO, fun r μ' hrr => by obtain ⟨en, he, h⟩ := h r μ' hrr; exact ⟨en, he, ih _ _ h⟩⟩
    | f w => exact fun r en hrr => ih _ _ (h r en hrr)
    | w w rd => obtain ⟨o, ho, hg, hw, r, en, hO, h⟩ := h; exact ⟨o, ho, hg, hw, r, en, hO, ih _ _ h⟩

def fresh1 (l : List Oper) (s : Nat) (it : It) : Bool := !isF it.k || ((looksI l it.i).all fun t => (List.range s).all fun j => !(dstI l j == some t)) && (nth l it.i).any fun o => o.guard == none
def FreshAt (X : Cfg) (l : List Oper) (F : Rfs) (ρ0 : Nat → V) (its : List It) : Prop := ∀ i w, (⟨i, .f w⟩ : It) ∈ its → ∃ o, nth l i = some o ∧ o.guard = none ∧ Fresh X o (evF ρ0) (rfOf F i)
def pairsOk (l : List Oper) : List It → Bool
  | [] => true
  | a :: r => r.all (mayPass l a) && pairsOk l r
theorem pairsOk_app {l : List Oper} {b : It} : ∀ {A B : List It}, pairsOk l (A ++ b :: B) = true → pairsOk l (A ++ B) = true ∧ (∀ a, a ∈ A → mayPass l a b = true) ∧ (∀ a, a ∈ B → mayPass l b a = true)
  | [], B, h => by
    simp only [List.nil_append, pairsOk, Bool.and_eq_true, List.all_eq_true] at h
    exact ⟨h.2, fun a ha => (by cases ha), h.1⟩
  | a :: A, B, h => by
    simp only [List.cons_append, pairsOk, Bool.and_eq_true, List.all_eq_true] at h
    obtain ⟨h1, h2, h3⟩ := pairsOk_app h.2
    refine ⟨?_, fun x hx => ?_, h3⟩
    · simp only [List.cons_append, pairsOk, Bool.and_eq_true, List.all_eq_true]
      exact ⟨fun x hx => h.1 x (by rcases List.mem_append.1 hx with k | k <;> simp [k]), h1⟩
    · rcases List.mem_cons.1 hx with rfl | hx
      · exact h.1 b (by simp)
      · exact h2 x hx

def endK (X : Cfg) (n : Nat) (z : Z) (l : List Oper) (s : Nat) (Q : Exit → S → Prop) (ρ : Nat → V) (m : List (Option E)) : Prop := ∃ regs, ρ = look regs ∧ RWP X n z l.toArray (l.drop s) Q ⟨regs, allE m⟩
end

section draw
variable {X : Cfg} {n : Nat} {z : Z} {Q : Exit → S → Prop} {l : List Oper} {s : Nat} {F : Rfs}
theorem listed_tf {listed : Array Bool} {j : Nat} (hj : j < listed.size) : listed.getD j true = listed.getD j false := by
  rw [Array.getD_eq_getD_getElem?, Array.getD_eq_getD_getElem?, Array.getElem?_eq_getElem hj]; rfl
theorem unl_count {m : Nat} {listed : Array Bool} (hsz : listed.size = l.length) (hml : m ≤ l.length) (hq : ∀ i, i < m → listed.getD i true = true) (htail : ∀ i, m ≤ i → i < l.length → listed.getD i true = false) : unl listed = l.length - m := by
  have hL : listed.toList = (List.range l.length).map fun i => decide (i < m) := by
    apply List.ext_getElem?
    intro i
    by_cases hi : i < l.length
    · rw [List.getElem?_map, List.getElem?_range hi]
      have hv : listed.getD i true = decide (i < m) := by
        by_cases him : i < m
        · rw [hq i him]; simp [him]
        · rw [htail i (by omega) hi]; simp [him]
      rw [Array.getD_eq_getD_getElem?, Array.getElem?_eq_getElem (by omega)] at hv
      rw [Array.getElem?_toList, Array.getElem?_eq_getElem (by omega)]
      simpa using hv
    · rw [List.getElem?_eq_none (by simp; omega), List.getElem?_eq_none (by simp; omega)]
  unfold unl
  rw [hL]
  have hr : ∀ N, m ≤ N → ((List.range N).map fun i => decide (i < m)).count false = N - m := by
    intro N hN
    induction N with
    | zero => simp
    | succ N ihN =>
      rw [List.range_succ, List.map_append, List.count_append]
      by_cases hmN : m ≤ N
      · rw [ihN hmN]
        have : decide (N < m) = false := by simp; omega
        simp [this]; omega
      · have hm' : m = N + 1 := by omega
        have : decide (N < m) = true := by simp; omega
        have hz : ((List.range N).map fun i => decide (i < m)).count false = 0 := by
          rw [List.count_eq_zero]
          intro hmem
          obtain ⟨i, hi, he⟩ := List.mem_map.1 hmem
          have := List.mem_range.1 hi
          simp at he
          omega
        rw [hz]
        simp [this]; omega
  exact hr _ hml
theorem draw_c {z1 : Z} (hz : ZLe z z1) (ok : DrawOk l s) (hsl : s ≤ l.length) (hdst : l.all (dstOk n) = true) {ρ0 : Nat → V} : ∀ (fuel : Nat) (its : List It) (ρ : Nat → V) (m : List (Option E)) (listed : Array Bool) (a : Act) (w : World) (I : Nat → Prop),
    listed.size = l.length → unl listed = fuel → (∀ i, s ≤ i → i < l.length → listed.getD i true = false) → Closed l listed →
    (∀ i, i < s → (listed.getD i true = false ↔ ∃ k, (⟨i, k⟩ : It) ∈ its)) → (its.map It.i).Nodup → (∀ it, it ∈ its → it.i < s) → pairsOk l its = true → its.all (fresh1 l s) = true → FreshAt X l F ρ0 its →
    (∀ t, (∀ j, j < s → dstI l j ≠ some t) → ρ t = ρ0 t) → (∀ i v, (⟨i, .f v⟩ : It) ∈ its → nth m v = some none) →
    SQ X n l F (endK X n z l s Q) its ρ m → Heap X w I (allE m) → (∀ t, VRep w I (ρ t) (a.tmps.getD t undef)) → Ext z1.w z1.I z1.μ w I (allE m) → a.defers = z1.ds → a.tmps.size = n →
    wpAnyIn (fen z.rd) 0 X.P .any l.toArray (liftQ X n z1 Q) fuel listed a w := by
  intro fuel
  induction fuel with
  | zero =>
    intro its ρ m listed a w I hsz hun htail hclo hits hnd hlt hp hf1 hF hρ hfm hSQ hH hR hx hd hs
    have hall : ∀ i, i < l.length → listed.getD i true = true := by
      intro i hi
      cases hb : listed.getD i true with
      | true => rfl
      | false => have := unl_set hb; omega
    have hsl' : s = l.length := by
      rcases Nat.lt_or_ge s l.length with h | h
      · have h1 := htail s (Nat.le_refl _) h; rw [hall s h] at h1; cases h1
      · omega
    have hnil : its = [] := by
      cases its with
      | nil => rfl
      | cons it r =>
        have h1 := hlt it (by simp)
        have h2 := (hits it.i h1).2 ⟨it.k, by simp⟩
        rw [hall it.i (by omega)] at h2; cases h2
    subst hnil
    obtain ⟨regs, rfl, hk⟩ := hSQ
    refine draw_tail ok 0 l.length listed a w hsz hsl (Nat.le_refl _) (fun i hi => by rw [hall i hi]; simp [hi]) (by omega) ?_
    have := hk (by rw [hsl']; simp) z1 hz a w ⟨I, hH, hR, hx, hd, hs⟩
    rwa [hsl'] at this
  | succ fuel ih =>
    intro its ρ m listed a w I hsz hun htail hclo hits hnd hlt hp hf1 hF hρ hfm hSQ hH hR hx hd hs
    cases hits0 : its with
    | nil =>
      subst hits0
      have hq : ∀ i, i < s → listed.getD i true = true := by
        intro i hi
        cases hb : listed.getD i true with
        | true => rfl
        | false => obtain ⟨k, hk⟩ := (hits i hi).1 hb; cases hk
      obtain ⟨regs, rfl, hk⟩ := hSQ
      refine draw_tail ok (fuel + 1) s listed a w hsz (Nat.le_refl _) hsl (fun i hi => ?_) ?_ ?_
      · by_cases him : i < s
        · rw [hq i him]; simp [him]
        · rw [htail i (by omega) hi]; simp [him]
      · have := unl_count (m := s) (l := l) (listed := listed) hsz hsl hq htail
        omega
      · exact hk (by
          rw [List.all_eq_true] at hdst ⊢
          exact fun o ho => hdst o (List.mem_of_mem_drop ho)) z1 hz a w ⟨I, hH, hR, hx, hd, hs⟩
    | cons it0 its0 =>
      have hi0s := hlt it0 (by rw [hits0]; simp)
      have hb00 := (hits it0.i hi0s).2 ⟨it0.k, by rw [hits0]; simp⟩
      have hex : ∃ i, i < s ∧ listed.getD i true = false ∧ ∀ j, j < i → listed.getD j true = true := by
        have strong : ∀ N i, i < N → i < s → listed.getD i true = false → ∃ i, i < s ∧ listed.getD i true = false ∧ ∀ j, j < i → listed.getD j true = true := by
          intro N
          induction N with
          | zero => intro i h; omega
          | succ N ihN =>
            intro i hiN him hb
            by_cases hall : ∀ j, j < i → listed.getD j true = true
            · exact ⟨i, him, hb, hall⟩
            · rcases Classical.not_forall.1 hall with ⟨j, hj⟩
              rcases Classical.not_imp.1 hj with ⟨h1, h2⟩
              exact ihN j (by omega) (by omega) (by cases hb' : listed.getD j true; rfl; exact absurd hb' h2)
        exact strong (it0.i + 1) it0.i (by omega) hi0s hb00
      obtain ⟨i0, hi0, hb0, hmin⟩ := hex
      refine ⟨fun hnil => ?_, fun i hi => ?_⟩
      · exfalso
        have hlt0 : i0 < l.length := by omega
        have : i0 ∈ Region.ready .any l.toArray listed := by
          rw [mem_ready]
          refine ⟨hb0, l[i0], by simp [hlt0], fun e he hb => ?_⟩
          have hlt := ok.back i0 l[i0] (List.getElem?_eq_getElem hlt0) e he hb
          have h2 := hmin e.on hlt
          rw [← listed_tf (by omega)]
          exact h2
        rw [hnil] at this
        simp at this
      · rw [mem_ready] at hi
        obtain ⟨hbi, o, ho, hedge⟩ := hi
        have ho' : l[i]? = some o := by simpa using ho
        have hil : i < l.length := (List.getElem?_eq_some_iff.1 ho').1
        have hun2 : ∀ j, j < l.length → listed.getD j true = false → ¬ listed.getD j false = true := fun j hj h1 h2 => by
          rw [← listed_tf (by omega), h1] at h2; cases h2
        have him : i < s := by
          rcases Nat.lt_or_ge i s with h | h
          · exact h
          · exfalso
            rcases Nat.lt_or_ge s i with hgt | hge
            · obtain ⟨e, he1, he2, he3⟩ := ok.tail1 i o ho' hgt
              have h1 := hedge e he1 he3
              rw [he2] at h1
              exact hun2 (i - 1) (by omega) (htail (i - 1) (by omega) (by omega)) h1
            · have him : i = s := by omega
              subst him
              exact hun2 i0 (by omega) hb0 (reach_ready hclo ho' hedge (ok.tail0 o ho' i0 hi0))
        obtain ⟨k, hk⟩ := (hits i him).1 hbi
        obtain ⟨A, B, hAB⟩ := List.append_of_mem hk
        rw [hAB] at hSQ hp hnd hits hlt hf1 hF hfm
        obtain ⟨hp1, hp2, hp3⟩ := pairsOk_app hp
        have hnd' : ((A ++ B).map It.i).Nodup ∧ (∀ it, it ∈ A ++ B → it.i ≠ i) := by
          rw [List.map_append, List.map_cons] at hnd
          have h1 := (List.perm_middle (a := i) (l₁ := A.map It.i) (l₂ := B.map It.i)).nodup_iff.1 hnd
          rw [← List.map_append] at h1
          obtain ⟨h2, h3⟩ := List.nodup_cons.1 h1
          exact ⟨h3, fun it hit e => h2 (e ▸ List.mem_map_of_mem hit)⟩
        have hmem : ∀ it, it ∈ A ++ B → it ∈ A ++ ⟨i, k⟩ :: B := fun it hit => by
          rcases List.mem_append.1 hit with h | h <;> simp [h]
        have hfree : ∀ it, it ∈ A → kindFree it.k k = true ∧ memFree it.k k = true ∧ regFree l it.i i = true := by
          intro it hit
          have h1 := hp2 it hit
          unfold mayPass at h1
          simp only [Bool.or_eq_true, Bool.and_eq_true] at h1
          rcases h1 with h1 | h1
          · exact ⟨h1.1.1, h1.1.2, h1.2⟩
          · exfalso
            have h2 := reach_ready hclo ho' hedge h1.2
            have h3 := hlt it (by simp [hit])
            have h4 := (hits it.i h3).2 ⟨it.k, by simp [hit]⟩
            exact hun2 it.i (by omega) h4 h2
        have hSQ' := SQ.front hfree hSQ
        have hdo : dstOk n o = true := by
          rw [List.all_eq_true] at hdst
          exact hdst o (List.mem_of_getElem? ho')
        have hon : nth l i = some o := by rw [nth_eq]; exact ho'
        simp only [wpOpIn, ho]
        have step : ∀ (r : V) (m' : List (Option E)) v I' w', SQ X n l F (endK X n z l s Q) (A ++ B) (upd ρ o.dst r) m' → (∀ j v, (⟨j, .f v⟩ : It) ∈ A ++ B → nth m' v = some none) → VRep w' I' r v → Heap X w' I' (allE m') → Ext w I (allE m) w' I' (allE m') → wpAnyIn (fen z.rd) 0 X.P .any l.toArray (liftQ X n z1 Q) fuel (listed.setIfInBounds i true) (a.put o.dst v) w' := by
          intro r m' v I' w' hS hfm' hv hH' hx'
          have hu := unl_set hbi
          refine ih (A ++ B) (upd ρ o.dst r) m' (listed.setIfInBounds i true) _ w' I' (by simp [hsz]) (by omega) (fun j hj hjl => ?_) (fun j oj hoj hb e he1 he3 => ?_) (fun j hj => ?_) hnd'.1 (fun it hit => hlt it (hmem it hit)) hp1 ?_ (fun j v hj => hF j v (hmem _ hj)) (fun t ht => ?_) hfm' hS hH' (fun t => ?_) (hx.trans hx') ?_ ?_
          · rw [getD_set_ne true (by omega)]; exact htail j hj hjl
          · have key : listed.getD e.on false = true := by
              by_cases hji : j = i
              · subst hji
                rw [ho'] at hoj; cases hoj
                exact hedge e he1 he3
              · rw [getD_set_ne true (Ne.symm hji)] at hb
                exact hclo j oj hoj hb e he1 he3
            rw [Array.getD_eq_getD_getElem?, Array.getElem?_setIfInBounds]
            by_cases hei : i = e.on
            · rw [if_pos hei]
              have : i < listed.size := by omega
              simp [this]
            · rw [if_neg hei, ← Array.getD_eq_getD_getElem?]; exact key
          · by_cases hji : j = i
            · subst hji
              constructor
              · intro h
                rw [Array.getD_eq_getD_getElem?, Array.getElem?_setIfInBounds] at h
                simp [show j < listed.size by omega] at h
              · rintro ⟨k', hk'⟩
                exact absurd rfl (hnd'.2 _ hk')
            · rw [getD_set_ne true (Ne.symm hji), hits j hj]
              constructor
              · rintro ⟨k', hk'⟩
                refine ⟨k', ?_⟩
                rcases List.mem_append.1 hk' with h | h
                · simp [h]
                · rcases List.mem_cons.1 h with h | h
                  · injection h with h1 h2; exact absurd h1 hji
                  · simp [h]
              · rintro ⟨k', hk'⟩
                exact ⟨k', hmem _ hk'⟩
          · rw [List.all_eq_true] at hf1 ⊢
            exact fun it hit => hf1 it (hmem it hit)
          · rw [upd_ne (by have := ht i him; rw [dstI_eq hon] at this; exact this)]
            exact hρ t ht
          · cases hod : o.dst with
            | none => rw [upd_none]; exact hH.vrep hx' (hR t)
            | some d =>
              have hdn : d < n := by simp only [dstOk, hod, Bool.and_eq_true] at hdo; simpa [Nat.blt_eq] using hdo.1
              rw [tmps_put hs hdn]
              by_cases hdt : d = t
              · subst hdt; rw [if_pos rfl, upd, if_pos rfl]; exact hv
              · rw [if_neg hdt, upd_ne (by simpa using hdt)]; exact hH.vrep hx' (hR t)
          · cases hod : o.dst <;> simp [Act.put, hd]
          · cases hod : o.dst <;> simp [Act.put, hs]
        have hlook : ∀ t, t ∈ o.looksAt l.toArray → VRep w I (ρ t) (a.tmps.getD t undef) := fun t _ => hR t
        have hops : ∀ x, x ∈ o.op.operands → VRep w I (evF ρ x) (a.eval x) := by
          intro x hx
          cases x with
          | tmp t => exact hR t
          | const v => exact constV_rep w I v
          | global g => exact CRep.lit _ rfl
          | func f => exact CRep.fn (.func f) [] [] [] [] rfl rfl (fun j c u hc => by simp at hc) (fun j c u hc => by simp at hc)
        have keep : ∀ v, (∀ it, it ∈ A ++ B → isF it.k = true → it.k.wr ≠ some v) → ∀ en, ∀ j u, (⟨j, .f u⟩ : It) ∈ A ++ B → nth (m.set v (some en)) u = some none := by
          intro v hv en j u hj
          have h1 := hfm j u (hmem _ hj)
          have hne : v ≠ u := fun e => hv _ hj rfl (by rw [e]; rfl)
          rw [nth_eq, List.getElem?_set_ne hne, ← nth_eq]; exact h1
        have wrs : ∀ v, k.wr = some v → ∀ it, it ∈ A ++ B → isF it.k = true → it.k.wr ≠ some v := by
          intro v hv it hit hF1 hw
          rcases List.mem_append.1 hit with h | h
          · have h1 := (hfree it h).2.1
            unfold memFree at h1
            rw [hw, hv] at h1
            simp [Nat.beq_refl] at h1
          · have h1 := hp3 it h
            unfold mayPass at h1
            rw [hF1] at h1
            simp only [Bool.not_true, Bool.false_and, Bool.or_false, Bool.and_eq_true] at h1
            have h2 := h1.1.2
            unfold memFree at h2
            simp only [hw, hv] at h2
            simp [Nat.beq_refl] at h2
        cases k with
        | q rd =>
          obtain ⟨o2, ho2, hrn, r, hG, hS⟩ := hSQ'
          rw [hon] at ho2; cases ho2
          have hG' := (hG.wide (allE_perm rd m hrn)) a w I hH hlook hs (wpAnyIn (fen z.rd) 0 X.P .any l.toArray (liftQ X n z1 Q) fuel (listed.setIfInBounds i true)) (liftQ X n z1 Q) fun v I' w' hv hH' hx' => step r m v I' w' hS (fun j u hj => hfm j u (hmem _ hj)) hv hH' hx'
          split
          · rename_i hw; rw [if_pos hw] at hG'; exact hG' (dstOk.nd hdo) _
          · rename_i hw; rw [if_neg hw] at hG'; exact ⟨fun _ _ => trivial, hG'⟩
        | e v rd =>
          obtain ⟨o2, ho2, hg, ⟨hw1, hw2⟩, R, hO, hS⟩ := hSQ'
          rw [hon] at ho2; cases ho2
          have hO' := (hO.wide (allE_perm (v :: rd) m hw2)) a w I hH hops (wpAnyIn (fen z.rd) 0 X.P .any l.toArray (liftQ X n z1 Q) fuel (listed.setIfInBounds i true)) (liftQ X n z1 Q) (by
            rintro u r _ I' w' ⟨μ', hrr, rfl⟩ hv hH' hx'
            obtain ⟨en, rfl, hS'⟩ := hS r μ' hrr
            have hpm := allE_write (m := m) (en := en) hw2 hw1
            exact step r _ u I' w' hS' (keep v (wrs v rfl) en) hv (hH'.perm hpm) (hx'.perm (List.Perm.refl _) hpm))
          rw [if_pos (by simp [Region.wanted, hg])]
          exact hO' (dstOk.nd hdo) _
        | w v rd =>
          obtain ⟨o2, ho2, hg, ⟨hw1, hw2⟩, r0, en0, hO, hS0⟩ := hSQ'
          rw [hon] at ho2; cases ho2
          have hO' := (hO.wide (allE_perm (v :: rd) m hw2)) a w I hH hops (wpAnyIn (fen z.rd) 0 X.P .any l.toArray (liftQ X n z1 Q) fuel (listed.setIfInBounds i true)) (liftQ X n z1 Q) (by
            rintro u r _ I' w' ⟨μ', hrr, rfl⟩ hv hH' hx'
            obtain ⟨rfl, rfl⟩ := hrr
            have hS' := hS0
            have hpm := allE_write (m := m) (en := en0) hw2 hw1
            exact step r _ u I' w' hS' (keep v (wrs v rfl) en0) hv (hH'.perm hpm) (hx'.perm (List.Perm.refl _) hpm))
          rw [if_pos (by simp [Region.wanted, hg])]
          exact hO' (dstOk.nd hdo) _
        | f v =>
          obtain ⟨o2, ho2, hg, hFr⟩ := hF i v (by simp)
          rw [hon] at ho2; cases ho2
          have hfv := hfm i v (by simp)
          have hFr' : Fresh X o (evF ρ) (rfOf F i) := by
            refine OpE.congr hFr fun x hx => ?_
            cases x with
            | tmp t =>
              have h1 := List.all_eq_true.1 hf1 ⟨i, .f v⟩ (by simp)
              simp only [fresh1, isF, Bool.not_true, Bool.false_or, Bool.and_eq_true, List.all_eq_true, Bool.not_eq_true', beq_eq_false_iff_ne, List.mem_range, looksI_eq hon] at h1
              exact (hρ t (h1.1 t (looks_op hx))).symm
            | _ => rfl
          have hO' := (OpE.wide (φ := allE m) hFr' (List.Perm.refl _)) a w I hH hops (wpAnyIn (fen z.rd) 0 X.P .any l.toArray (liftQ X n z1 Q) fuel (listed.setIfInBounds i true)) (liftQ X n z1 Q) (by
            rintro u r _ I' w' ⟨_, ⟨en, hrr, rfl⟩, rfl⟩ hv hH' hx'
            have hpm := allE_fresh (en := en) hfv
            have hS' := hSQ' r en hrr
            rw [dstI_eq hon] at hS'
            exact step r _ u I' w' hS' (keep v (wrs v rfl) en) hv (hH'.perm hpm) (hx'.perm (List.Perm.refl _) hpm))
          rw [if_pos (by simp [Region.wanted, hg])]
          exact hO' (dstOk.nd hdo) _

def nodupN : List Nat → Bool
  | [] => true
  | a :: r => r.all (fun b => !Nat.beq a b) && nodupN r
def itsOk (l : List Oper) (s : Nat) (its : List It) : Bool :=
  its.all (fun it => Nat.blt it.i s) && (List.range s).all (fun i => (its.map It.i).contains i) && nodupN (its.map It.i) && pairsOk l its && its.all (fresh1 l s)
def FX (X : Cfg) (l : List Oper) (regs : List (Nat × V)) : List It → Rfs → (Rfs → Prop) → Prop
  | [], F, K => K F
  | ⟨i, .f _⟩ :: its, F, K => ∃ o, nth l i = some o ∧ o.guard = none ∧ ∃ Rf, Fresh X o (ev regs) Rf ∧ FX X l regs its (F ++ [(i, Rf)]) K
  | _ :: its, F, K => FX X l regs its F K
theorem rfOf_app {F : Rfs} {i : Nat} {G : Rfs} (h : i ∈ F.map Prod.fst) : rfOf (F ++ G) i = rfOf F i := by
  induction F with
  | nil => cases h
  | cons a F ih =>
    obtain ⟨j, R⟩ := a
    show (bif Nat.beq j i then R else rfOf (F ++ G) i) = bif Nat.beq j i then R else rfOf F i
    cases hb : Nat.beq j i with
    | true => rfl
    | false =>
      simp only [cond_false]
      refine ih ?_
      rcases List.mem_cons.1 h with h | h
      · rw [h] at hb; simp [Nat.beq_refl] at hb
      · exact h
theorem rfOf_new {F : Rfs} {i : Nat} {R : V → E → Prop} (h : i ∉ F.map Prod.fst) : rfOf (F ++ [(i, R)]) i = R := by
  induction F with
  | nil => show (bif Nat.beq i i then R else _) = R; rw [Nat.beq_refl]; rfl
  | cons a F ih =>
    obtain ⟨j, R'⟩ := a
    show (bif Nat.beq j i then R' else rfOf (F ++ [(i, R)]) i) = R
    cases hb : Nat.beq j i with
    | true => exact absurd (Nat.eq_of_beq_eq_true hb).symm (fun e => h (by simp [e]))
    | false => exact ih fun e => h (by simp [e])
theorem FX.parts {X : Cfg} {l : List Oper} {regs : List (Nat × V)} {K : Rfs → Prop} : ∀ {its : List It} {F : Rfs}, (its.map It.i).Nodup → (∀ it, it ∈ its → it.i ∉ F.map Prod.fst) → FX X l regs its F K → ∃ G, FreshAt X l (F ++ G) (look regs) its ∧ K (F ++ G) ∧ ∀ i, i ∈ G.map Prod.fst → i ∈ its.map It.i
  | [], F, _, _, h => ⟨[], fun i w hi => (by cases hi), by rw [List.append_nil]; exact h, fun i hi => (by cases hi)⟩
  | ⟨i, .q rd⟩ :: its, F, hn, hd, h => by
    obtain ⟨G, h1, h2, h3⟩ := FX.parts (its := its) (List.nodup_cons.1 hn).2 (fun it hit => hd it (by simp [hit])) h
    refine ⟨G, fun j w hj => ?_, h2, fun j hj => List.mem_cons_of_mem _ (h3 j hj)⟩
    rcases List.mem_cons.1 hj with e | e
    · injection e with e1 e2; cases e2
    · exact h1 j w e
  | ⟨i, .e w0 rd⟩ :: its, F, hn, hd, h => by
    obtain ⟨G, h1, h2, h3⟩ := FX.parts (its := its) (List.nodup_cons.1 hn).2 (fun it hit => hd it (by simp [hit])) h
    refine ⟨G, fun j w hj => ?_, h2, fun j hj => List.mem_cons_of_mem _ (h3 j hj)⟩
    rcases List.mem_cons.1 hj with e | e
    · injection e with e1 e2; cases e2
    · exact h1 j w e
  | ⟨i, .w w0 rd⟩ :: its, F, hn, hd, h => by
    obtain ⟨G, h1, h2, h3⟩ := FX.parts (its := its) (List.nodup_cons.1 hn).2 (fun it hit => hd it (by simp [hit])) h
    refine ⟨G, fun j w hj => ?_, h2, fun j hj => List.mem_cons_of_mem _ (h3 j hj)⟩
    rcases List.mem_cons.1 hj with e | e
    · injection e with e1 e2; cases e2
    · exact h1 j w e
  | ⟨i, .f w0⟩ :: its, F, hn, hd, h => by
    obtain ⟨o, ho, hg, Rf, hF, h⟩ := h
    have hi := hd ⟨i, .f w0⟩ (by simp)
    obtain ⟨G, h1, h2, h3⟩ := FX.parts (its := its) (List.nodup_cons.1 hn).2 (fun it hit e => by
      rw [List.map_append] at e
      rcases List.mem_append.1 e with e | e
      · exact hd it (by simp [hit]) e
      · have e2 : it.i = i := by simpa using e
        exact (List.nodup_cons.1 hn).1 (by show i ∈ its.map It.i; rw [← e2]; exact List.mem_map_of_mem hit)) h
    refine ⟨(i, Rf) :: G, fun j w hj => ?_, by simpa using h2, fun j hj => ?_⟩
    · have e0 : F ++ (i, Rf) :: G = F ++ [(i, Rf)] ++ G := by simp
      rcases List.mem_cons.1 hj with e | e
      · injection e with e1 e2
        subst e1
        refine ⟨o, ho, hg, ?_⟩
        rw [e0, rfOf_app (by simp), rfOf_new hi, evF_look]; exact hF
      · rw [e0]; exact h1 j w e
    · rcases List.mem_cons.1 hj with e | e
      · simp [e]
      · exact List.mem_cons_of_mem _ (h3 j e)

theorem nodupN_spec : ∀ {L : List Nat}, nodupN L = true → L.Nodup
  | [], _ => List.nodup_nil
  | a :: r, h => by
    simp only [nodupN, Bool.and_eq_true, List.all_eq_true, Bool.not_eq_true'] at h
    exact List.nodup_cons.2 ⟨fun hin => (by have := h.1 a hin; rw [Nat.beq_refl] at this; cases this), nodupN_spec h.2⟩

theorem filterMap_none : ∀ k : Nat, (List.replicate k (none : Option E)).filterMap id = []
  | 0 => rfl
  | k + 1 => by rw [List.replicate_succ, List.filterMap_cons]; exact filterMap_none k
theorem awp_draw_c {regs : List (Nat × V)} {μ : List E} {id : Nat} (s k : Nat) (its : List It) (hm : X.P.follows .mixedOrders = true) (hchk : drawChk l s = true) (hits : itsOk l s its = true) (hml : Nat.ble s l.length = true) (hd : l.all (dstOk n) = true) (hfm : (its.all fun it => match it.k with | .f w => Nat.blt w k | _ => true) = true)
    (h : FX X l regs its [] fun F => SQ X n l F (endK X n z l s Q) its (look regs) (List.replicate k none ++ μ.map some)) : AWP X n z (.region id l.toArray true) Q ⟨regs, μ⟩ := by
  intro z1 hz a w st
  obtain ⟨I, hH, hR, hx, hdf, hs⟩ := st.drew
  unfold itsOk at hits
  simp only [Bool.and_eq_true, List.all_eq_true] at hits
  obtain ⟨⟨⟨⟨g1, g2⟩, g3⟩, g4⟩, g5⟩ := hits
  have hsl := Nat.le_of_ble_eq_true hml
  have hin : ∀ i, i < s → i ∈ its.map It.i := fun i hi => by simpa using g2 i (List.mem_range.2 hi)
  have hnd : (its.map It.i).Nodup := nodupN_spec g3
  obtain ⟨G, h1, h2, h3⟩ := FX.parts hnd (fun it _ e => by cases e) h
  rw [List.nil_append] at h1 h2
  have hall : allE (List.replicate k none ++ μ.map some) = μ := by
    unfold allE
    rw [List.filterMap_append]
    rw [filterMap_none k, List.nil_append, List.filterMap_map]
    show List.filterMap some μ = μ
    exact List.filterMap_some
  refine wpIn_region_any hm ?_
  refine draw_c (F := G) hz (drawOk hchk) hsl hd _ its (look regs) _ _ a _ I (by simp) ?_ (fun i _ hi => by simp [hi]) (fun j o ho hb => by
    have hlt : j < l.length := (List.getElem?_eq_some_iff.1 ho).1
    simp [hlt] at hb) (fun i hi => ?_) hnd (fun it hit => by have := g1 it hit; simpa [Nat.blt_eq] using this) g4 (List.all_eq_true.2 g5) h1 (fun t _ => rfl) (fun i v hv => ?_) h2 (by rw [hall]; exact hH) hR (by rw [hall]; exact hx) hdf hs
  · unfold unl
    simp
  · constructor
    · intro _
      obtain ⟨it, hit, e⟩ := List.mem_map.1 (hin i hi)
      exact ⟨it.k, by rw [← e]; exact hit⟩
    · intro _
      simp [show i < l.length by omega]
  · have h4 := List.all_eq_true.1 hfm _ hv
    have h5 : v < k := by simpa [Nat.blt_eq] using h4
    rw [nth_eq, List.getElem?_append_left (by simpa using h5), List.getElem?_replicate, if_pos h5]
end draw

/-! ## Steps of a derivation -/
section rules
variable {X : Cfg} {n : Nat} {z : Z} {Q : Exit → S → Prop} {l : List Oper} {s : Nat} {F : Rfs} {K : (Nat → V) → List (Option E) → Prop} {its : List It} {o : Oper} {regs : List (Nat × V)} {m : List (Option E)} {i : Nat} {rd : List Nat}
theorem qW {r : V} {d : Tmp} (ho : nth l i = some o) (hn : rd.Nodup) (hd : o.dst = some d) (hg : o.guard = none) (h : Det X o (ev regs) (fp m rd) r (fp m rd)) (k : SQ X n l F K its (look ((d, r) :: regs)) m) : SQ X n l F K (⟨i, .q rd⟩ :: its) (look regs) m :=
  ⟨o, ho, hn, r, kY hg h, by rw [hd, look_upd]; exact k⟩
theorem sq_op {w : Nat} {R : V → List E → Prop} {d : Tmp} (ho : nth l i = some o) (hw : Nat.blt w m.length = true) (hn : (w :: rd).Nodup) (hd : o.dst = some d) (hg : o.guard = none) (h : OpE X o (ev regs) (fp m (w :: rd)) R) (k : ∀ r μ', R r μ' → ∃ en, μ' = en :: fp m rd ∧ SQ X n l F K its (look ((d, r) :: regs)) (m.set w (some en))) : SQ X n l F K (⟨i, .e w rd⟩ :: its) (look regs) m :=
  ⟨o, ho, hg, ⟨by simpa [Nat.blt_eq] using hw, hn⟩, R, by rw [evF_look]; exact h, fun r μ' hr => by obtain ⟨en, h1, h2⟩ := k r μ' hr; exact ⟨en, h1, by rw [hd, look_upd]; exact h2⟩⟩
theorem sq_op0 {w : Nat} {R : V → List E → Prop} (ho : nth l i = some o) (hw : Nat.blt w m.length = true) (hn : (w :: rd).Nodup) (hd : o.dst = none) (hg : o.guard = none) (h : OpE X o (ev regs) (fp m (w :: rd)) R) (k : ∀ r μ', R r μ' → ∃ en, μ' = en :: fp m rd ∧ SQ X n l F K its (look regs) (m.set w (some en))) : SQ X n l F K (⟨i, .e w rd⟩ :: its) (look regs) m :=
  ⟨o, ho, hg, ⟨by simpa [Nat.blt_eq] using hw, hn⟩, R, by rw [evF_look]; exact h, fun r μ' hr => by obtain ⟨en, h1, h2⟩ := k r μ' hr; exact ⟨en, h1, by rw [hd, upd_none]; exact h2⟩⟩
theorem sq_fresh {w : Nat} {d : Tmp} {R : V → E → Prop} (hR : rfOf F i = R) (hd : dstI l i = some d) (k : ∀ r en, R r en → SQ X n l F K its (look ((d, r) :: regs)) (m.set w (some en))) : SQ X n l F K (⟨i, .f w⟩ :: its) (look regs) m :=
  fun r en hr => by rw [hR] at hr; rw [hd, look_upd]; exact k r en hr
theorem sq_nil {μ : List E} (hμ : allE m = μ) (h : RWP X n z l.toArray (l.drop s) Q ⟨regs, μ⟩) : SQ X n l F (endK X n z l s Q) [] (look regs) m := ⟨regs, rfl, by rw [hμ]; exact h⟩
theorem qP {k : Kx} {Kf : Rfs → Prop} {G : Rfs} (hk : isF k = false) (h : FX X l regs its G Kf) : FX X l regs (⟨i, k⟩ :: its) G Kf := by
  cases k with
  | f w => cases hk
  | q _ => exact h
  | e _ _ => exact h
  | w _ _ => exact h
theorem fx_fresh {w : Nat} {Kf : Rfs → Prop} {G : Rfs} {Rf : V → E → Prop} (ho : nth l i = some o) (hg : o.guard = none) (h : Fresh X o (ev regs) Rf) (k : FX X l regs its (G ++ [(i, Rf)]) Kf) : FX X l regs (⟨i, .f w⟩ :: its) G Kf := ⟨o, ho, hg, Rf, h, k⟩
theorem fx_nil {Kf : Rfs → Prop} {G : Rfs} (h : Kf G) : FX X l regs [] G Kf := h
end rules
end Go.Eng
end
section
set_option linter.unusedSimpArgs false
set_option linter.unusedVariables false
namespace Go.Eng
open Go Go.RowKit

section
variable {X : Cfg} {o : Oper} {e : Operand → V} {μ : List E} {t : TypeId}
end
end Go.Eng
end
section
set_option linter.unusedSimpArgs false
set_option linter.unusedVariables false
namespace Go.Eng
open Go Go.RowKit

def roundG {α G : Type} (inv : List α → G → Prop) (hμ : List α → G → List E) (bμ : List E) (pre : List α) : Exit → S → Prop
  | .normal, τ => ∃ g, inv pre g ∧ τ.μ = hμ pre g ++ bμ
  | _, _ => False

section
variable {X : Cfg} {o : Oper} {e : Operand → V} {μ : List E}
theorem ope_call_vec {f : FuncId} {arg_ : List Operand} {ts : Array TypeId} {args : List V} {en : E} {t : TypeId} {size : Nat} {rows : List (List C)} (p : Nat) (hp : nth μ p = some en) (ho : o.op = .call { callee := .value (.func f), args := arg_.toArray, argTypes := ts }) (hf : callOk X.P f = true)
    (hc : Con X f args [en] fun r μ' => ∃ sv', r = .c (.lit sv') ∧ μ' = [.vec sv' t size rows]) (ha : vles (arg_.map e) args) : OpE X o e μ fun r μ' => ∃ sv', r = .c (.lit sv') ∧ μ' = setN μ p (.vec sv' t size rows) := by
  have h1 : OpE X o e (en :: delN μ p) fun r μ' => ∃ sv', r = .c (.lit sv') ∧ μ' = .vec sv' t size rows :: delN μ p :=
    (ope_call ho hf (hc.frame (delN μ p)) ha).mono fun r μ' ⟨μ1, ⟨sv', h1, h2⟩, h3⟩ => ⟨sv', h1, by rw [h3, h2]; rfl⟩
  intro a w I hH hops K Q k
  refine h1 a w I (hH.perm (nth_perm hp)) hops K Q ?_
  rintro v r μ' I' w' ⟨sv', rfl, rfl⟩ hv hH' hx
  have ps := setN_perm (.vec sv' t size rows) hp
  exact k v _ _ I' w' ⟨sv', rfl, rfl⟩ hv (hH'.perm ps.symm) (hx.perm (nth_perm hp).symm ps.symm)
end
end Go.Eng
end
section
set_option linter.unusedSimpArgs false
set_option linter.unusedVariables false
namespace Go.Eng
open Go Go.RowKit

def roundGX {α G : Type} (inv : List α → G → Prop) (hμ : List α → G → List E) (invx : Code → List α → G → Prop) (hμx : Code → List α → G → List E) (bμ : List E) (pre : List α) : Exit → S → Prop
  | .normal, τ => ∃ g, inv pre g ∧ τ.μ = hμ pre g ++ bμ
  | .ret, τ => ∃ g, invx .ret pre g ∧ τ.μ = hμx .ret pre g ++ bμ
  | .exit i, τ => ∃ g, invx (.exit i) pre g ∧ τ.μ = hμx (.exit i) pre g ++ bμ
  | _, _ => False

theorem mem2_eq' {sv : Value} {t u : TypeId} {n b : Nat} {rows rows' : List (List C)} {cs : List C} {bμ : List E} (h : rows = rows') : E.vec sv t n rows :: E.row b u cs :: bμ = [E.vec sv t n rows', E.row b u cs] ++ bμ := by rw [h]; rfl
theorem mem3_eq {e : E} {sv : Value} {t u : TypeId} {n b : Nat} {rows rows' : List (List C)} {cs : List C} {bμ : List E} (h : rows = rows') : e :: E.vec sv t n rows :: E.row b u cs :: bμ = [e, E.vec sv t n rows', E.row b u cs] ++ bμ := by rw [h]; rfl
theorem mem1_eq {sv : Value} {t : TypeId} {n : Nat} {rows rows' : List (List C)} {bμ : List E} (h : rows = rows') : E.vec sv t n rows :: bμ = [E.vec sv t n rows'] ++ bμ := by rw [h]; rfl
end Go.Eng
end
section
set_option linter.unusedSimpArgs false
set_option linter.unusedVariables false
namespace Go.Eng
open Go Go.RowKit

end Go.Eng
end
section
set_option linter.unusedSimpArgs false
set_option linter.unusedVariables false
namespace Go.Eng
open Go Go.RowKit

theorem Con.spell {X : Cfg} {f : FuncId} {xs ys : List V} {sv : Value} {t : TypeId} {size : Nat} {rows : List (List C)} {φ : List E} {Q : V → List E → Prop} (hne : rows ≠ [])
    (h : ∀ g cap, rows.length ≤ cap → cap ≤ maxLen → sv = .slice (some ⟨g, 0, none⟩) rows.length cap → Con X f (xs ++ .c (.lit (.slice (some ⟨g, 0, none⟩) rows.length cap)) :: ys) (.vec (.slice (some ⟨g, 0, none⟩) rows.length cap) t size rows :: φ) Q) :
    Con X f (xs ++ .c (.lit sv) :: ys) (.vec sv t size rows :: φ) Q := by
  intro w I vs hH ha
  rcases hH.rep _ List.mem_cons_self with ⟨a, _, h2⟩ | ⟨hb, us, hown, hc, hr⟩
  · exact absurd h2 hne
  · rcases hown.2 with ⟨rfl, h0⟩ | ⟨g, cap, cur, rfl, hbg, hg, hnc, hcm, hcs, htake⟩
    · exact absurd rfl hb
    · exact h g cap hnc hcm rfl w I vs hH ha

theorem flat_take {size : Nat} : ∀ {rows : List (List C)} (k : Nat), (∀ r, r ∈ rows → r.length = size) → (rows.take k).flatten = rows.flatten.take (k * size) ∧ (rows.drop k).flatten = rows.flatten.drop (k * size)
  | [], k, _ => by simp
  | r :: rows, 0, h => by simp
  | r :: rows, k + 1, h => by
    have hr := h r (by simp)
    obtain ⟨h1, h2⟩ := flat_take (rows := rows) k fun r' hr' => h r' (by simp [hr'])
    have e : (k + 1) * size = r.length + k * size := by rw [Nat.succ_mul, hr]; omega
    constructor
    · rw [List.take_succ_cons, List.flatten_cons, List.flatten_cons, h1, e, List.take_append, List.take_of_length_le (l := r) (by omega), Nat.add_sub_cancel_left]
    · rw [List.drop_succ_cons, List.flatten_cons, h2, e, List.drop_append, List.drop_of_length_le (l := r) (by omega), Nat.add_sub_cancel_left, List.nil_append]

section
variable {X : Cfg} {o : Oper} {e : Operand → V} {μ : List E} {t : TypeId}

theorem det_cut_lit {et : TypeId} {size bytes g len cap : Nat} {x : Operand} {lo hi : Option Operand} (l k : Nat) (ho : o.op = .slice t x lo hi none) (ht : elemT X.P t = some (et, size, bytes)) (hx : e x = .c (.lit (.slice (some ⟨g, 0, none⟩) len cap)))
    (h1 : bnd e lo 0 l) (h2 : bnd e hi len k) (hl : l ≤ k) (hk : k ≤ cap) : Det X o e μ (.c (.lit (.slice (some (if cap = l then ⟨g, 0, none⟩ else ⟨g, l * size, none⟩)) (k - l) (cap - l)))) μ :=
  yS fun a w I _ hops => by
    obtain ⟨hu, inf, z, hinf, hz, hs, hby, hzs, hpos⟩ := kD ht
    have hxv := hops x (by rw [ho]; simp [Op.operands])
    rw [hx] at hxv
    have hv := hxv.lit_inv
    refine ⟨.slice (some (if cap = l then ⟨g, 0, none⟩ else ⟨g, l * size, none⟩)) (k - l) (cap - l), ?_, CRep.lit _ rfl⟩
    have hB : (Instr.sliceBounds true len cap (lo.map a.eval) (hi.map a.eval) none).run X.P w = .ok (l, k, cap) w := by
      have hH : ∀ xh, hi = some xh → ∀ code, (Instr.sliceBound (a.eval xh) cap code).run X.P w = .ok k w := by
        rintro xh rfl code
        obtain ⟨kd, i, he, hi'⟩ := h2
        have hxh := hops xh (by rw [ho]; simp [Op.operands])
        rw [he] at hxh
        exact bnd_run hxh hi' (by omega)
      have hL : ∀ xl, lo = some xl → ∀ code, (Instr.sliceBound (a.eval xl) k code).run X.P w = .ok l w := by
        rintro xl rfl code
        obtain ⟨kd, i, he, hi'⟩ := h1
        have hxl := hops xl (by rw [ho]; simp [Op.operands])
        rw [he] at hxl
        exact bnd_run hxl hi' hl
      cases hi with
      | none =>
        have h2' : k = len := h2
        subst h2'
        cases lo with
        | none =>
          have h1' : l = 0 := h1
          subst h1'
          simp [Instr.sliceBounds]
        | some xl => simp [Instr.sliceBounds, hL xl rfl]
      | some xh =>
        cases lo with
        | none =>
          have h1' : l = 0 := h1
          subst h1'
          simp [Instr.sliceBounds, hH xh rfl]
        | some xl => simp [Instr.sliceBounds, hH xh rfl, hL xl rfl]
    have hadd : (if cap = l then (some ⟨g, 0, none⟩ : Option Addr) else (some (⟨g, 0, none⟩ : Addr)).map (·.add (l * size))) = some (if cap = l then ⟨g, 0, none⟩ else ⟨g, l * size, none⟩) := by
      by_cases hcl : cap = l
      · simp [hcl]
      · rw [if_neg hcl, if_neg hcl]; simp only [Option.map_some, Addr.add_lit, Nat.zero_add]
    simp only [execOp, ho, hv, Instr.sliceAt, Instr.slice, Sem.run_bind, run_underlying hu, Result.andThen_ok, Option.map_none, hB, sizeOf, typeInfo, run_program, hinf, Sem.run_pure, hs, hadd]

theorem det_cut3_un {et : TypeId} {size bytes g len cap : Nat} {x xl xh xm : Operand} (l k m : Nat) (ho : o.op = .slice t x (some xl) (some xh) (some xm)) (ht : elemT X.P t = some (et, size, bytes)) (hx : e x = .c (.lit (.slice (some ⟨g, 0, none⟩) len cap)))
    (h1 : e xl = .c (.lit (.int .i64 l))) (h2 : e xh = .c (.lit (.int .i64 k))) (h3 : e xm = .c (.lit (.int .i64 m))) (hl : l ≤ k) (hk : k ≤ m) (hm : m ≤ cap) : Det X o e μ .un μ :=
  yS fun a w I _ hops => by
    obtain ⟨hu, inf, z, hinf, hz, hs, hby, hzs, hpos⟩ := kD ht
    have hxv := hops x (by rw [ho]; simp [Op.operands])
    rw [hx] at hxv
    have hv := hxv.lit_inv
    have hb : ∀ (y : Operand) (n q : Nat), y ∈ o.op.operands → e y = .c (.lit (.int .i64 n)) → n ≤ q → ∀ code, (Instr.sliceBound (a.eval y) q code).run X.P w = .ok n w := by
      intro y n q hy he hq code
      have hyv := hops y hy
      rw [he] at hyv
      exact bnd_run hyv rfl hq
    have b1 := hb xl l k (by rw [ho]; simp [Op.operands]) h1 hl
    have b2 := hb xh k m (by rw [ho]; simp [Op.operands]) h2 hk
    have b3 := hb xm m cap (by rw [ho]; simp [Op.operands]) h3 hm
    refine ⟨.slice (if m = l then some ⟨g, 0, none⟩ else (some (⟨g, 0, none⟩ : Addr)).map (·.add (l * size))) (k - l) (m - l), ?_, trivial⟩
    have hB : (Instr.sliceBounds true len cap (some (a.eval xl)) (some (a.eval xh)) (some (a.eval xm))).run X.P w = .ok (l, k, m) w := by
      simp [Instr.sliceBounds, b1, b2, b3]
    simp only [execOp, ho, hv, Instr.sliceAt, Instr.slice, Sem.run_bind, run_underlying hu, Result.andThen_ok, Option.map_some, hB, sizeOf, typeInfo, run_program, hinf, Sem.run_pure, hs]

theorem det_append_self {et : TypeId} {x y : Operand} {size bytes g n cap i j c : Nat} {rows : List (List C)} (p : Nat) (ho : o.op = .call { callee := .builtin .append, args := #[x, y], argTypes := #[t, t] }) (ht : elemT X.P t = some (et, size, bytes))
    (hx : e x = .c (.lit (.slice (some ⟨g, 0, none⟩) i cap))) (hp : nth μ p = some (.vec (.slice (some ⟨g, 0, none⟩) n cap) et size rows)) (hy : e y = .c (.lit (.slice (some (if cap = j then ⟨g, 0, none⟩ else ⟨g, j * size, none⟩)) (n - j) c)))
    (hn : n = rows.length) (hij : i ≤ j) (hj : j ≤ n) (hcap : n ≤ cap) (hpos : 0 < cap) :
    Det X o e μ (.c (.lit (.slice (some ⟨g, 0, none⟩) (i + (n - j)) cap))) (setN μ p (.vec (.slice (some ⟨g, 0, none⟩) (i + (n - j)) cap) et size (rows.take i ++ rows.drop j))) := by
  intro a w I hH hops K Q k
  have hxv := hops x (by rw [ho]; simp [Op.operands, Call.operands])
  have hyv := hops y (by rw [ho]; simp [Op.operands, Call.operands])
  rw [hx] at hxv
  rw [hy] at hyv
  have e1 := hxv.lit_inv
  have e2 := hyv.lit_inv
  obtain ⟨hu, inf, z, hinf, hz, hs, hby, hzs, hsp⟩ := kD ht
  have hrep := hH.rep _ (nth_mem hp)
  obtain ⟨c', rfl⟩ : ∃ c', cap = c' + 1 := ⟨cap - 1, by omega⟩
  have hsvb : ∀ m, svB (.slice (some ⟨g, 0, none⟩) m (c' + 1)) = [g] := fun m => rfl
  have hx2 : ∃ xs : List Value, w.ownsRow 0 et size (.slice (some ⟨g, 0, none⟩) n (c' + 1)) rows.length xs ∧ CReps w I rows.flatten xs ∧ ∀ r, r ∈ rows → r.length = size := by
    rcases hrep with ⟨a, h1, _⟩ | ⟨_, h⟩
    · injection h1 with _ _ h1; cases h1
    · exact h
  obtain ⟨xs, hown, hc, hr⟩ := hx2
  have hown0 := hown
  obtain ⟨hxl, hcase⟩ := hown
  rcases hcase with ⟨h0, _⟩ | ⟨g', cap', cur, hv, _, hg, hnc, hcm, hcs, htake⟩
  · injection h0 with h0; cases h0
  injection hv with v1 v2 v3
  injection v1 with v1
  injection v1 with v1 _ _
  subst v1 v3
  have hnews : ∀ q u, (xs.drop (j * size))[q]? = some u → w.cell? ((if c' + 1 = j then (⟨g, 0, none⟩ : Addr) else ⟨g, j * size, none⟩).add q) = some u := by
    intro q u hq
    rw [List.getElem?_drop] at hq
    have hlt := (List.getElem?_eq_some_iff.1 hq).1
    have hne : ¬ c' + 1 = j := by
      intro h
      have : xs.length ≤ j * size := by rw [hxl]; exact Nat.mul_le_mul_right _ (by omega)
      omega
    rw [if_neg hne]
    have := hown0.cells (g := g) rfl _ _ hq
    rw [Addr.add_lit] at this ⊢
    simpa using this
  have hlen : (xs.drop (j * size)).length = (n - j) * inf.size := by rw [List.length_drop, hxl, hs, Nat.sub_mul, hn]
  have hfit : i * inf.size + (xs.drop (j * size)).length ≤ cur.size := by
    rw [hlen, hcs, hs, ← Nat.add_mul]; exact Nat.mul_le_mul_right _ (by omega)
  have hone : ∀ u ∈ xs.drop (j * size), u.oneCell' = true := fun u hu' => hc.one u (List.mem_of_mem_drop hu')
  have hrun := run_append_room (P := X.P) w t o.type et inf hu hinf g i (c' + 1) cur hg (if c' + 1 = j then (⟨g, 0, none⟩ : Addr) else ⟨g, j * size, none⟩) (n - j) c (xs.drop (j * size)) hlen hnews hone (by omega) hfit
  rw [hs] at hrun
  obtain ⟨f1, _⟩ := flat_take (rows := rows) i hr
  obtain ⟨_, f2⟩ := flat_take (rows := rows) j hr
  have hI : ∀ b, I b → (w.setRow g (cur.toList.take (i * size) ++ xs.drop (j * size) ++ cur.toList.drop (i * size + (xs.drop (j * size)).length)).toArray).heap[b]? = w.heap[b]? := fun b hb =>
    setRow_other w g b _ (fun e => (hH.own g (kS (nth_mem hp) (by show g ∈ [g]; simp))).2 (e ▸ hb))
  have hlr : (rows.take i ++ rows.drop j).length = i + (n - j) := by rw [List.length_append, List.length_take, List.length_drop]; omega
  have hxi : (cur.toList.take (i * size)) = xs.take (i * size) := by
    rw [← htake, List.take_take, Nat.min_eq_left (Nat.mul_le_mul_right _ (by omega))]
  have hrep' : ERep (w.setRow g (cur.toList.take (i * size) ++ xs.drop (j * size) ++ cur.toList.drop (i * size + (xs.drop (j * size)).length)).toArray) I (.vec (.slice (some ⟨g, 0, none⟩) (i + (n - j)) (c' + 1)) et size (rows.take i ++ rows.drop j)) := by
    refine .inr ⟨by rw [hsvb]; simp, xs.take (i * size) ++ xs.drop (j * size), ?_, ?_, ?_⟩
    · rw [hlr]
      have hl1 : (xs.take (i * size)).length = i * size := by rw [List.length_take, hxl]; exact Nat.min_eq_left (Nat.mul_le_mul_right _ (by omega))
      have hll : (xs.take (i * size) ++ xs.drop (j * size)).length = (i + (n - j)) * size := by rw [List.length_append, hl1, hlen, hs, ← Nat.add_mul]
      refine ⟨hll, .inr ⟨g, c' + 1, _, rfl, Nat.zero_le _, setRow_heap w g cur _ et _ hg, by omega, hcm, ?_, ?_⟩⟩
      · simp only [List.size_toArray, List.length_append, List.length_take, List.length_drop, Array.length_toList] at hfit ⊢
        rw [hs] at hfit
        omega
      · show List.take _ (_ ++ _ ++ _) = _
        rw [hxi, ← hll]; exact List.take_left
    · rw [List.flatten_append, f1, f2]
      exact ((hc.take _).mono hI fun _ h => h).append ((hc.drop _).mono hI fun _ h => h)
    · intro r hr'
      rcases List.mem_append.1 hr' with h | h
      · exact hr r (List.mem_of_mem_take h)
      · exact hr r (List.mem_of_mem_drop h)
  obtain ⟨hH', hx'⟩ := Heap.write (w' := w.setRow g (cur.toList.take (i * size) ++ xs.drop (j * size) ++ cur.toList.drop (i * size + (xs.drop (j * size)).length)).toArray) hH (en' := .vec (.slice (some ⟨g, 0, none⟩) (i + (n - j)) (c' + 1)) et size (rows.take i ++ rows.drop j)) hp rfl rfl rfl
    (by simp) (fun b _ hb => setRow_other w g b _ (fun e => hb (by show b ∈ [g]; rw [e]; simp))) (by show ([g] : List Nat).Nodup; simp) (fun b hb => .inl hb) trivial hrep'
  refine wp_value ?_ (k _ _ _ I _ ⟨rfl, rfl⟩ (CRep.lit _ rfl) hH' hx')
  simp only [execOp, ho, resolve, invoke, builtin, Sem.run_bind, Sem.run_pure, Result.andThen_ok, List.map_toArray, List.map_cons, List.map_nil, e1, e2, hrun]

theorem det_clear_behind {et : TypeId} {x : Operand} {size bytes g n cap m c : Nat} {rows : List (List C)} {zs : List Value} (p : Nat) (ho : o.op = .call { callee := .builtin .clear, args := #[x], argTypes := #[t] }) (ht : elemT X.P t = some (et, size, bytes)) (hz : zeroT X.P et = some zs)
    (hx : e x = .c (.lit (.slice (some (if cap = n then ⟨g, 0, none⟩ else ⟨g, n * size, none⟩)) m c))) (hp : nth μ p = some (.vec (.slice (some ⟨g, 0, none⟩) n cap) et size rows)) (hn : n = rows.length) (hm : n + m ≤ cap) (hpos : 0 < cap) :
    Det X o e μ (.tup []) (setN μ p (.vec (.slice (some ⟨g, 0, none⟩) n cap) et size rows)) := by
  intro a w I hH hops K Q k
  have hxv := hops x (by rw [ho]; simp [Op.operands, Call.operands])
  rw [hx] at hxv
  have e1 := hxv.lit_inv
  obtain ⟨hu, inf, z, hinf, hzz, hs, hby, hzs, hsp⟩ := kD ht
  have hone : z.cells.all Value.oneCell' = true := by
    unfold zeroT at hz
    rw [hinf] at hz
    simp only [hzz] at hz
    split at hz
    · assumption
    · cases hz
  have hrep := hH.rep _ (nth_mem hp)
  obtain ⟨c', rfl⟩ : ∃ c', cap = c' + 1 := ⟨cap - 1, by omega⟩
  have hsvb : ∀ m, svB (.slice (some ⟨g, 0, none⟩) m (c' + 1)) = [g] := fun m => rfl
  have hx2 : ∃ xs : List Value, w.ownsRow 0 et size (.slice (some ⟨g, 0, none⟩) n (c' + 1)) rows.length xs ∧ CReps w I rows.flatten xs ∧ ∀ r, r ∈ rows → r.length = size := by
    rcases hrep with ⟨a, h1, _⟩ | ⟨_, h⟩
    · injection h1 with _ _ h1; cases h1
    · exact h
  obtain ⟨xs, hown, hc, hr⟩ := hx2
  obtain ⟨hxl, hcase⟩ := hown
  rcases hcase with ⟨h0, _⟩ | ⟨g', cap', cur, hv, _, hg, hnc, hcm, hcs, htake⟩
  · injection h0 with h0; cases h0
  injection hv with v1 v2 v3
  injection v1 with v1
  injection v1 with v1 _ _
  subst v1 v3
  by_cases h0 : m = 0
  · subst h0
    obtain ⟨hH', hx'⟩ := Heap.write (w' := w) hH (en' := .vec (.slice (some ⟨g, 0, none⟩) n (c' + 1)) et size rows) hp rfl rfl rfl (Nat.le_refl _) (fun _ _ _ => rfl) (by show ([g] : List Nat).Nodup; simp) (fun b hb => .inl hb) trivial hrep
    refine wp_value (v := .tuple #[]) ?_ (k _ _ _ I _ ⟨rfl, rfl⟩ ⟨[], rfl, trivial⟩ hH' hx')
    simp [execOp, ho, resolve, invoke, builtin, e1, Builtin.clear_, run_underlying hu]
  · have hne : ¬ c' + 1 = n := by omega
    rw [if_neg hne] at e1
    have hzl : (Builtin.zeroCells z.cells m).toList.length = m * size := by rw [Array.length_toList]; simp [Builtin.zeroCells, hzs]
    have hz1 : ∀ v ∈ (Builtin.zeroCells z.cells m).toList, v.oneCell' = true := by
      intro v hv
      rw [Array.mem_toList_iff] at hv
      unfold Builtin.zeroCells at hv
      obtain ⟨i, _, rfl⟩ := Array.mem_map.1 hv
      rw [Array.all_eq_true_iff_forall_mem] at hone
      have hlt : i % z.cells.size < z.cells.size := Nat.mod_lt _ (by omega)
      rw [getElem!_pos z.cells _ hlt]
      exact hone _ (Array.getElem_mem hlt)
    have hst := run_storeCells_at X.P g (n * size) et (Builtin.zeroCells z.cells m).toList 0 cur w hg (by rw [hzl, hcs, Nat.add_zero, ← Nat.add_mul]; exact Nat.mul_le_mul_right _ hm) hz1
    simp only [Nat.add_zero] at hst
    obtain ⟨w', hw'⟩ : ∃ w', w' = w.setRow g (cur.toList.take (n * size) ++ (Builtin.zeroCells z.cells m).toList ++ cur.toList.drop (n * size + (Builtin.zeroCells z.cells m).toList.length)).toArray := ⟨_, rfl⟩
    have hI : ∀ b, I b → w'.heap[b]? = w.heap[b]? := fun b hb => by
      rw [hw']; exact setRow_other w g b _ (fun e => (hH.own g (kS (nth_mem hp) (by show g ∈ [g]; simp))).2 (e ▸ hb))
    have hrep' : ERep w' I (.vec (.slice (some ⟨g, 0, none⟩) n (c' + 1)) et size rows) := by
      refine .inr ⟨by rw [hsvb]; simp, xs, ?_, hc.mono hI fun _ h => h, hr⟩
      rw [← hn]
      refine ⟨by rw [hxl, hn], .inr ⟨g, c' + 1, _, rfl, Nat.zero_le _, by rw [hw']; exact setRow_heap w g cur _ et _ hg, by omega, hcm, ?_, ?_⟩⟩
      · have : n * size + m * size ≤ (c' + 1) * size := by rw [← Nat.add_mul]; exact Nat.mul_le_mul_right _ hm
        simp only [List.size_toArray, List.length_append, List.length_take, List.length_drop, hzl]
        rw [Array.length_toList, hcs]
        omega
      · show List.take _ (_ ++ _ ++ _) = _
        rw [List.append_assoc, List.take_append_of_le_length (by rw [List.length_take, Array.length_toList, hcs]; have : n * size ≤ (c' + 1) * size := Nat.mul_le_mul_right _ (by omega); omega), List.take_take, Nat.min_self, hn]
        exact htake
    obtain ⟨hH', hx'⟩ := Heap.write (w' := w') hH (en' := .vec (.slice (some ⟨g, 0, none⟩) n (c' + 1)) et size rows) hp (by rw [hw']; rfl) (by rw [hw']; rfl) (by rw [hw']; rfl) (by rw [hw']; simp)
      (fun b _ hb => by rw [hw']; exact setRow_other w g b _ (fun e => hb (by show b ∈ [g]; rw [e]; simp))) (by show ([g] : List Nat).Nodup; simp) (fun b hb => .inl hb) trivial hrep'
    refine wp_value (v := .tuple #[]) ?_ (k _ _ _ I _ ⟨rfl, rfl⟩ ⟨[], rfl, trivial⟩ hH' hx')
    obtain ⟨m', rfl⟩ : ∃ m', m = m' + 1 := ⟨m - 1, by omega⟩
    rw [hw']
    simp [execOp, ho, resolve, invoke, builtin, e1, Builtin.clear_, run_underlying hu, zeroValue, typeInfo, hinf, hzz, hst]
end
end Go.Eng
end
section
set_option linter.unusedSimpArgs false
set_option linter.unusedVariables false
namespace Go.Eng
open Go Go.RowKit

theorem mem2c_eq {sv : Value} {c : C} {t u : TypeId} {n b : Nat} {rows rows' : List (List C)} {bμ : List E} (h : rows = rows') : E.vec sv t n rows :: E.row b u [c, .lit sv] :: bμ = [E.vec sv t n rows', E.row b u [c, .lit sv]] ++ bμ := by rw [h]; rfl
section
variable {X : Cfg} {o : Oper} {e : Operand → V} {μ : List E} {t ty : TypeId} {x y : Operand} {a b : Nat}
abbrev vUn (n : Nat) : V := .c (.lit (.int .u64 (n : Int)))
theorem kC (ho : o.op = .binOp .and t x y ty) (hx : e x = vUn a) (hy : e y = .c (.lit (.int .u64 4294967295))) (ha : a < 18446744073709551616) : Det X o e μ (vUn (a % 4294967296)) μ :=
  det_bits ho (.inl rfl) hx hy (fun P w => by rw [intBits_and, and_low32 _ (by omega) (by omega)]; rfl) rfl
theorem yR (ho : o.op = .binOp .shr t x y ty) (hx : e x = vUn a) (hy : e y = .c (.lit (.int .u64 32))) : Det X o e μ (vUn (a / 4294967296)) μ := by
  have h := det_shr (X := X) (μ := μ) ho hx hy (by decide)
  have e1 : (a : Int).fdiv (2 ^ (min (32 : Int).toNat IntKind.u64.bits)) = ((a / 4294967296 : Nat) : Int) := by
    rw [show (2 : Int) ^ (min (32 : Int).toNat IntKind.u64.bits) = 4294967296 by decide, Int.fdiv_eq_ediv_of_nonneg _ (by decide)]
    omega
  rw [e1] at h
  exact h
theorem u64_wrap {n : Nat} (h : n < 18446744073709551616) : IntKind.u64.wrap (n : Int) = n := IntWalk.u64_in _ ⟨by omega, by omega⟩
theorem kP (ho : o.op = .binOp .mul t x y ty) (hx : e x = vUn a) (hy : e y = vUn b) (h : a * b < 18446744073709551616) : Det X o e μ (vUn (a * b)) μ := by
  have h1 := det_mul (X := X) (μ := μ) ho hx hy
  rw [← Int.natCast_mul, u64_wrap h] at h1
  exact h1
theorem kF (ho : o.op = .binOp .add t x y ty) (hx : e x = vUn a) (hy : e y = vUn b) (h : a + b < 18446744073709551616) : Det X o e μ (vUn (a + b)) μ := by
  have h1 := det_add (X := X) (μ := μ) ho hx hy
  rw [← Int.natCast_add, u64_wrap h] at h1
  exact h1
theorem det_uaddm (ho : o.op = .binOp .add t x y ty) (hx : e x = vUn a) (hy : e y = vUn b) : Det X o e μ (vUn ((a + b) % 18446744073709551616)) μ := by
  have h1 := det_add (X := X) (μ := μ) ho hx hy
  rw [← Int.natCast_add, show IntKind.u64.wrap ((a + b : Nat) : Int) = (((a + b) % 18446744073709551616 : Nat) : Int) by rw [IntKind.wrap_u64]; omega] at h1
  exact h1
theorem det_umod (ho : o.op = .binOp .mul t x y ty) (hx : e x = vUn a) (hy : e y = vUn b) : Det X o e μ (vUn (a * b % 18446744073709551616)) μ := by
  have h1 := det_mul (X := X) (μ := μ) ho hx hy
  rw [← Int.natCast_mul, show IntKind.u64.wrap ((a * b : Nat) : Int) = ((a * b % 18446744073709551616 : Nat) : Int) by rw [IntKind.wrap_u64]; omega] at h1
  exact h1
theorem det_ushl (ho : o.op = .binOp .shl t x y ty) (hx : e x = vUn a) (hy : e y = .c (.lit (.int .u64 32))) : Det X o e μ (vUn (a * 4294967296 % 18446744073709551616)) μ := by
  have h := det_shl (X := X) (μ := μ) ho hx hy (by decide)
  have e1 : IntKind.u64.wrap ((a : Int) * 2 ^ (min (32 : Int).toNat IntKind.u64.bits)) = ((a * 4294967296 % 18446744073709551616 : Nat) : Int) := by
    rw [show (2 : Int) ^ (min (32 : Int).toNat IntKind.u64.bits) = 4294967296 by decide, IntKind.wrap_u64]
    omega
  rw [e1] at h
  exact h
theorem det_uor (ho : o.op = .binOp .or t x y ty) (hx : e x = vUn (a % 4294967296)) (hy : e y = vUn (b * 4294967296 % 18446744073709551616)) : Det X o e μ (vUn (b % 4294967296 * 4294967296 + a % 4294967296)) μ :=
  det_bits ho (.inr (.inl rfl)) hx hy (fun P w => by
    have e1 : (a % 4294967296) ||| (b * 4294967296 % 18446744073709551616) = b % 4294967296 * 4294967296 + a % 4294967296 := by
      rw [show b * 4294967296 % 18446744073709551616 = 2 ^ 32 * (b % 4294967296) by omega, Nat.or_comm, ← Nat.two_pow_add_eq_or_of_lt (show a % 4294967296 < 2 ^ 32 by omega)]
      omega
    rw [intBits_or, bits_or_u64_nat _ _ (by omega) (by omega), e1]; rfl) rfl
theorem det_uneg (ho : o.op = .unOp .neg t x) (hx : e x = vUn a) (ha : a < 18446744073709551616) : Det X o e μ (vUn ((18446744073709551616 - a) % 18446744073709551616)) μ := by
  have h := det_neg (X := X) (μ := μ) ho hx
  have e1 : IntKind.u64.wrap (-(a : Int)) = (((18446744073709551616 - a) % 18446744073709551616 : Nat) : Int) := by rw [IntKind.wrap_u64]; omega
  rw [e1] at h
  exact h
theorem xor_max {n : Nat} (h : n < 18446744073709551616) : 18446744073709551615 ^^^ n = 18446744073709551615 - n := by
  have h1 := congrArg BitVec.toNat (BitVec.allOnes_xor (x := BitVec.ofNat 64 n))
  rw [BitVec.toNat_xor, BitVec.toNat_not, BitVec.toNat_allOnes, BitVec.toNat_ofNat, Nat.mod_eq_of_lt (by omega)] at h1
  omega
theorem det_unot (ho : o.op = .unOp .xor t x) (hx : e x = vUn a) (ha : a < 18446744073709551616) : Det X o e μ (vUn (18446744073709551615 - a)) μ :=
  yS fun w W I _ hops => by
    have hxv := hops x (by rw [ho]; simp [Op.operands])
    rw [hx] at hxv
    have e1 : bits .xor .u64 (IntKind.u64.max) (a : Int) = ((18446744073709551615 - a : Nat) : Int) := by
      rw [show IntKind.u64.max = ((18446744073709551615 : Nat) : Int) by decide, bits_xor_u64_nat _ _ (by omega) ha, xor_max ha]
    exact ⟨.int .u64 ((18446744073709551615 - a : Nat) : Int), by simp [execOp, ho, hxv.lit_inv, unary_xor, intBits_xor, IntKind.signed, e1], CRep.lit _ rfl⟩
end
end Go.Eng
end
