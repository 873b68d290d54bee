/-
  The engine, part R: an append of a make to the nil slice, cuts of it, capacities, the greatest of four.
  The engine, part S: regions in open order where quiet operations float behind the one that changes memory.
  The engine, part T: cuts of slices that are maps of lists.
  The engine, part U: regions whose order is open, in general: quiet operations, a chain of operations that change memory or make it, and makers of new memory that hang on nothing in the region.
  The engine, part V: make of slices that nobody writes any more.
  The engine, part W: ranges over functions with a ghost; calls that turn an own slice into another.
  The engine, part AA: ranges over functions with a ghost that may be left early.
  The engine: numbers of 64 bits without a sign, as natural numbers.
  Conditions: none.
-/
import Derived.Test.YtnnkemdiknefaaaGreatDoorEngY
import Derived.Lib.AppendZerosOnto
import Derived.Laws.MakeOwn
import Derived.Laws.MathBits
import Derived.Laws.Bits64b
section
set_option linter.unusedSimpArgs false
set_option linter.unusedVariables false
namespace Go.Eng
open Go Go.RowKit Go.Lib

/-- A new row whose cells nobody has looked at. -/
def RowR (et : TypeId) (n : Nat) (_ : World) (_ : Nat → Prop) (o : Obj) : Prop := ∃ cs : Array Value, o = .cells cs et (0, 0) ∧ cs.size = n

theorem Heap.dropL {X : Cfg} {w : World} {I : Nat → Prop} : ∀ {ν μ : List E}, Heap X w I (ν ++ μ) → Heap X w I μ
  | [], _, h => h
  | _ :: _, _, h => Heap.dropL (Heap.tail h)
/-- Memory that only the call knows is forgotten. -/
theorem Con.drop {X : Cfg} {f : FuncId} {args : List V} {μ μ2 : List E} {R : V} (h : Con X f args μ fun r μ' => r = R ∧ ∃ ν, μ' = ν ++ μ2) : Con X f args μ fun r μ' => r = R ∧ μ' = μ2 := by
  intro w I vs hH ha
  refine (h w I vs hH ha).mono ?_
  rintro en w' ⟨v, r, μ', I', h1, ⟨h2, ν, rfl⟩, h4, h5, h6⟩
  exact ⟨v, r, μ2, I', h1, ⟨h2, rfl⟩, h4, Heap.dropL h5, h6.less fun b hb => by rw [blocksOf_append]; exact List.mem_append.2 (.inr hb)⟩
section
variable {X : Cfg} {o : Oper} {e : Operand → V} {μ : List E} {t : TypeId}

end
end Go.Eng
end
section
set_option linter.unusedSimpArgs false
set_option linter.unusedVariables false
namespace Go.Eng
open Go Go.RowKit
section drawq
variable {X : Cfg} {n : Nat} {z : Z} {Q : Exit → S → Prop} {regs : List (Nat × V)} {μ : List E} {l : List Oper} {m : Nat}
end drawq

def P2 (X : Cfg) (n : Nat) (z z1 : Z) (Q : Exit → S → Prop) (regs : List (Nat × V)) (l : List Oper) (s : Nat) (ks : List Kd) (rs1 : List V) (μ1 : List E) : Prop :=
  ∀ (fuel : Nat) (listed : Array Bool) (a : Act) (w : World) (I : Nat → Prop), listed.size = l.length → unl listed = fuel → (∀ i, s + 1 ≤ i → i < l.length → listed.getD i true = false) → Closed l listed → listed.getD s true = true → (∀ i, i < s → (kd ks i).fl = false → listed.getD i true = true) →
    Heap X w I μ1 → (∀ t, VRep w I (valAt (l.take (s + 1)) rs1 (fun i => listed.getD i true) (look regs t) t) (a.tmps.getD t undef)) → Ext z1.w z1.I z1.μ w I μ1 → a.defers = z1.ds → a.tmps.size = n →
    wpAnyIn (fen z.rd) 0 X.P .any l.toArray (liftQ X n z1 Q) fuel listed a w

section drawg
variable {X : Cfg} {n : Nat} {z : Z} {Q : Exit → S → Prop} {regs : List (Nat × V)} {μ : List E} {l : List Oper} {s : Nat} {M : List E → Prop} {ks : List Kd}
end drawg
/-- With the tail's first operations quiet, too: 'e' is where the fixed order begins. -/
def drawChkG (l : List Oper) (s e : Nat) (ks : List Kd) : Bool :=
  drawChk l e && (List.range s).all (fun i => (kd ks i).fl || reach l 40 s i) && lookChk l s ks && Nat.beq ks.length s && Nat.blt s e && Nat.ble e l.length && (List.range e).all (fun i => Nat.ble i s || reach l 40 i s)

end Go.Eng
end
section
set_option linter.unusedSimpArgs false
set_option linter.unusedVariables false
namespace Go.Eng
open Go Go.RowKit Go.Lib
section
variable {X : Cfg} {o : Oper} {e : Operand → V} {μ : List E} {t : TypeId} {α : Type} {f : α → List C} {l : List α}

theorem det_cut_drop {et : TypeId} {size bytes k : Nat} {x lo : Operand} (ho : o.op = .slice t x (some lo) none none) (ht : elemT X.P t = some (et, size, bytes)) (hx : e x = .c (.sl size (l.map f))) (h2 : e lo = .c (.lit (.int .i64 k))) (hk : k ≤ l.length) :
    Det X o e μ (.c (.sl size ((l.drop k).map f))) μ := by
  have h := det_cut_sl (X := X) (μ := μ) k (l.map f).length ho ht hx (show bnd e (some lo) 0 k from ⟨.i64, k, h2, rfl⟩) (show bnd e none _ _ from rfl) (by simpa using hk) (Nat.le_refl _)
  rw [List.take_length, ← List.map_drop] at h
  exact h
end

/-! ## Lending an own slice to a function that only reads -/
def litC : C → Bool
  | .lit _ => true
  | _ => false
def litV1 : V → Bool
  | .c x => litC x
  | .agg l => l.all litC
  | _ => false
def litV : V → Bool
  | .tup l => l.all litV1
  | x => litV1 x
def lends (sv : Value) (size : Nat) (rows : List (List C)) : List V → List V → Prop
  | [], [] => True
  | x :: xs, y :: ys => (x = y ∨ (x = .c (.lit sv) ∧ y = .c (.sl size rows))) ∧ lends sv size rows xs ys
  | _, _ => False
def vlend (sv : Value) (size : Nat) (rows : List (List C)) : List V → List V → Prop
  | [], [] => True
  | x :: xs, y :: ys => ((x = .c (.lit sv) ∧ y = .c (.sl size rows)) ∨ (VLe x y ∧ y.plain = true)) ∧ vlend sv size rows xs ys
  | _, _ => False
end Go.Eng
end
section
set_option linter.unusedSimpArgs false
set_option linter.unusedVariables false
namespace Go.Eng
open Go Go.RowKit

/-- An operation of the open part: quiet (it looks at slots of memory); writing (the slot that it changes or fills, those that it looks at); making new memory. -/
inductive Kx where
  | q (rd : List Nat)
  | e (w : Nat) (rd : List Nat)
  | f (w : Nat)
  | w (w : Nat) (rd : List Nat)
structure It where
  i : Nat
  k : Kx

def upd (ρ : Nat → V) (d : Option Tmp) (v : V) : Nat → V := fun t => if d = some t then v else ρ t
def evF (ρ : Nat → V) (x : Operand) : V := match x with
  | .tmp t => ρ t
  | y => ev [] y
theorem evF_look (regs : List (Nat × V)) : evF (look regs) = ev regs := by
  funext x; cases x <;> rfl
def GDetF (X : Cfg) (n : Nat) (ops : Array Oper) (o : Oper) (ρ : Nat → V) (μ : List E) (r : V) : Prop :=
  ∀ (a : Act) (w : World) (I : Nat → Prop), Heap X w I μ → (∀ t, t ∈ o.looksAt ops → VRep w I (ρ t) (a.tmps.getD t undef)) → a.tmps.size = n →
    ∀ (K : Act → World → Prop) (Q : Exit → Act → World → Prop), (∀ v I' w', VRep w' I' r v → Heap X w' I' μ → Ext w I μ w' I' μ → K (a.put o.dst v) w') →
      if Region.wanted o (yielded ops a.tmps) then OW X.P o a w K Q else K (a.put o.dst undef) w

theorem GDetF.congr {X : Cfg} {n : Nat} {ops : Array Oper} {o : Oper} {ρ ρ' : Nat → V} {μ : List E} {r : V} (h : GDetF X n ops o ρ μ r) (he : ∀ t, t ∈ o.looksAt ops → ρ t = ρ' t) : GDetF X n ops o ρ' μ r :=
  fun a w I hH hR hs => h a w I hH (fun t ht => by rw [he t ht]; exact hR t ht) hs
theorem GDetF.wide {X : Cfg} {n : Nat} {ops : Array Oper} {o : Oper} {ρ : Nat → V} {μ φ ψ : List E} {r : V} (h : GDetF X n ops o ρ μ r) (p : ψ.Perm (μ ++ φ)) : GDetF X n ops o ρ ψ r := by
  intro a w I hH hR hs K Q k
  have hH1 := hH.perm p
  refine h a w I hH1.left hR hs K Q ?_
  intro v I' w' hv hH' hx
  obtain ⟨h6, h7⟩ := hH1.frame hH' hx
  exact k v I' w' hv (h6.perm p.symm) (h7.perm p.symm p.symm)
theorem OpE.wide {X : Cfg} {o : Oper} {e : Operand → V} {μ φ ψ : List E} {R : V → List E → Prop} (h : OpE X o e μ R) (p : ψ.Perm (μ ++ φ)) : OpE X o e ψ fun r μ'' => ∃ μ', R r μ' ∧ μ'' = μ' ++ φ := by
  intro a w I hH hops K Q k
  have hH1 := hH.perm p
  refine h a w I hH1.left hops K Q ?_
  intro v r μ' I' w' hr hv hH' hx
  obtain ⟨h6, h7⟩ := hH1.frame hH' hx
  exact k v r _ I' w' ⟨μ', hr, rfl⟩ hv h6 (h7.perm p.symm (List.Perm.refl _))
theorem OpE.congr {X : Cfg} {o : Oper} {e e' : Operand → V} {μ : List E} {R : V → List E → Prop} (h : OpE X o e μ R) (he : ∀ x, x ∈ o.op.operands → e x = e' x) : OpE X o e' μ R :=
  fun a w I hH hops => h a w I hH fun x hx => by rw [he x hx]; exact hops x hx

/-! ## Slots of memory -/
def slot (m : List (Option E)) (s : Nat) : Option E := (nth m s).join
def fp (m : List (Option E)) (l : List Nat) : List E := l.filterMap (slot m)
def allE (m : List (Option E)) : List E := m.filterMap id
def clr : List (Option E) → List Nat → List (Option E)
  | m, [] => m
  | m, s :: l => clr (m.set s none) l

theorem slot_set_ne {m : List (Option E)} {s t : Nat} {v : Option E} (h : s ≠ t) : slot (m.set s v) t = slot m t := by
  unfold slot; rw [nth_eq, nth_eq, List.getElem?_set_ne h]
theorem fp_set {m : List (Option E)} {s : Nat} {v : Option E} : ∀ {l : List Nat}, s ∉ l → fp (m.set s v) l = fp m l
  | [], _ => rfl
  | t :: l, h => by
    unfold fp
    rw [List.filterMap_cons, List.filterMap_cons, slot_set_ne (fun e => h (by simp [e]))]
    have := fp_set (m := m) (s := s) (v := v) (l := l) (fun e => h (by simp [e]))
    unfold fp at this
    rw [this]
abbrev Rfs := List (Nat × (V → E → Prop))
def rfOf : Rfs → Nat → V → E → Prop
  | [], _ => fun _ _ => False
  | (j, R) :: r, i => bif Nat.beq j i then R else rfOf r i

def dstI (l : List Oper) (i : Nat) : Option Tmp := (nth l i).bind (·.dst)
def SQ (X : Cfg) (n : Nat) (l : List Oper) (F : Rfs) (K : (Nat → V) → List (Option E) → Prop) : List It → (Nat → V) → List (Option E) → Prop
  | [], ρ, m => K ρ m
  | ⟨i, .q rd⟩ :: its, ρ, m => ∃ o, nth l i = some o ∧ rd.Nodup ∧ ∃ r, GDetF X n l.toArray o ρ (fp m rd) r ∧ SQ X n l F K its (upd ρ o.dst r) m
  | ⟨i, .e w rd⟩ :: its, ρ, m => ∃ o, nth l i = some o ∧ o.guard = none ∧ (w < m.length ∧ (w :: rd).Nodup) ∧ ∃ R, OpE X o (evF ρ) (fp m (w :: rd)) R ∧ ∀ r μ', R r μ' → ∃ en, μ' = en :: fp m rd ∧ SQ X n l F K its (upd ρ o.dst r) (m.set w (some en))
  | ⟨i, .f w⟩ :: its, ρ, m => ∀ r en, rfOf F i r en → SQ X n l F K its (upd ρ (dstI l i) r) (m.set w (some en))
  | ⟨i, .w w rd⟩ :: its, ρ, m => ∃ o, nth l i = some o ∧ o.guard = none ∧ (w < m.length ∧ (w :: rd).Nodup) ∧ ∃ r en, OpE X o (evF ρ) (fp m (w :: rd)) (fun r' μ' => r' = r ∧ μ' = en :: fp m rd) ∧ SQ X n l F K its (upd ρ o.dst r) (m.set w (some en))

def looksI (l : List Oper) (i : Nat) : List Tmp := match nth l i with
  | some o => o.looksAt l.toArray
  | none => []
def regFree (l : List Oper) (i j : Nat) : Bool :=
  (looksI l j).all (fun t => !(dstI l i == some t)) && (looksI l i).all (fun t => !(dstI l j == some t)) && ((dstI l i == none) || !(dstI l i == dstI l j))
def Kx.wr : Kx → Option Nat
  | .q _ => none
  | .e v _ => some v
  | .f v => some v
  | .w v _ => some v
def Kx.rds : Kx → List Nat
  | .q rd => rd
  | .e _ rd => rd
  | .f _ => []
  | .w _ rd => rd
def memFree (a b : Kx) : Bool :=
  (match a.wr with | some w => b.rds.all (fun s => !Nat.beq s w) && (match b.wr with | some v => !Nat.beq v w | none => true) | none => true) &&
  (match b.wr with | some w => a.rds.all (fun s => !Nat.beq s w) | none => true)
def kindFree : Kx → Kx → Bool
  | .q _, .q _ => true
  | .q _, .e _ _ => true
  | .q _, .w _ _ => true
  | .w _ _, .q _ => true
  | .w _ _, .e _ _ => true
  | .w _ _, .w _ _ => true
  | _, .f _ => true
  | _, _ => false
def isF : Kx → Bool
  | .f _ => true
  | _ => false
def mayPass (l : List Oper) (a b : It) : Bool := (kindFree a.k b.k && memFree a.k b.k && regFree l a.i b.i) || (!isF b.k && reach l 40 b.i a.i)

theorem regFree_spec {l : List Oper} {i j : Nat} (h : regFree l i j = true) :
    (∀ t, t ∈ looksI l j → dstI l i ≠ some t) ∧ (∀ t, t ∈ looksI l i → dstI l j ≠ some t) ∧ (dstI l i = none ∨ dstI l i ≠ dstI l j) := by
  unfold regFree at h
  simp only [Bool.and_eq_true, List.all_eq_true, Bool.not_eq_true', beq_eq_false_iff_ne, Bool.or_eq_true, beq_iff_eq] at h
  exact ⟨h.1.1, h.1.2, h.2⟩
theorem dstI_eq {l : List Oper} {i : Nat} {o : Oper} (h : nth l i = some o) : dstI l i = o.dst := by unfold dstI; rw [h]; rfl
theorem looksI_eq {l : List Oper} {i : Nat} {o : Oper} (h : nth l i = some o) : looksI l i = o.looksAt l.toArray := by unfold looksI; rw [h]
theorem upd_comm {ρ : Nat → V} {d e : Option Tmp} {u v : V} (h : d = none ∨ d ≠ e) : upd (upd ρ d u) e v = upd (upd ρ e v) d u := by
  funext t
  unfold upd
  by_cases h1 : d = some t
  · by_cases h2 : e = some t
    · rcases h with h | h
      · rw [h] at h1; cases h1
      · exact absurd (h1.trans h2.symm) h
    · simp [h1, h2]
  · by_cases h2 : e = some t
    · simp [h1, h2]
    · simp [h1, h2]
theorem upd_ne {ρ : Nat → V} {d : Option Tmp} {v : V} {t : Nat} (h : d ≠ some t) : upd ρ d v t = ρ t := if_neg h
theorem evF_upd {ops : Array Oper} {ρ : Nat → V} {d : Option Tmp} {v : V} {o : Oper} (h : ∀ t, t ∈ o.looksAt ops → d ≠ some t) : ∀ x, x ∈ o.op.operands → evF (upd ρ d v) x = evF ρ x := by
  intro x hx
  cases x with
  | tmp t => exact upd_ne (h t (looks_op hx))
  | _ => rfl

section
variable {X : Cfg} {n : Nat} {l : List Oper} {F : Rfs} {K : (Nat → V) → List (Option E) → Prop}
theorem SQ.swap {a b : It} {its : List It} {ρ : Nat → V} {m : List (Option E)} (hk : kindFree a.k b.k = true) (hm : memFree a.k b.k = true) (hr : regFree l a.i b.i = true) (h : SQ X n l F K (a :: b :: its) ρ m) : SQ X n l F K (b :: a :: its) ρ m := by
  obtain ⟨i, ka⟩ := a
  obtain ⟨j, kb⟩ := b
  simp only at hk hm hr
  obtain ⟨f1, f2, f3⟩ := regFree_spec hr
  cases ka with
  | q rd =>
    obtain ⟨o, ho, hn1, r, hG, h⟩ := h
    rw [looksI_eq ho] at f2
    rw [dstI_eq ho] at f1 f3
    cases kb with
    | q rd2 =>
      obtain ⟨o2, ho2, hn2, r2, hG2, h⟩ := h
      rw [looksI_eq ho2] at f1
      rw [dstI_eq ho2] at f2 f3
      refine ⟨o2, ho2, hn2, r2, hG2.congr fun t ht => upd_ne (f1 t ht), o, ho, hn1, r, hG.congr fun t ht => (upd_ne (f2 t ht)).symm, ?_⟩
      rw [← upd_comm f3]; exact h
    | e w rd2 =>
      obtain ⟨o2, ho2, hg2, hw2, R, hO, h⟩ := h
      rw [looksI_eq ho2] at f1
      rw [dstI_eq ho2] at f2 f3
      simp only [memFree, Kx.wr, Kx.rds, Bool.true_and, List.all_eq_true, Bool.not_eq_true'] at hm
      refine ⟨o2, ho2, hg2, hw2, R, hO.congr fun x hx => evF_upd f1 x hx, fun r2 μ' hrr => ?_⟩
      obtain ⟨en, he, h⟩ := h r2 μ' hrr
      have hn : w ∉ rd := fun hin => by have := hm w hin; rw [Nat.beq_refl] at this; cases this
      refine ⟨en, he, o, ho, hn1, r, ?_, ?_⟩
      · rw [fp_set hn]; exact hG.congr fun t ht => (upd_ne (f2 t ht)).symm
      · rw [← upd_comm f3]; exact h
    | f w =>
      simp only [memFree, Kx.wr, Kx.rds, Bool.true_and, List.all_eq_true, Bool.not_eq_true'] at hm
      have hn : w ∉ rd := fun hin => by have := hm w hin; rw [Nat.beq_refl] at this; cases this
      refine fun r2 en hrr => ⟨o, ho, hn1, r, ?_, ?_⟩
      · rw [fp_set hn]; exact hG.congr fun t ht => (upd_ne (f2 t ht)).symm
      · rw [← upd_comm f3]; exact h r2 en hrr
    | w w rd2 =>
      obtain ⟨o2, ho2, hg2, hw2, r2, en, hO, h⟩ := h
      rw [looksI_eq ho2] at f1
      rw [dstI_eq ho2] at f2 f3
      simp only [memFree, Kx.wr, Kx.rds, Bool.true_and, List.all_eq_true, Bool.not_eq_true'] at hm
      have hn : w ∉ rd := fun hin => by have := hm w hin; rw [Nat.beq_refl] at this; cases this
      refine ⟨o2, ho2, hg2, hw2, r2, en, hO.congr fun x hx => evF_upd f1 x hx, o, ho, hn1, r, ?_, ?_⟩
      · rw [fp_set hn]; exact hG.congr fun t ht => (upd_ne (f2 t ht)).symm
      · rw [← upd_comm f3]; exact h
  | w w rd =>
    obtain ⟨o, ho, hg, hw, r, en, hO, h⟩ := h
    rw [looksI_eq ho] at f2
    rw [dstI_eq ho] at f1 f3
    cases kb with
    | q rd2 =>
      obtain ⟨o2, ho2, hn2, r2, hG2, h⟩ := h
      rw [looksI_eq ho2] at f1
      rw [dstI_eq ho2] at f2 f3
      simp only [memFree, Kx.wr, Kx.rds, Bool.and_true, List.all_eq_true, Bool.not_eq_true'] at hm
      have hn : w ∉ rd2 := fun hin => by have := hm w hin; rw [Nat.beq_refl] at this; cases this
      rw [fp_set hn] at hG2
      refine ⟨o2, ho2, hn2, r2, hG2.congr fun t ht => upd_ne (f1 t ht), o, ho, hg, hw, r, en, hO.congr fun x hx => (evF_upd f2 x hx).symm, ?_⟩
      rw [← upd_comm f3]; exact h
    | e w2 rd2 =>
      obtain ⟨o2, ho2, hg2, hw2, R, hO2, h⟩ := h
      rw [looksI_eq ho2] at f1
      rw [dstI_eq ho2] at f2 f3
      simp only [memFree, Kx.wr, Kx.rds, Bool.and_eq_true, List.all_eq_true, Bool.not_eq_true'] at hm
      have hne : w2 ≠ w := fun e => by rw [e, Nat.beq_refl] at hm; cases hm.1.2
      have hn : w ∉ rd2 := fun hin => by have := hm.1.1 w hin; rw [Nat.beq_refl] at this; cases this
      have hn' : w2 ∉ rd := fun hin => by have := hm.2 w2 hin; rw [Nat.beq_refl] at this; cases this
      have hn2 : w ∉ w2 :: rd2 := fun hin => by rcases List.mem_cons.1 hin with e | e; exact hne e.symm; exact hn e
      have hn2' : w2 ∉ w :: rd := fun hin => by rcases List.mem_cons.1 hin with e | e; exact hne e; exact hn' e
      rw [fp_set hn2] at hO2
      refine ⟨o2, ho2, hg2, ⟨by simpa using hw2.1, hw2.2⟩, R, hO2.congr fun x hx => evF_upd f1 x hx, fun r2 μ' hrr => ?_⟩
      obtain ⟨en2, he, h⟩ := h r2 μ' hrr
      rw [fp_set hn] at he
      refine ⟨en2, he, o, ho, hg, ⟨by simpa using hw.1, hw.2⟩, r, en, ?_, ?_⟩
      · rw [fp_set hn2', fp_set hn']; exact hO.congr fun x hx => (evF_upd f2 x hx).symm
      · rw [← upd_comm f3, List.set_comm _ _ hne]; exact h
    | w w2 rd2 =>
      obtain ⟨o2, ho2, hg2, hw2, r2, en2, hO2, h⟩ := h
      rw [looksI_eq ho2] at f1
      rw [dstI_eq ho2] at f2 f3
      simp only [memFree, Kx.wr, Kx.rds, Bool.and_eq_true, List.all_eq_true, Bool.not_eq_true'] at hm
      have hne : w2 ≠ w := fun e => by rw [e, Nat.beq_refl] at hm; cases hm.1.2
      have hn : w ∉ rd2 := fun hin => by have := hm.1.1 w hin; rw [Nat.beq_refl] at this; cases this
      have hn' : w2 ∉ rd := fun hin => by have := hm.2 w2 hin; rw [Nat.beq_refl] at this; cases this
      have hn2 : w ∉ w2 :: rd2 := fun hin => by rcases List.mem_cons.1 hin with e | e; exact hne e.symm; exact hn e
      have hn2' : w2 ∉ w :: rd := fun hin => by rcases List.mem_cons.1 hin with e | e; exact hne e; exact hn' e
      rw [fp_set hn2, fp_set hn] at hO2
      refine ⟨o2, ho2, hg2, ⟨by simpa using hw2.1, hw2.2⟩, r2, en2, hO2.congr fun x hx => evF_upd f1 x hx, o, ho, hg, ⟨by simpa using hw.1, hw.2⟩, r, en, ?_, ?_⟩
      · rw [fp_set hn2', fp_set hn']; exact hO.congr fun x hx => (evF_upd f2 x hx).symm
      · rw [← upd_comm f3, List.set_comm _ _ hne]; exact h
    | f w2 =>
      simp only [memFree, Kx.wr, Kx.rds, List.all_nil, Bool.true_and, Bool.and_eq_true, List.all_eq_true, Bool.not_eq_true'] at hm
      have hne : w2 ≠ w := fun e => by rw [e, Nat.beq_refl] at hm; cases hm.1
      have hn : w2 ∉ rd := fun hin => by have := hm.2 w2 hin; rw [Nat.beq_refl] at this; cases this
      have hn2 : w2 ∉ w :: rd := fun hin => by rcases List.mem_cons.1 hin with e | e; exact hne e; exact hn e
      refine fun r2 en2 hrr2 => ⟨o, ho, hg, ⟨by simpa using hw.1, hw.2⟩, r, en, ?_, ?_⟩
      · rw [fp_set hn2, fp_set hn]; exact hO.congr fun x hx => (evF_upd f2 x hx).symm
      · rw [← upd_comm f3, List.set_comm _ _ hne]
        exact h r2 en2 hrr2
  | e w rd =>
    cases kb with
    | q rd2 => cases hk
    | e w2 rd2 => cases hk
    | w w2 rd2 => cases hk
    | f w2 =>
      obtain ⟨o, ho, hg, hw, R, hO, h⟩ := h
      rw [looksI_eq ho] at f2
      rw [dstI_eq ho] at f1 f3
      simp only [memFree, Kx.wr, Kx.rds, List.all_nil, Bool.true_and, Bool.and_eq_true, List.all_eq_true, Bool.not_eq_true'] at hm
      have hne : w2 ≠ w := fun e => by rw [e, Nat.beq_refl] at hm; cases hm.1
      have hn : w2 ∉ rd := fun hin => by have := hm.2 w2 hin; rw [Nat.beq_refl] at this; cases this
      have hn2 : w2 ∉ w :: rd := fun hin => by rcases List.mem_cons.1 hin with e | e; exact hne e; exact hn e
      refine fun r2 en2 hrr2 => ⟨o, ho, hg, ⟨by simpa using hw.1, hw.2⟩, R, ?_, fun r μ' hrr => ?_⟩
      · rw [fp_set hn2]; exact hO.congr fun x hx => (evF_upd f2 x hx).symm
      · obtain ⟨en, he, h⟩ := h r μ' hrr
        refine ⟨en, by rw [fp_set hn]; exact he, ?_⟩
        rw [← upd_comm f3, List.set_comm _ _ hne]
        exact h r2 en2 hrr2
  | f w =>
    cases kb with
    | q rd2 => cases hk
    | e w2 rd2 => cases hk
    | w w2 rd2 => cases hk
    | f w2 =>
      simp only [memFree, Kx.wr, Kx.rds, List.all_nil, Bool.true_and, Bool.and_true, Bool.not_eq_true'] at hm
      have hne : w2 ≠ w := fun e => by rw [e, Nat.beq_refl] at hm; cases hm
      refine fun r2 en2 hrr2 r en hrr => ?_
      rw [← upd_comm f3, List.set_comm _ _ hne]
      exact h r en hrr r2 en2 hrr2

/-- What makes new memory looks at nothing that the region writes. -/
def fresh1 (l : List Oper) (s : Nat) (it : It) : Bool := !isF it.k || ((looksI l it.i).all fun t => (List.range s).all fun j => !(dstI l j == some t)) && (nth l it.i).any fun o => o.guard == none
def FreshAt (X : Cfg) (l : List Oper) (F : Rfs) (ρ0 : Nat → V) (its : List It) : Prop := ∀ i w, (⟨i, .f w⟩ : It) ∈ its → ∃ o, nth l i = some o ∧ o.guard = none ∧ Fresh X o (evF ρ0) (rfOf F i)
def pairsOk (l : List Oper) : List It → Bool
  | [] => true
  | a :: r => r.all (mayPass l a) && pairsOk l r
def endK (X : Cfg) (n : Nat) (z : Z) (l : List Oper) (s : Nat) (Q : Exit → S → Prop) (ρ : Nat → V) (m : List (Option E)) : Prop := ∃ regs, ρ = look regs ∧ RWP X n z l.toArray (l.drop s) Q ⟨regs, allE m⟩
end

section draw
variable {X : Cfg} {n : Nat} {z : Z} {Q : Exit → S → Prop} {l : List Oper} {s : Nat} {F : Rfs}
/-- The operations in the order of the derivation: each of the first s once. -/
def nodupN : List Nat → Bool
  | [] => true
  | a :: r => r.all (fun b => !Nat.beq a b) && nodupN r
def itsOk (l : List Oper) (s : Nat) (its : List It) : Bool :=
  its.all (fun it => Nat.blt it.i s) && (List.range s).all (fun i => (its.map It.i).contains i) && nodupN (its.map It.i) && pairsOk l its && its.all (fresh1 l s)
def FX (X : Cfg) (l : List Oper) (regs : List (Nat × V)) : List It → Rfs → (Rfs → Prop) → Prop
  | [], F, K => K F
  | ⟨i, .f _⟩ :: its, F, K => ∃ o, nth l i = some o ∧ o.guard = none ∧ ∃ Rf, Fresh X o (ev regs) Rf ∧ FX X l regs its (F ++ [(i, Rf)]) K
  | _ :: its, F, K => FX X l regs its F K
theorem rfOf_app {F : Rfs} {i : Nat} {G : Rfs} (h : i ∈ F.map Prod.fst) : rfOf (F ++ G) i = rfOf F i := by
  induction F with
  | nil => cases h
  | cons a F ih =>
    obtain ⟨j, R⟩ := a
    show (bif Nat.beq j i then R else rfOf (F ++ G) i) = bif Nat.beq j i then R else rfOf F i
    cases hb : Nat.beq j i with
    | true => rfl
    | false =>
      simp only [cond_false]
      refine ih ?_
      rcases List.mem_cons.1 h with h | h
      · rw [h] at hb; simp [Nat.beq_refl] at hb
      · exact h
theorem rfOf_new {F : Rfs} {i : Nat} {R : V → E → Prop} (h : i ∉ F.map Prod.fst) : rfOf (F ++ [(i, R)]) i = R := by
  induction F with
  | nil => show (bif Nat.beq i i then R else _) = R; rw [Nat.beq_refl]; rfl
  | cons a F ih =>
    obtain ⟨j, R'⟩ := a
    show (bif Nat.beq j i then R' else rfOf (F ++ [(i, R)]) i) = R
    cases hb : Nat.beq j i with
    | true => exact absurd (Nat.eq_of_beq_eq_true hb).symm (fun e => h (by simp [e]))
    | false => exact ih fun e => h (by simp [e])
theorem FX.parts {X : Cfg} {l : List Oper} {regs : List (Nat × V)} {K : Rfs → Prop} : ∀ {its : List It} {F : Rfs}, (its.map It.i).Nodup → (∀ it, it ∈ its → it.i ∉ F.map Prod.fst) → FX X l regs its F K → ∃ G, FreshAt X l (F ++ G) (look regs) its ∧ K (F ++ G) ∧ ∀ i, i ∈ G.map Prod.fst → i ∈ its.map It.i
  | [], F, _, _, h => ⟨[], fun i w hi => (by cases hi), by rw [List.append_nil]; exact h, fun i hi => (by cases hi)⟩
  | ⟨i, .q rd⟩ :: its, F, hn, hd, h => by
    obtain ⟨G, h1, h2, h3⟩ := FX.parts (its := its) (List.nodup_cons.1 hn).2 (fun it hit => hd it (by simp [hit])) h
    refine ⟨G, fun j w hj => ?_, h2, fun j hj => List.mem_cons_of_mem _ (h3 j hj)⟩
    rcases List.mem_cons.1 hj with e | e
    · injection e with e1 e2; cases e2
    · exact h1 j w e
  | ⟨i, .e w0 rd⟩ :: its, F, hn, hd, h => by
    obtain ⟨G, h1, h2, h3⟩ := FX.parts (its := its) (List.nodup_cons.1 hn).2 (fun it hit => hd it (by simp [hit])) h
    refine ⟨G, fun j w hj => ?_, h2, fun j hj => List.mem_cons_of_mem _ (h3 j hj)⟩
    rcases List.mem_cons.1 hj with e | e
    · injection e with e1 e2; cases e2
    · exact h1 j w e
  | ⟨i, .w w0 rd⟩ :: its, F, hn, hd, h => by
    obtain ⟨G, h1, h2, h3⟩ := FX.parts (its := its) (List.nodup_cons.1 hn).2 (fun it hit => hd it (by simp [hit])) h
    refine ⟨G, fun j w hj => ?_, h2, fun j hj => List.mem_cons_of_mem _ (h3 j hj)⟩
    rcases List.mem_cons.1 hj with e | e
    · injection e with e1 e2; cases e2
    · exact h1 j w e
  | ⟨i, .f w0⟩ :: its, F, hn, hd, h => by
    obtain ⟨o, ho, hg, Rf, hF, h⟩ := h
    have hi := hd ⟨i, .f w0⟩ (by simp)
    obtain ⟨G, h1, h2, h3⟩ := FX.parts (its := its) (List.nodup_cons.1 hn).2 (fun it hit e => by
      rw [List.map_append] at e
      rcases List.mem_append.1 e with e | e
      · exact hd it (by simp [hit]) e
      · have e2 : it.i = i := by simpa using e
        exact (List.nodup_cons.1 hn).1 (by show i ∈ its.map It.i; rw [← e2]; exact List.mem_map_of_mem hit)) h
    refine ⟨(i, Rf) :: G, fun j w hj => ?_, by simpa using h2, fun j hj => ?_⟩
    · have e0 : F ++ (i, Rf) :: G = F ++ [(i, Rf)] ++ G := by simp
      rcases List.mem_cons.1 hj with e | e
      · injection e with e1 e2
        subst e1
        refine ⟨o, ho, hg, ?_⟩
        rw [e0, rfOf_app (by simp), rfOf_new hi, evF_look]; exact hF
      · rw [e0]; exact h1 j w e
    · rcases List.mem_cons.1 hj with e | e
      · simp [e]
      · exact List.mem_cons_of_mem _ (h3 j e)

end draw

/-! ## Steps of a derivation -/
section rules
variable {X : Cfg} {n : Nat} {z : Z} {Q : Exit → S → Prop} {l : List Oper} {s : Nat} {F : Rfs} {K : (Nat → V) → List (Option E) → Prop} {its : List It} {o : Oper} {regs : List (Nat × V)} {m : List (Option E)} {i : Nat} {rd : List Nat}
end rules
end Go.Eng
end
section
set_option linter.unusedSimpArgs false
set_option linter.unusedVariables false
namespace Go.Eng
open Go Go.RowKit

section
variable {X : Cfg} {o : Oper} {e : Operand → V} {μ : List E} {t : TypeId}
end
end Go.Eng
end
section
set_option linter.unusedSimpArgs false
set_option linter.unusedVariables false
namespace Go.Eng
open Go Go.RowKit

def roundG {α G : Type} (inv : List α → G → Prop) (hμ : List α → G → List E) (bμ : List E) (pre : List α) : Exit → S → Prop
  | .normal, τ => ∃ g, inv pre g ∧ τ.μ = hμ pre g ++ bμ
  | _, _ => False

theorem awp_range_g {α : Type} {X : Cfg} {n : Nat} {z : Z} (hz : RdOk z) {Q : Exit → S → Prop} {regs : List (Nat × V)} {μ bμ : List E} {g : Operand} {ps : List Tmp} {assign body : Code} {gf : FuncId} {first cap : List C} (G : Type) (kμ : Nat) (_hm : dropN kμ μ = some bμ)
    (hg : ev regs g = .c (.fn (.func gf) first cap)) (hgf : callOk X.P gf = true) {xs : List α} {enc : α → List V} (hit : Iter X gf first cap xs enc) (hps : ∀ x, x ∈ xs → ps.length = (enc x).length) (hpn : ps.all (fun t => Nat.blt t n) = true)
    (inv : List α → G → Prop) (hμ : List α → G → List E) (h0 : ∃ gh, inv [] gh ∧ μ = hμ [] gh ++ bμ)
    (hround : ∀ pre x suf gh, xs = pre ++ x :: suf → inv pre gh → ∀ z, RdOk z → AWP X n z assign (thenQ (fun τ => ∀ z, RdOk z → AWP X n z body (fun e σ => ∃ τ', Weak σ τ' ∧ roundG inv hμ bμ (pre ++ [x]) e τ') τ) fun _ _ => False) ⟨psetR ps (enc x) regs, hμ pre gh ++ bμ⟩)
    (hdone : ∀ gh, inv xs gh → Q .normal ⟨regs, hμ xs gh ++ bμ⟩) :
    AWP X n z (.rangeFunc g ps.toArray assign body) Q ⟨regs, μ⟩ := by
  refine awp_rangeFunc hz hg hgf hit hps hpn (fun pre μ' => ∃ gh, inv pre gh ∧ μ' = hμ pre gh ++ bμ) (fun _ _ _ => False) h0 ?_ ?_ ?_ ?_
  · rintro l pre x suf μ' hxs ⟨gh, hi, rfl⟩ z1 hz1 _ _
    refine awp_mono (hround pre x suf gh hxs hi z1 hz1) ?_
    intro e σ q
    cases e with
    | normal =>
      intro z2 hz2 _ _
      refine awp_mono (awp_wk (Q := roundG inv hμ bμ (pre ++ [x])) (q z2 hz2)) ?_
      intro e τ k
      cases e <;> exact k
    | _ => exact q
  · rintro μ' ⟨gh, hi, rfl⟩; exact hdone gh hi
  · rintro pre x suf μ' hxs h; exact h.elim
  · rintro i pre x suf μ' hxs h; exact h.elim

/-- An own slice and the variable that holds it. -/
theorem mem2_eq {sv : Value} {t u : TypeId} {n b : Nat} {rows rows' : List (List C)} {bμ : List E} (h : rows = rows') : E.vec sv t n rows :: E.row b u [.lit sv] :: bμ = [E.vec sv t n rows', E.row b u [.lit sv]] ++ bμ := by rw [h]; rfl

section
variable {X : Cfg} {o : Oper} {e : Operand → V} {μ : List E}
theorem ope_call_vec {f : FuncId} {arg_ : List Operand} {ts : Array TypeId} {args : List V} {en : E} {t : TypeId} {size : Nat} {rows : List (List C)} (p : Nat) (hp : nth μ p = some en) (ho : o.op = .call { callee := .value (.func f), args := arg_.toArray, argTypes := ts }) (hf : callOk X.P f = true)
    (hc : Con X f args [en] fun r μ' => ∃ sv', r = .c (.lit sv') ∧ μ' = [.vec sv' t size rows]) (ha : vles (arg_.map e) args) : OpE X o e μ fun r μ' => ∃ sv', r = .c (.lit sv') ∧ μ' = setN μ p (.vec sv' t size rows) := by
  have h1 : OpE X o e (en :: delN μ p) fun r μ' => ∃ sv', r = .c (.lit sv') ∧ μ' = .vec sv' t size rows :: delN μ p :=
    (ope_call ho hf (hc.frame (delN μ p)) ha).mono fun r μ' ⟨μ1, ⟨sv', h1, h2⟩, h3⟩ => ⟨sv', h1, by rw [h3, h2]; rfl⟩
  intro a w I hH hops K Q k
  refine h1 a w I (hH.perm (nth_perm hp)) hops K Q ?_
  rintro v r μ' I' w' ⟨sv', rfl, rfl⟩ hv hH' hx
  have ps := setN_perm (.vec sv' t size rows) hp
  exact k v _ _ I' w' ⟨sv', rfl, rfl⟩ hv (hH'.perm ps.symm) (hx.perm (nth_perm hp).symm ps.symm)
end
end Go.Eng
end
section
set_option linter.unusedSimpArgs false
set_option linter.unusedVariables false
namespace Go.Eng
open Go Go.RowKit

def roundGX {α G : Type} (inv : List α → G → Prop) (hμ : List α → G → List E) (invx : Code → List α → G → Prop) (hμx : Code → List α → G → List E) (bμ : List E) (pre : List α) : Exit → S → Prop
  | .normal, τ => ∃ g, inv pre g ∧ τ.μ = hμ pre g ++ bμ
  | .ret, τ => ∃ g, invx .ret pre g ∧ τ.μ = hμx .ret pre g ++ bμ
  | .exit i, τ => ∃ g, invx (.exit i) pre g ∧ τ.μ = hμx (.exit i) pre g ++ bμ
  | _, _ => False

end Go.Eng
end
section
set_option linter.unusedSimpArgs false
set_option linter.unusedVariables false
namespace Go.Eng
open Go Go.RowKit

theorem mem2c_eq {sv : Value} {c : C} {t u : TypeId} {n b : Nat} {rows rows' : List (List C)} {bμ : List E} (h : rows = rows') : E.vec sv t n rows :: E.row b u [c, .lit sv] :: bμ = [E.vec sv t n rows', E.row b u [c, .lit sv]] ++ bμ := by rw [h]; rfl
section
variable {X : Cfg} {o : Oper} {e : Operand → V} {μ : List E} {t ty : TypeId} {x y : Operand} {a b : Nat}
abbrev vUn (n : Nat) : V := .c (.lit (.int .u64 (n : Int)))
theorem det_uand (ho : o.op = .binOp .and t x y ty) (hx : e x = vUn a) (hy : e y = .c (.lit (.int .u64 4294967295))) (ha : a < 18446744073709551616) : Det X o e μ (vUn (a % 4294967296)) μ :=
  det_bits ho (.inl rfl) hx hy (fun P w => by rw [intBits_and, and_low32 _ (by omega) (by omega)]; rfl) rfl
theorem det_ushr (ho : o.op = .binOp .shr t x y ty) (hx : e x = vUn a) (hy : e y = .c (.lit (.int .u64 32))) : Det X o e μ (vUn (a / 4294967296)) μ := by
  have h := det_shr (X := X) (μ := μ) ho hx hy (by decide)
  have e1 : (a : Int).fdiv (2 ^ (min (32 : Int).toNat IntKind.u64.bits)) = ((a / 4294967296 : Nat) : Int) := by
    rw [show (2 : Int) ^ (min (32 : Int).toNat IntKind.u64.bits) = 4294967296 by decide, Int.fdiv_eq_ediv_of_nonneg _ (by decide)]
    omega
  rw [e1] at h
  exact h
theorem u64_wrap {n : Nat} (h : n < 18446744073709551616) : IntKind.u64.wrap (n : Int) = n := IntWalk.u64_in _ ⟨by omega, by omega⟩
theorem det_umul (ho : o.op = .binOp .mul t x y ty) (hx : e x = vUn a) (hy : e y = vUn b) (h : a * b < 18446744073709551616) : Det X o e μ (vUn (a * b)) μ := by
  have h1 := det_mul (X := X) (μ := μ) ho hx hy
  rw [← Int.natCast_mul, u64_wrap h] at h1
  exact h1
theorem det_uadd (ho : o.op = .binOp .add t x y ty) (hx : e x = vUn a) (hy : e y = vUn b) (h : a + b < 18446744073709551616) : Det X o e μ (vUn (a + b)) μ := by
  have h1 := det_add (X := X) (μ := μ) ho hx hy
  rw [← Int.natCast_add, u64_wrap h] at h1
  exact h1
theorem det_umod (ho : o.op = .binOp .mul t x y ty) (hx : e x = vUn a) (hy : e y = vUn b) : Det X o e μ (vUn (a * b % 18446744073709551616)) μ := by
  have h1 := det_mul (X := X) (μ := μ) ho hx hy
  rw [← Int.natCast_mul, show IntKind.u64.wrap ((a * b : Nat) : Int) = ((a * b % 18446744073709551616 : Nat) : Int) by rw [IntKind.wrap_u64]; omega] at h1
  exact h1
end
end Go.Eng
end
