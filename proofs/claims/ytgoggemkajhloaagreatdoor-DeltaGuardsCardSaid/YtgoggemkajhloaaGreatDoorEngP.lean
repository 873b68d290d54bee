/-
  The engine, part P: regions whose order is open, with operations among them that make new memory, and one that changes memory.
  Conditions: none; plain definitions and theorems over any program.
-/
import Derived.Test.YtgoggemkajhloaaGreatDoorEngO
set_option linter.unusedSimpArgs false
set_option linter.unusedVariables false
namespace Go.Eng
open Go Go.RowKit

/-- Quiet; quiet in every memory of M; making new memory. -/
inductive Kd where
  | q
  | u
  | f

def Kd.fr : Kd → Bool
  | .f => true
  | _ => false
def Kd.fl : Kd → Bool
  | .u => true
  | _ => false
def kd (ks : List Kd) (i : Nat) : Kd := ks.getD i .q

/-- One entry more, wherever. -/
def Fresh (X : Cfg) (o : Oper) (e : Operand → V) (Rf : V → E → Prop) : Prop := OpE X o e [] fun r μ' => ∃ en, Rf r en ∧ μ' = [en]

/-- The quiet operations, in the order of the text. -/
def TDq (X : Cfg) (n : Nat) (ops : Array Oper) (M : List E → Prop) (μ : List E) : List Oper → List Kd → List (Nat × V) → (List (Nat × V) → Prop) → Prop
  | [], _, regs, K => K regs
  | _ :: rest, .f :: ks, regs, K => TDq X n ops M μ rest ks regs K
  | o :: rest, .q :: ks, regs, K => ∃ r, GDet X n ops o regs μ r ∧ TDq X n ops M μ rest ks (putR o.dst r regs) K
  | o :: rest, .u :: ks, regs, K => ∃ r, (GDet X n ops o regs μ r ∧ ∀ μ', M μ' → GDet X n ops o regs μ' r) ∧ TDq X n ops M μ rest ks (putR o.dst r regs) K
  | _ :: _, [], _, _ => False

/-- Those that make new memory. -/
def TDf (X : Cfg) (regs : List (Nat × V)) : List Oper → List Kd → List (Option Tmp × (V → E → Prop)) → (List (Option Tmp × (V → E → Prop)) → Prop) → Prop
  | [], _, acc, K => K acc
  | o :: rest, .f :: ks, acc, K => ∃ Rf, Fresh X o (ev regs) Rf ∧ TDf X regs rest ks (acc ++ [(o.dst, Rf)]) K
  | _ :: rest, _ :: ks, acc, K => TDf X regs rest ks acc K
  | _ :: _, [], _, _ => False

def AllCh : List (Option Tmp × (V → E → Prop)) → List (Nat × V) → List E → (List (Nat × V) → List E → Prop) → Prop
  | [], regs, ν, K => K regs ν
  | (d, Rf) :: acc, regs, ν, K => ∀ v en, Rf v en → AllCh acc (putR d v regs) (en :: ν) K

/-! ### what they leave in the registers -/
def putsQ : List Oper → List Kd → List V → List (Nat × V) → List (Nat × V)
  | o :: l, k :: ks, r :: rs, regs => putsQ l ks rs (bif k.fr then regs else putR o.dst r regs)
  | _, _, _, regs => regs
def putsF : List Oper → List Kd → List V → List (Nat × V) → List (Nat × V)
  | o :: l, k :: ks, r :: rs, regs => putsF l ks rs (bif k.fr then putR o.dst r regs else regs)
  | _, _, _, regs => regs
def entsF : List Kd → List E → List E → List E
  | k :: ks, en :: es, ν => entsF ks es (bif k.fr then en :: ν else ν)
  | _, _, ν => ν

theorem look_put1 {o : Oper} {r : V} {regs : List (Nat × V)} {t : Nat} : look (putR o.dst r regs) t = if o.dst = some t then r else look regs t := by
  cases hd : o.dst with
  | none => simp [putR]
  | some d =>
    simp only [putR]
    rw [look_putR]
    by_cases h : d = t <;> simp [h]

theorem look_putsQ {t : Nat} : ∀ {l : List Oper} {ks : List Kd} {rs : List V} {regs : List (Nat × V)} (i : Nat), ks.length = l.length → look (putsQ (l.take i) (ks.take i) (rs.take i) regs) t = valAt l rs (fun j => decide (j < i) && !(kd ks j).fr) (look regs t) t
  | [], _, _, _, i, _ => by simp [putsQ, valAt]
  | _ :: _, [], _, _, i, h => by simp at h
  | _ :: _, _ :: _, [], _, i, _ => by cases i <;> simp [putsQ, valAt]
  | o :: l, k :: ks, r :: rs, regs, 0, _ => by
    simp only [List.take_zero, putsQ, valAt]
    rw [if_neg (by simp)]
    exact (valAt_none fun i o' _ hf => by simp at hf).symm
  | o :: l, k :: ks, r :: rs, regs, i + 1, h => by
    simp only [List.take_succ_cons, putsQ, valAt]
    rw [look_putsQ i (by simpa using h)]
    have e : look (bif k.fr then regs else putR o.dst r regs) t = if ((decide (0 < i + 1) && !(kd (k :: ks) 0).fr) = true ∧ o.dst = some t) then r else look regs t := by
      simp only [kd, List.getD_cons_zero]
      cases k.fr
      · simp only [cond_false]; rw [look_put1]; simp
      · simp
    rw [e]
    congr 1
    funext j
    simp [kd]

theorem look_putsF {t : Nat} : ∀ {l : List Oper} {ks : List Kd} {rs : List V} {regs : List (Nat × V)}, ks.length = l.length → look (putsF l ks rs regs) t = valAt l rs (fun j => (kd ks j).fr) (look regs t) t
  | [], _, _, _, _ => by simp [putsF, valAt]
  | _ :: _, [], _, _, h => by simp at h
  | _ :: _, _ :: _, [], _, _ => by simp [putsF, valAt]
  | o :: l, k :: ks, r :: rs, regs, h => by
    simp only [putsF, valAt]
    rw [look_putsF (by simpa using h)]
    have e : look (bif k.fr then putR o.dst r regs else regs) t = if ((kd (k :: ks) 0).fr = true ∧ o.dst = some t) then r else look regs t := by
      simp only [kd, List.getD_cons_zero]
      cases k.fr
      · simp
      · simp only [cond_true]; rw [look_put1]; simp
    rw [e]
    congr 1

/-- Registers have one writer each. -/
def OneW (l : List Oper) : Prop := ∀ (i : Nat) o, l[i]? = some o → ∀ (j : Nat) o', l[j]? = some o' → j ≠ i → o.dst ≠ none → o'.dst ≠ o.dst

theorem valAt_of {l : List Oper} {rs : List V} {f : Nat → Bool} {d : V} {t i : Nat} {o : Oper} {r : V} (h1 : OneW l) (ho : l[i]? = some o) (hr : rs[i]? = some r) (hf : f i = true) (hd : o.dst = some t) : valAt l rs f d t = r := by
  have := valAt_step (t := t) (l := l) (rs := rs) (f := f) (d := d) ho hr (fun j o' hj hne hnn => h1 i o ho j o' hj hne hnn)
  rw [if_pos hd] at this
  rw [← this]
  exact valAt_congr fun j oj _ _ => by by_cases h : j = i <;> simp [h, hf]

theorem valAt_both {l : List Oper} {rs : List V} {f g : Nat → Bool} {d : V} {t : Nat} (h1 : OneW l) (hl : rs.length = l.length) : valAt l rs f (valAt l rs g d t) t = valAt l rs (fun j => g j || f j) d t := by
  by_cases hw : ∃ (i : Nat) (o : Oper), l[i]? = some o ∧ o.dst = some t
  · obtain ⟨i, o, ho, hd⟩ := hw
    have hil : i < l.length := (List.getElem?_eq_some_iff.1 ho).1
    obtain ⟨r, hr⟩ : ∃ r, rs[i]? = some r := ⟨rs[i]'(by omega), List.getElem?_eq_getElem _⟩
    have none_of : ∀ (h : Nat → Bool) (d : V), h i = false → valAt l rs h d t = d := fun h d hh => valAt_none fun j oj hoj hj hdj => by
      by_cases hji : j = i
      · subst hji; rw [hh] at hj; cases hj
      · exact h1 i o ho j oj hoj hji (by rw [hd]; simp) (by rw [hdj, hd])
    cases hfi : f i
    · rw [none_of f _ hfi]
      cases hgi : g i
      · rw [none_of g _ hgi, none_of (fun j => g j || f j) _ (by simp [hfi, hgi])]
      · rw [valAt_of h1 ho hr hgi hd, valAt_of h1 ho hr (f := fun j => g j || f j) (by simp [hgi]) hd]
    · rw [valAt_of h1 ho hr hfi hd, valAt_of h1 ho hr (f := fun j => g j || f j) (by simp [hfi]) hd]
  · have hn : ∀ (h : Nat → Bool) (d : V), valAt l rs h d t = d := fun h d => valAt_none fun j oj hoj _ hdj => hw ⟨j, oj, hoj, hdj⟩
    rw [hn, hn, hn]

theorem valAt_set {t : Nat} {v : V} : ∀ {l : List Oper} {rs : List V} {f : Nat → Bool} {d : V} {i : Nat}, f i = false → valAt l (rs.set i v) f d t = valAt l rs f d t
  | [], _, _, _, _, _ => by simp [valAt]
  | _ :: _, [], _, _, _, _ => by simp [valAt]
  | o :: l, r :: rs, f, d, 0, h => by
    simp only [List.set_cons_zero, valAt]
    rw [if_neg (by simp [h]), if_neg (by simp [h])]
  | o :: l, r :: rs, f, d, i + 1, h => by
    simp only [List.set_cons_succ, valAt]
    exact valAt_set (t := t) (v := v) (by simpa using h)

/-! ### taking the walks apart -/
theorem TDq.parts {X : Cfg} {n : Nat} {ops : Array Oper} {M : List E → Prop} {μ : List E} {K : List (Nat × V) → Prop} : ∀ {l : List Oper} {ks : List Kd} {regs : List (Nat × V)}, ks.length = l.length → TDq X n ops M μ l ks regs K →
    ∃ rs : List V, rs.length = l.length ∧ (∀ (i : Nat) o r, l[i]? = some o → rs[i]? = some r → (kd ks i).fr = false → GDet X n ops o (putsQ (l.take i) (ks.take i) (rs.take i) regs) μ r ∧ ((kd ks i).fl = true → ∀ μ', M μ' → GDet X n ops o (putsQ (l.take i) (ks.take i) (rs.take i) regs) μ' r)) ∧ K (putsQ l ks rs regs)
  | [], ks, regs, _, h => ⟨[], rfl, fun i o r h => by simp at h, by cases ks <;> exact h⟩
  | o :: l, .f :: ks, regs, hl, h => by
    obtain ⟨rs, h1, h2, h3⟩ := TDq.parts (by simpa using hl) (show TDq X n ops M μ l ks regs K from h)
    refine ⟨.un :: rs, by simp [h1], fun i o' r' ho hr' hk => ?_, h3⟩
    cases i with
    | zero => simp [kd, Kd.fr] at hk
    | succ i => exact h2 i o' r' (by simpa using ho) (by simpa using hr') (by simpa [kd] using hk)
  | o :: l, .q :: ks, regs, hl, h => by
    obtain ⟨r, hr, h⟩ := h
    obtain ⟨rs, h1, h2, h3⟩ := TDq.parts (by simpa using hl) h
    refine ⟨r :: rs, by simp [h1], fun i o' r' ho hr' hk => ?_, h3⟩
    cases i with
    | zero => simp at ho hr'; subst ho hr'; exact ⟨hr, fun h => by simp [kd, Kd.fl] at h⟩
    | succ i => exact h2 i o' r' (by simpa using ho) (by simpa using hr') (by simpa [kd] using hk)
  | o :: l, .u :: ks, regs, hl, h => by
    obtain ⟨r, hr, h⟩ := h
    obtain ⟨rs, h1, h2, h3⟩ := TDq.parts (by simpa using hl) h
    refine ⟨r :: rs, by simp [h1], fun i o' r' ho hr' hk => ?_, h3⟩
    cases i with
    | zero => simp at ho hr'; subst ho hr'; exact ⟨hr.1, fun _ => hr.2⟩
    | succ i => exact h2 i o' r' (by simpa using ho) (by simpa using hr') (by simpa [kd] using hk)
  | _ :: _, [], _, hl, _ => by simp at hl

theorem AllCh.cons {d : Option Tmp} {Rf : V → E → Prop} {acc : List (Option Tmp × (V → E → Prop))} : ∀ {pre : List (Option Tmp × (V → E → Prop))} {regs : List (Nat × V)} {ν : List E} {K : List (Nat × V) → List E → Prop}, AllCh (pre ++ (d, Rf) :: acc) regs ν K → AllCh pre regs ν fun regs' ν' => ∀ v en, Rf v en → AllCh acc (putR d v regs') (en :: ν') K
  | [], _, _, _, h => h
  | (_, _) :: _, _, _, _, h => fun v en hv => AllCh.cons (h v en hv)

theorem TDf.parts {X : Cfg} {regs0 : List (Nat × V)} {K : List (Option Tmp × (V → E → Prop)) → Prop} : ∀ {l : List Oper} {ks : List Kd} {acc : List (Option Tmp × (V → E → Prop))}, ks.length = l.length → TDf X regs0 l ks acc K →
    ∃ Rfs : List (V → E → Prop), Rfs.length = l.length ∧ (∀ (i : Nat) o Rf, l[i]? = some o → Rfs[i]? = some Rf → (kd ks i).fr = true → Fresh X o (ev regs0) Rf) ∧
      ∃ more, K (acc ++ more) ∧ ∀ {regs : List (Nat × V)} {ν : List E} {K' : List (Nat × V) → List E → Prop} {rs : List V} {es : List E}, rs.length = l.length → es.length = l.length → (∀ (i : Nat) r en Rf, rs[i]? = some r → es[i]? = some en → Rfs[i]? = some Rf → (kd ks i).fr = true → Rf r en) → AllCh more regs ν K' → K' (putsF l ks rs regs) (entsF ks es ν)
  | [], ks, acc, hl, h => by
    obtain rfl : ks = [] := by simpa using hl
    refine ⟨[], rfl, fun i o r h => by simp at h, [], by rw [List.append_nil]; exact h, ?_⟩
    intro regs ν K' rs es hr he _ hc
    exact hc
  | o :: l, .f :: ks, acc, hl, h => by
    obtain ⟨Rf, hf, h⟩ := h
    obtain ⟨Rfs, h1, h2, more, h3, h4⟩ := TDf.parts (by simpa using hl) h
    refine ⟨Rf :: Rfs, by simp [h1], fun i o' Rf' ho hr' hk => ?_, (o.dst, Rf) :: more, by simpa using h3, ?_⟩
    · cases i with
      | zero => simp at ho hr'; subst ho hr'; exact hf
      | succ i => exact h2 i o' Rf' (by simpa using ho) (by simpa using hr') (by simpa [kd] using hk)
    · intro regs ν K' rs es hr he hall hc
      cases rs with
      | nil => simp at hr
      | cons r rs =>
        cases es with
        | nil => simp at he
        | cons en es =>
          have h0 := hall 0 r en Rf rfl rfl rfl (by simp [kd, Kd.fr])
          simp only [putsF, entsF, Kd.fr, cond_true]
          exact h4 (by simpa using hr) (by simpa using he) (fun i r' en' Rf' a b c d => hall (i + 1) r' en' Rf' (by simpa using a) (by simpa using b) (by simpa using c) (by simpa [kd] using d)) (hc r en h0)
  | o :: l, .q :: ks, acc, hl, h => by
    obtain ⟨Rfs, h1, h2, more, h3, h4⟩ := TDf.parts (by simpa using hl) (show TDf X regs0 l ks acc K from h)
    refine ⟨(fun _ _ => True) :: Rfs, by simp [h1], fun i o' Rf' ho hr' hk => ?_, more, h3, ?_⟩
    · cases i with
      | zero => simp [kd, Kd.fr] at hk
      | succ i => exact h2 i o' Rf' (by simpa using ho) (by simpa using hr') (by simpa [kd] using hk)
    · intro regs ν K' rs es hr he hall hc
      cases rs with
      | nil => simp at hr
      | cons r rs =>
        cases es with
        | nil => simp at he
        | cons en es =>
          simp only [putsF, entsF, Kd.fr, cond_false]
          exact h4 (by simpa using hr) (by simpa using he) (fun i r' en' Rf' a b c d => hall (i + 1) r' en' Rf' (by simpa using a) (by simpa using b) (by simpa using c) (by simpa [kd] using d)) hc
  | o :: l, .u :: ks, acc, hl, h => by
    obtain ⟨Rfs, h1, h2, more, h3, h4⟩ := TDf.parts (by simpa using hl) (show TDf X regs0 l ks acc K from h)
    refine ⟨(fun _ _ => True) :: Rfs, by simp [h1], fun i o' Rf' ho hr' hk => ?_, more, h3, ?_⟩
    · cases i with
      | zero => simp [kd, Kd.fr] at hk
      | succ i => exact h2 i o' Rf' (by simpa using ho) (by simpa using hr') (by simpa [kd] using hk)
    · intro regs ν K' rs es hr he hall hc
      cases rs with
      | nil => simp at hr
      | cons r rs =>
        cases es with
        | nil => simp at he
        | cons en es =>
          simp only [putsF, entsF, Kd.fr, cond_false]
          exact h4 (by simpa using hr) (by simpa using he) (fun i r' en' Rf' a b c d => hall (i + 1) r' en' Rf' (by simpa using a) (by simpa using b) (by simpa using c) (by simpa [kd] using d)) hc
  | _ :: _, [], _, hl, _ => by simp at hl

/-! ### memory -/
theorem gdet_any {X : Cfg} {n : Nat} {ops : Array Oper} {o : Oper} {regs : List (Nat × V)} {μ μc ν : List E} {r : V} (h : GDet X n ops o regs μ r) (p : μc.Perm (ν ++ μ)) : GDet X n ops o regs μc r := by
  intro a w I hH hR hs K Q k
  have p2 : μc.Perm (μ ++ ν) := p.trans List.perm_append_comm
  have hH2 := hH.perm p2
  refine h a w I hH2.left hR hs K Q ?_
  intro v I' w' hv hH' x
  obtain ⟨h1, h2⟩ := hH2.frame hH' x
  exact k v I' w' hv (h1.perm p2.symm) (h2.perm p2.symm p2.symm)

/-- The entries of those that have run. -/
def entsL (ks : List Kd) (es : List E) (f : Nat → Bool) : List E := ((es.zipIdx).filter fun p => (kd ks p.2).fr && f p.2).map (·.1)

theorem entsL_none {ks : List Kd} {es : List E} {f : Nat → Bool} (h : ∀ i, i < es.length → f i = false) : entsL ks es f = [] := by
  unfold entsL
  rw [List.map_eq_nil_iff, List.filter_eq_nil_iff]
  rintro ⟨en, i⟩ hm
  have hi := (List.mem_zipIdx hm).2.1
  simp only [Nat.zero_add] at hi
  simp [h i hi]

theorem entsL_congr {ks : List Kd} {es : List E} {f g : Nat → Bool} (h : ∀ i, i < es.length → (kd ks i).fr = true → f i = g i) : entsL ks es f = entsL ks es g := by
  unfold entsL
  congr 1
  apply List.filter_congr
  rintro ⟨en, i⟩ hm
  have hi := (List.mem_zipIdx hm).2.1
  simp only [Nat.zero_add] at hi
  cases hk : (kd ks i).fr
  · simp [hk]
  · simp [hk, h i hi hk]

theorem entsL_set {ks : List Kd} {es : List E} {f : Nat → Bool} {i : Nat} {en : E} (hi : i < es.length) (hk : (kd ks i).fr = true) (hf : f i = false) : (entsL ks (es.set i en) fun j => if j = i then true else f j).Perm (en :: entsL ks es f) := by
  have split : ∀ (L : List E) (g : Nat → Bool), i < L.length → (entsL ks L g) = (((L.take i).zipIdx).filter fun p => (kd ks p.2).fr && g p.2).map (·.1) ++ ((if ((kd ks i).fr && g i) = true then [L[i]?.getD en] else []) ++ (((L.drop (i + 1)).zipIdx (i + 1)).filter fun p => (kd ks p.2).fr && g p.2).map (·.1)) := by
    intro L g hL
    have e : L = L.take i ++ L[i] :: L.drop (i + 1) := by rw [← List.drop_eq_getElem_cons hL, List.take_append_drop]
    have e2 : L.zipIdx = (L.take i).zipIdx ++ (L[i], i) :: (L.drop (i + 1)).zipIdx (i + 1) := by
      have h1 := congrArg (fun x => List.zipIdx x) e
      simp only [List.zipIdx_append, List.zipIdx_cons, List.length_take, Nat.min_eq_left (Nat.le_of_lt hL), Nat.zero_add] at h1
      exact h1
    unfold entsL
    rw [e2, List.filter_append, List.map_append, List.filter_cons]
    congr 1
    simp only [List.getElem?_eq_getElem hL, Option.getD_some]
    split <;> simp
  rw [split (es.set i en) _ (by simpa using hi), split es f hi]
  simp only [hk, hf, if_true, Bool.and_false, Bool.and_true, Bool.false_eq_true, if_false, List.nil_append]
  rw [List.take_set_of_le (Nat.le_refl i), List.drop_set_of_lt (by omega : i < i + 1)]
  have e3 : (((es.take i).zipIdx).filter fun p => (kd ks p.2).fr && (if p.2 = i then true else f p.2)) = (((es.take i).zipIdx).filter fun p => (kd ks p.2).fr && f p.2) := by
    apply List.filter_congr
    rintro ⟨x, j⟩ hm
    have hj := (List.mem_zipIdx hm).2.1
    simp only [List.length_take, Nat.zero_add] at hj
    have : j ≠ i := by omega
    simp [this]
  have e4 : (((es.drop (i + 1)).zipIdx (i + 1)).filter fun p => (kd ks p.2).fr && (if p.2 = i then true else f p.2)) = (((es.drop (i + 1)).zipIdx (i + 1)).filter fun p => (kd ks p.2).fr && f p.2) := by
    apply List.filter_congr
    rintro ⟨x, j⟩ hm
    have hj := (List.mem_zipIdx hm).1
    have : j ≠ i := by omega
    simp [this]
  rw [e3, e4]
  simp only [List.getElem?_set_self (by simpa using hi : i < es.length), Option.getD_some]
  exact List.perm_middle

theorem entsL_all {ks : List Kd} : ∀ {es : List E} {ν : List E}, ks.length = es.length → ((entsL ks es fun _ => true) ++ ν).Perm (entsF ks es ν) := by
  have aux : ∀ (ks' : List Kd) (es : List E) (b : Nat) (ν : List E), ks'.length = es.length → (∀ i, i < ks'.length → kd ks (b + i) = kd ks' i) → (((es.zipIdx b).filter fun p => (kd ks p.2).fr && true).map (·.1) ++ ν).Perm (entsF ks' es ν) := by
    intro ks' es
    induction es generalizing ks' with
    | nil => intro b ν h _; cases ks' with
      | nil => simp [entsF]
      | cons k ks => simp at h
    | cons en es ih =>
      intro b ν h hk
      cases ks' with
      | nil => simp at h
      | cons k ks' =>
        have h0 : kd ks b = k := by have := hk 0 (by simp); simpa [kd] using this
        have ih' := fun ν => ih ks' (b + 1) ν (by simpa using h) (fun i hi => by
          have := hk (i + 1) (by simpa using hi)
          rw [show b + 1 + i = b + (i + 1) by omega, this]; simp [kd])
        simp only [List.zipIdx_cons, entsF, List.filter_cons, h0, Bool.and_true]
        cases hfr : k.fr
        · simpa [hfr] using ih' ν
        · simp only [if_true, List.map_cons, List.cons_append, cond_true]
          refine List.Perm.trans ?_ (ih' (en :: ν))
          simp only [Bool.and_true]
          exact List.perm_middle.symm
  intro es ν h
  exact aux ks es 0 ν h (fun i _ => by simp)

theorem valAt_congr2 {t : Nat} : ∀ {l : List Oper} {rs rs' : List V} {f g : Nat → Bool} {d : V}, rs.length = l.length → rs'.length = l.length → (∀ (i : Nat) o, l[i]? = some o → o.dst = some t → f i = g i ∧ (f i = true → rs[i]? = rs'[i]?)) → valAt l rs f d t = valAt l rs' g d t
  | [], _, _, _, _, _, _, _, _ => by simp [valAt]
  | o :: l, r :: rs, r' :: rs', f, g, d, h1, h2, h => by
    simp only [valAt]
    have e : (if f 0 = true ∧ o.dst = some t then r else d) = (if g 0 = true ∧ o.dst = some t then r' else d) := by
      by_cases hd : o.dst = some t
      · obtain ⟨k1, k2⟩ := h 0 o rfl hd
        rw [← k1]
        by_cases hf : f 0 = true
        · have := k2 hf; simp at this; simp [hf, hd, this]
        · simp [hf]
      · simp [hd]
    rw [e]
    exact valAt_congr2 (by simpa using h1) (by simpa using h2) fun i o' ho hd => by
      have := h (i + 1) o' (by simpa using ho) hd
      simpa using this
  | _ :: _, [], _, _, _, _, h, _, _ => by simp at h
  | _ :: _, _ :: _, [], _, _, _, _, h, _ => by simp at h

theorem putsQ_last {o : Oper} {r : V} : ∀ {l : List Oper} {ks : List Kd} {rs : List V} {regs : List (Nat × V)}, ks.length = l.length → rs.length = l.length → putsQ (l ++ [o]) (ks ++ [.f]) (rs ++ [r]) regs = putsQ l ks rs regs
  | [], [], [], _, _, _ => by simp [putsQ, Kd.fr]
  | _ :: l, _ :: ks, _ :: rs, regs, h1, h2 => by
    simp only [List.cons_append, putsQ]
    exact putsQ_last (by simpa using h1) (by simpa using h2)
  | [], _ :: _, _, _, h, _ => by simp at h
  | _ :: _, [], _, _, h, _ => by simp at h
  | [], [], _ :: _, _, _, h => by simp at h
  | _ :: _, _ :: _, [], _, _, h => by simp at h

/-- What a free operation looks at is no new memory's pointer, and comes before it where it makes memory itself. -/
def lookChk (l : List Oper) (s : Nat) (ks : List Kd) : Bool :=
  l.zipIdx.all fun p => !Nat.blt p.2 s || ((p.1.guard.isNone || !(kd ks p.2).fr) && (p.1.looksAt l.toArray).all fun t => l.zipIdx.all fun q => !Nat.blt q.2 s || !(q.1.dst == some t) || (!(kd ks q.2).fr && (!(kd ks p.2).fr || Nat.blt q.2 p.2)))

def drawChkF (l : List Oper) (s : Nat) (ks : List Kd) : Bool :=
  drawChk l (s + 1) && (List.range s).all (fun i => (kd ks i).fl || reach l 40 s i) && lookChk l s ks && Nat.beq ks.length s

theorem lookChk_spec {l : List Oper} {s : Nat} {ks : List Kd} (h : lookChk l s ks = true) {i : Nat} {o : Oper} (ho : l[i]? = some o) (hi : i < s) : ((kd ks i).fr = true → o.guard = none) ∧ ∀ t, t ∈ o.looksAt l.toArray → ∀ (j : Nat) o', l[j]? = some o' → j < s → o'.dst = some t → (kd ks j).fr = false ∧ ((kd ks i).fr = true → j < i) := by
  unfold lookChk at h
  rw [List.all_eq_true] at h
  have h1 := h _ (mem_zip ho)
  have hb : Nat.blt i s = true := by simpa [Nat.blt_eq] using hi
  simp only [hb, Bool.not_true, Bool.false_or, Bool.and_eq_true] at h1
  refine ⟨fun hf => ?_, fun t ht j o' ho' hj hd => ?_⟩
  · have := h1.1
    rw [hf] at this
    simpa using this
  · have h2 := h1.2
    rw [List.all_eq_true] at h2
    have h3 := h2 t ht
    rw [List.all_eq_true] at h3
    have h4 := h3 _ (mem_zip ho')
    have hbj : Nat.blt j s = true := by simpa [Nat.blt_eq] using hj
    simp only [hbj, hd, beq_self_eq_true, Bool.not_true, Bool.false_or, Bool.and_eq_true, Bool.not_eq_true', Bool.or_eq_true] at h4
    refine ⟨h4.1, fun hf => ?_⟩
    rcases h4.2 with h5 | h5
    · rw [hf] at h5; cases h5
    · simpa [Nat.blt_eq] using h5

section draw
variable {X : Cfg} {n : Nat} {z : Z} {Q : Exit → S → Prop} {regs : List (Nat × V)} {μ : List E} {l : List Oper} {s : Nat} {M : List E → Prop} {ks : List Kd}

set_option maxHeartbeats 2000000 in
theorem draw_f {z1 : Z} (hz : ZLe z z1) (ok : DrawOk l (s + 1)) (hsl : s < l.length) (hdst : l.all (dstOk n) = true) {os : Oper} (hos : l[s]? = some os) (hgS : os.guard = none) (hkl : ks.length = s) (hedS : ∀ i, i < s → (kd ks i).fl = false → reach l 40 s i = true)
    (hlk : ∀ (i : Nat) o, l[i]? = some o → i < s → ((kd ks i).fr = true → o.guard = none) ∧ ∀ t, t ∈ o.looksAt l.toArray → ∀ (j : Nat) o', l[j]? = some o' → j < s → o'.dst = some t → (kd ks j).fr = false ∧ ((kd ks i).fr = true → j < i))
    {qs : List V} (hqs : qs.length = s) (hq : ∀ (i : Nat) o r, (l.take s)[i]? = some o → qs[i]? = some r → (kd ks i).fr = false → GDet X n l.toArray o (putsQ ((l.take s).take i) (ks.take i) (qs.take i) regs) μ r ∧ ((kd ks i).fl = true → ∀ μ', M μ' → GDet X n l.toArray o (putsQ ((l.take s).take i) (ks.take i) (qs.take i) regs) μ' r))
    {Rfs : List (V → E → Prop)} (hRl : Rfs.length = s) (hF : ∀ (i : Nat) o Rf, (l.take s)[i]? = some o → Rfs[i]? = some Rf → (kd ks i).fr = true → Fresh X o (ev (putsQ (l.take s) ks qs regs)) Rf)
    (hC : ∀ (rs : List V) (es : List E), rs.length = s → es.length = s → (∀ (i : Nat) r en Rf, rs[i]? = some r → es[i]? = some en → Rfs[i]? = some Rf → (kd ks i).fr = true → Rf r en) →
      ∃ R, OpE X os (ev (putsF (l.take s) ks rs (putsQ (l.take s) ks qs regs))) (entsF ks es μ) R ∧ (∀ r μ1, R r μ1 → M μ1) ∧ ∀ r μ1, R r μ1 → RWP X n z l.toArray (l.drop (s + 1)) Q ⟨putR os.dst r (putsF (l.take s) ks rs (putsQ (l.take s) ks qs regs)), μ1⟩) :
    ∀ (fuel : Nat) (listed : Array Bool) (a : Act) (w : World) (I : Nat → Prop) (rs : List V) (es : List E) (μc : List E), listed.size = l.length → unl listed = fuel → (∀ i, s + 1 ≤ i → i < l.length → listed.getD i true = false) → Closed l listed → rs.length = s + 1 → es.length = s →
      (∀ i, i < s → (kd ks i).fr = false → rs[i]? = qs[i]?) →
      (∀ (i : Nat) Rf, i < s → (kd ks i).fr = true → listed.getD i true = true → Rfs[i]? = some Rf → ∃ r en, rs[i]? = some r ∧ es[i]? = some en ∧ Rf r en) →
      (listed.getD s true = false → μc.Perm (entsL ks es (fun i => listed.getD i true) ++ μ)) →
      (listed.getD s true = true → M μc ∧ ∃ regsF, (∀ t, look regsF t = valAt (l.take (s + 1)) rs (fun _ => true) (look regs t) t) ∧ RWP X n z l.toArray (l.drop (s + 1)) Q ⟨regsF, μc⟩) →
      Heap X w I μc → (∀ t, VRep w I (valAt (l.take (s + 1)) rs (fun i => listed.getD i true) (look regs t) t) (a.tmps.getD t undef)) → Ext z1.w z1.I z1.μ w I μc → a.defers = z1.ds → a.tmps.size = n →
      wpAnyIn (fen z.rd) 0 X.P .any l.toArray (liftQ X n z1 Q) fuel listed a w := by
  have hts : l.take (s + 1) = l.take s ++ [os] := take_next hos
  have htl : (l.take (s + 1)).length = s + 1 := by simp; omega
  have hone : OneW (l.take (s + 1)) := by
    intro i o ho j o' ho' hne hnn
    have hi : i < s + 1 := by have := (List.getElem?_eq_some_iff.1 ho).1; simp at this; omega
    have hj : j < s + 1 := by have := (List.getElem?_eq_some_iff.1 ho').1; simp at this; omega
    rw [List.getElem?_take, if_pos hi] at ho
    rw [List.getElem?_take, if_pos hj] at ho'
    exact ok.own i o ho hi j o' ho' hj hne hnn
  have hall_of : ∀ {listed : Array Bool} {w : World} {I : Nat → Prop} {a : Act} {rs : List V} {regsF : List (Nat × V)}, (∀ i, i < s + 1 → listed.getD i true = true) → (∀ t, look regsF t = valAt (l.take (s + 1)) rs (fun _ => true) (look regs t) t) → (∀ t, VRep w I (valAt (l.take (s + 1)) rs (fun i => listed.getD i true) (look regs t) t) (a.tmps.getD t undef)) → ∀ t, VRep w I (look regsF t) (a.tmps.getD t undef) := by
    intro listed w I a rs regsF hall hF hR t
    rw [hF t]
    have := hR t
    rwa [valAt_congr (g := fun _ => true) (fun i o ho _ => hall i (by have := (List.getElem?_eq_some_iff.1 ho).1; simp at this; omega))] at this
  intro fuel
  induction fuel with
  | zero =>
    intro listed a w I rs es μc hsz hun htail hclo hrs hes hqr hfr hl0 hl1 hH hR hx hd hs
    have hall : ∀ i, i < l.length → listed.getD i true = true := by
      intro i hi
      cases hb : listed.getD i true with
      | true => rfl
      | false => have := unl_set hb; omega
    have hml' : s + 1 = l.length := by
      rcases Nat.lt_or_ge (s + 1) l.length with h | h
      · have h1 := htail (s + 1) (Nat.le_refl _) h; rw [hall _ h] at h1; cases h1
      · omega
    refine draw_tail ok 0 l.length listed a w hsz (by omega) (Nat.le_refl _) (fun i hi => by rw [hall i hi]; simp [hi]) (by omega) ?_
    obtain ⟨_, regsF, hF', hk⟩ := hl1 (hall s hsl)
    have := hk (by rw [hml']; simp) z1 hz a w ⟨I, hH, hall_of (fun i hi => hall i (by omega)) hF' hR, hx, hd, hs⟩
    rwa [hml'] at this
  | succ fuel ih =>
    intro listed a w I rs es μc hsz hun htail hclo hrs hes hqr hfr hl0 hl1 hH hR hx hd hs
    by_cases hqa : ∀ i, i < s + 1 → listed.getD i true = true
    · refine draw_tail ok (fuel + 1) (s + 1) listed a w hsz (Nat.le_refl _) (by omega) (fun i hi => ?_) ?_ ?_
      · by_cases him : i < s + 1
        · rw [hqa i him]; simp [him]
        · rw [htail i (by omega) hi]; simp [him]
      · have := unl_all hsz (by omega) hqa htail
        omega
      · obtain ⟨_, regsF, hF', hk⟩ := hl1 (hqa s (by omega))
        exact hk (by
          rw [List.all_eq_true] at hdst ⊢
          exact fun o ho => hdst o (List.mem_of_mem_drop ho)) z1 hz a w ⟨I, hH, hall_of hqa hF' hR, hx, hd, hs⟩
    · have hex : ∃ i, i < s + 1 ∧ listed.getD i true = false ∧ ∀ j, j < i → listed.getD j true = true := by
        have : ∃ i, i < s + 1 ∧ listed.getD i true = false := by
          rcases Classical.not_forall.1 hqa with ⟨i, hi⟩
          rcases Classical.not_imp.1 hi with ⟨h1, h2⟩
          exact ⟨i, h1, by cases hb : listed.getD i true; rfl; exact absurd hb h2⟩
        obtain ⟨i, hi, hb⟩ := this
        have strong : ∀ N i, i < N → i < s + 1 → listed.getD i true = false → ∃ i, i < s + 1 ∧ listed.getD i true = false ∧ ∀ j, j < i → listed.getD j true = true := by
          intro N
          induction N with
          | zero => intro i h; omega
          | succ N ihN =>
            intro i hiN him hb
            by_cases hall : ∀ j, j < i → listed.getD j true = true
            · exact ⟨i, him, hb, hall⟩
            · rcases Classical.not_forall.1 hall with ⟨j, hj⟩
              rcases Classical.not_imp.1 hj with ⟨h1, h2⟩
              exact ihN j (by omega) (by omega) (by cases hb' : listed.getD j true; rfl; exact absurd hb' h2)
        exact strong (i + 1) i (by omega) hi hb
      obtain ⟨i0, hi0, hb0, hmin⟩ := hex
      refine ⟨fun hnil => ?_, fun i hi => ?_⟩
      · exfalso
        have hlt0 : i0 < l.length := by omega
        have : i0 ∈ Region.ready .any l.toArray listed := by
          rw [mem_ready]
          refine ⟨hb0, l[i0], by simp [hlt0], fun e he hb => ?_⟩
          have hlt := ok.back i0 l[i0] (List.getElem?_eq_getElem hlt0) e he hb
          have h2 := hmin e.on hlt
          rw [Array.getD_eq_getD_getElem?] at h2 ⊢
          rw [Array.getElem?_eq_getElem (by omega)] at h2 ⊢
          simpa using h2
        rw [hnil] at this
        simp at this
      · rw [mem_ready] at hi
        obtain ⟨hbi, o, ho, hedge⟩ := hi
        have ho' : l[i]? = some o := by simpa using ho
        have hil : i < l.length := (List.getElem?_eq_some_iff.1 ho').1
        have hunl : ∀ j, j < l.length → listed.getD j true = false → ¬ listed.getD j false = true := fun j hj h1 h2 => by
          rw [Array.getD_eq_getD_getElem?] at h1 h2
          rw [Array.getElem?_eq_getElem (by omega)] at h1 h2
          simp only [Option.getD_some] at h1 h2
          rw [h2] at h1
          cases h1
        have him : i < s + 1 := by
          rcases Nat.lt_or_ge i (s + 1) with h | h
          · exact h
          · exfalso
            rcases Nat.lt_or_ge (s + 1) i with hgt | hge
            · obtain ⟨e, he1, he2, he3⟩ := ok.tail1 i o ho' hgt
              have h1 := hedge e he1 he3
              rw [he2] at h1
              exact hunl (i - 1) (by omega) (htail (i - 1) (by omega) (by omega)) h1
            · have him : i = s + 1 := by omega
              subst him
              exact hunl i0 (by omega) hb0 (reach_ready hclo ho' hedge (ok.tail0 o ho' i0 hi0))
        have hot : (l.take (s + 1))[i]? = some o := by rw [List.getElem?_take, if_pos him]; exact ho'
        -- whatever it looks at, and was written before it, has been written; what is written behind it has not
        have hwr : ∀ t, t ∈ o.looksAt l.toArray → ∀ (j : Nat) oj, (l.take (s + 1))[j]? = some oj → oj.dst = some t → (j < i ∧ listed.getD j true = true) ∨ (i < j ∧ listed.getD j true = false) := by
          intro t ht j oj hoj hdj
          have hjm : j < s + 1 := by have := (List.getElem?_eq_some_iff.1 hoj).1; simp at this; omega
          have hoj' : l[j]? = some oj := by rw [List.getElem?_take, if_pos hjm] at hoj; exact hoj
          rcases ok.looks i o ho' him t ht j oj hoj' hjm hdj with ⟨hji, e, he1, he2, he3⟩ | ⟨hij, e, he1, he2, he3⟩
          · have h1 := hedge e he1 he3
            rw [he2] at h1
            exact .inl ⟨hji, getD_tf h1⟩
          · refine .inr ⟨hij, ?_⟩
            cases hb : listed.getD j true with
            | false => rfl
            | true =>
              exfalso
              have h1 := hclo j oj hoj' hb e he1 he3
              rw [he2] at h1
              exact hunl i hil hbi h1
        have hdo : dstOk n o = true := by
          rw [List.all_eq_true] at hdst
          exact hdst o (List.mem_of_getElem? ho')
        simp only [wpOpIn, ho]
        have hget : ∀ j, (listed.setIfInBounds i true).getD j true = if j = i then true else listed.getD j true := by
          intro j
          by_cases hji : j = i
          · subst hji
            rw [if_pos rfl, Array.getD_eq_getD_getElem?, Array.getElem?_setIfInBounds]
            simp [show j < listed.size by omega]
          · rw [if_neg hji, getD_set_ne true (Ne.symm hji)]
        have hclo' : Closed l (listed.setIfInBounds i true) := by
          intro j oj hoj hb e he1 he3
          have key : listed.getD e.on false = true := by
            by_cases hji : j = i
            · subst hji
              rw [ho'] at hoj; cases hoj
              exact hedge e he1 he3
            · rw [getD_set_ne true (Ne.symm hji)] at hb
              exact hclo j oj hoj hb e he1 he3
          rw [Array.getD_eq_getD_getElem?, Array.getElem?_setIfInBounds]
          by_cases hei : i = e.on
          · rw [if_pos hei]
            have : i < listed.size := by omega
            simp [this]
          · rw [if_neg hei, ← Array.getD_eq_getD_getElem?]; exact key
        have hu := unl_set hbi
        have htail' : ∀ j, s + 1 ≤ j → j < l.length → (listed.setIfInBounds i true).getD j true = false := fun j hj hjl => by rw [getD_set_ne true (by omega)]; exact htail j hj hjl
        -- the registers behind it
        have hregs : ∀ (r v : _) (I' : Nat → Prop) (w' : World) (μ' : List E), VRep w' I' r v → Ext w I μc w' I' μ' → ∀ t, VRep w' I' (valAt (l.take (s + 1)) (rs.set i r) (fun j => (listed.setIfInBounds i true).getD j true) (look regs t) t) ((a.put o.dst v).tmps.getD t undef) := by
          intro r v I' w' μ' hv hx' t
          have hr : (rs.set i r)[i]? = some r := by rw [List.getElem?_set_self (by omega)]
          have hvs := valAt_step (t := t) (l := l.take (s + 1)) (rs := rs.set i r) (f := fun j => listed.getD j true) (d := look regs t) hot hr (fun j o' hj hne hnn => hone i o hot j o' hj hne hnn)
          have e1 : (fun j => (listed.setIfInBounds i true).getD j true) = (fun j => if j = i then true else listed.getD j true) := funext hget
          have e2 : (fun j => if j = i then false else listed.getD j true) = (fun j => listed.getD j true) := by
            funext j
            by_cases hji : j = i
            · subst hji; rw [if_pos rfl, hbi]
            · rw [if_neg hji]
          rw [e1, hvs, e2, valAt_set (by exact hbi)]
          cases hod : o.dst with
          | none =>
            rw [if_neg (by simp)]
            exact hH.vrep hx' (hR t)
          | some d =>
            have hdn : d < n := by simp only [dstOk, hod, Bool.and_eq_true] at hdo; simpa [Nat.blt_eq] using hdo.1
            rw [tmps_put hs hdn]
            by_cases hdt : d = t
            · subst hdt; rw [if_pos rfl, if_pos rfl]; exact hv
            · rw [if_neg (by simpa using hdt), if_neg hdt]; exact hH.vrep hx' (hR t)
        have hdf' : ∀ v, (a.put o.dst v).defers = z1.ds := fun v => by cases hod : o.dst <;> simp [Act.put, hd]
        have hsz' : ∀ v, (a.put o.dst v).tmps.size = n := fun v => by cases hod : o.dst <;> simp [Act.put, hs]
        have hqset : ∀ (r : V), ((kd ks i).fr = false → i < s → rs[i]? = some r) → ∀ j, j < s → (kd ks j).fr = false → (rs.set i r)[j]? = qs[j]? := by
          intro r hr j hj hkj
          by_cases hji : j = i
          · subst hji; rw [List.getElem?_set_self (by omega), ← hqr j hj hkj, hr hkj hj]
          · rw [List.getElem?_set_ne (Ne.symm hji)]; exact hqr j hj hkj
        rcases Nat.lt_or_ge i s with his | his
        · -- one of the free ones
          have hns : i ≠ s := by omega
          have hkeep1 : (listed.setIfInBounds i true).getD s true = listed.getD s true := by rw [hget s, if_neg (Ne.symm hns)]
          have hotS : (l.take s)[i]? = some o := by rw [List.getElem?_take, if_pos his]; exact ho'
          obtain ⟨hlk1, hlk2⟩ := hlk i o ho' his
          have hrsi : ∃ r, rs[i]? = some r := ⟨rs[i]'(by omega), List.getElem?_eq_getElem _⟩
          cases hk : (kd ks i).fr with
          | false =>
            obtain ⟨r, hr⟩ : ∃ r, qs[i]? = some r := ⟨qs[i]'(by omega), List.getElem?_eq_getElem _⟩
            have hri : rs[i]? = some r := (hqr i his hk).trans hr
            obtain ⟨g1, g2⟩ := hq i o r hotS hr hk
            have hG : GDet X n l.toArray o (putsQ ((l.take s).take i) (ks.take i) (qs.take i) regs) μc r := by
              cases hb : listed.getD s true with
              | false => exact gdet_any g1 (hl0 hb)
              | true =>
                cases hfl : (kd ks i).fl with
                | true => exact g2 hfl _ (hl1 hb).1
                | false => exact absurd (reach_listed hclo 40 s i (hedS i his hfl) hb) (hunl i hil hbi)
            have hlook : ∀ t, t ∈ o.looksAt l.toArray → VRep w I (look (putsQ ((l.take s).take i) (ks.take i) (qs.take i) regs) t) (a.tmps.getD t undef) := by
              intro t ht
              have e := look_putsQ (t := t) (l := l.take (s + 1)) (ks := ks ++ [.f]) (rs := qs ++ [.un]) (regs := regs) i (by simp; omega)
              rw [show (l.take (s + 1)).take i = (l.take s).take i by rw [List.take_take, List.take_take, Nat.min_eq_left (by omega), Nat.min_eq_left (by omega)],
                List.take_append_of_le_length (by omega), List.take_append_of_le_length (by omega)] at e
              rw [e]
              have := hR t
              rwa [valAt_congr2 (rs' := qs ++ [.un]) (g := fun j => decide (j < i) && !(kd (ks ++ [.f]) j).fr) (by omega) (by simp; omega) (fun j oj hoj hdj => by
                have hjm : j < s + 1 := by have := (List.getElem?_eq_some_iff.1 hoj).1; simp at this; omega
                have hoj' : l[j]? = some oj := by rw [List.getElem?_take, if_pos hjm] at hoj; exact hoj
                rcases hwr t ht j oj hoj hdj with ⟨h1, h2⟩ | ⟨h1, h2⟩
                · have hjs : j < s := by omega
                  have hkj := (hlk2 t ht j oj hoj' hjs hdj).1
                  have hkk : (kd (ks ++ [.f]) j).fr = false := by rw [show kd (ks ++ [Kd.f]) j = kd ks j by simp [kd, List.getD, List.getElem?_append_left (show j < ks.length by omega)]]; exact hkj
                  refine ⟨by rw [h2]; simp [h1, hkk], fun _ => ?_⟩
                  rw [List.getElem?_append_left (by omega)]
                  exact hqr j hjs hkj
                · exact ⟨by rw [h2]; simp [show ¬ j < i by omega], fun h => by simp [h2] at h⟩)] at this
            have step : ∀ v I' w', VRep w' I' r v → Heap X w' I' μc → Ext w I μc w' I' μc → wpAnyIn (fen z.rd) 0 X.P .any l.toArray (liftQ X n z1 Q) fuel (listed.setIfInBounds i true) (a.put o.dst v) w' := by
              intro v I' w' hv hH' hx'
              have eset : rs.set i r = rs := by
                apply List.ext_getElem?
                intro j
                by_cases hji : i = j
                · subst hji; rw [List.getElem?_set_self (by omega), hri]
                · rw [List.getElem?_set_ne hji]
              have hrg := hregs r v I' w' μc hv hx'
              rw [eset] at hrg
              refine ih (listed.setIfInBounds i true) _ w' I' rs es μc (by simp [hsz]) (by omega) htail' hclo' hrs hes hqr ?_ ?_ ?_ hH' hrg (hx.trans hx') (hdf' v) (hsz' v)
              · intro j Rf hj hkj hlj hRj
                rw [hget j] at hlj
                by_cases hji : j = i
                · subst hji; rw [hk] at hkj; cases hkj
                · rw [if_neg hji] at hlj; exact hfr j Rf hj hkj hlj hRj
              · intro hb
                rw [hkeep1] at hb
                rw [entsL_congr (g := fun j => listed.getD j true) (fun j hj hkj => by
                  rw [hget j]
                  by_cases hji : j = i
                  · subst hji; rw [hk] at hkj; cases hkj
                  · rw [if_neg hji])]
                exact hl0 hb
              · intro hb; rw [hkeep1] at hb; exact hl1 hb
            have hG' := hG a w I hH hlook hs (wpAnyIn (fen z.rd) 0 X.P .any l.toArray (liftQ X n z1 Q) fuel (listed.setIfInBounds i true)) (liftQ X n z1 Q) step
            split
            · rename_i hw; rw [if_pos hw] at hG'; exact hG' (dstOk.nd hdo) _
            · rename_i hw; rw [if_neg hw] at hG'; exact ⟨fun _ _ => trivial, hG'⟩
          | true =>
            obtain ⟨Rf, hRf⟩ : ∃ Rf, Rfs[i]? = some Rf := ⟨Rfs[i]'(by omega), List.getElem?_eq_getElem _⟩
            have hfresh := hF i o Rf hotS hRf hk
            -- the writing operation has not run
            have hbs : listed.getD s true = false := by
              cases hb : listed.getD s true with
              | false => rfl
              | true => exact absurd (reach_listed hclo 40 s i (hedS i his (by unfold Kd.fr at hk; unfold Kd.fl; cases h : kd ks i <;> rw [h] at hk <;> simp_all)) hb) (hunl i hil hbi)
            have hlook : ∀ t, t ∈ o.looksAt l.toArray → VRep w I (look (putsQ (l.take s) ks qs regs) t) (a.tmps.getD t undef) := by
              intro t ht
              have e := look_putsQ (t := t) (l := l.take (s + 1)) (ks := ks ++ [.f]) (rs := qs ++ [.un]) (regs := regs) (s + 1) (by simp; omega)
              rw [List.take_take, Nat.min_self, List.take_of_length_le (l := ks ++ [Kd.f]) (by simp; omega), List.take_of_length_le (l := qs ++ [V.un]) (by simp; omega), hts, putsQ_last (by simp; omega) (by simp; omega), ← hts] at e
              rw [e]
              have := hR t
              rwa [valAt_congr2 (rs' := qs ++ [.un]) (g := fun j => decide (j < s + 1) && !(kd (ks ++ [.f]) j).fr) (by omega) (by simp; omega) (fun j oj hoj hdj => by
                have hjm : j < s + 1 := by have := (List.getElem?_eq_some_iff.1 hoj).1; simp at this; omega
                have hoj' : l[j]? = some oj := by rw [List.getElem?_take, if_pos hjm] at hoj; exact hoj
                rcases Nat.lt_or_ge j s with hjs | hjs
                · obtain ⟨hkj, hlt⟩ := hlk2 t ht j oj hoj' hjs hdj
                  have hji := hlt hk
                  have hkk : (kd (ks ++ [.f]) j).fr = false := by rw [show kd (ks ++ [Kd.f]) j = kd ks j by simp [kd, List.getD, List.getElem?_append_left (show j < ks.length by omega)]]; exact hkj
                  rcases hwr t ht j oj hoj hdj with ⟨h1, h2⟩ | ⟨h1, h2⟩
                  · refine ⟨by rw [h2]; simp [hkk, hjm], fun _ => ?_⟩
                    rw [List.getElem?_append_left (by omega)]
                    exact hqr j hjs hkj
                  · omega
                · have hjs' : j = s := by omega
                  subst hjs'
                  have hkk : (kd (ks ++ [.f]) j).fr = true := by simp [kd, List.getD, hkl, Kd.fr]
                  exact ⟨by rw [hbs]; simp [hkk], fun h => by simp [hbs] at h⟩)] at this
            rw [if_pos (by simp [Region.wanted, hlk1 hk])]
            refine (OpE.frame hfresh μc) a w I hH (ev_looks hlook) _ _ ?_ (dstOk.nd hdo) _
            rintro v r μ' I' w' ⟨μ'', ⟨en, hRv, rfl⟩, rfl⟩ hv hH' hx'
            refine ih (listed.setIfInBounds i true) _ w' I' (rs.set i r) (es.set i en) _ (by simp [hsz]) (by omega) htail' hclo' (by simp [hrs]) (by simp [hes]) (hqset r (fun h => by rw [hk] at h; cases h)) ?_ ?_ ?_ hH' (hregs r v I' w' _ hv hx') (hx.trans hx') (hdf' v) (hsz' v)
            · intro j Rf' hj hkj hlj hRj
              by_cases hji : j = i
              · subst hji
                rw [hRf] at hRj; cases hRj
                exact ⟨r, en, by rw [List.getElem?_set_self (by omega)], by rw [List.getElem?_set_self (by omega)], hRv⟩
              · rw [hget j, if_neg hji] at hlj
                obtain ⟨r', en', k1, k2, k3⟩ := hfr j Rf' hj hkj hlj hRj
                exact ⟨r', en', by rw [List.getElem?_set_ne (Ne.symm hji)]; exact k1, by rw [List.getElem?_set_ne (Ne.symm hji)]; exact k2, k3⟩
            · intro _
              rw [show (fun j => (listed.setIfInBounds i true).getD j true) = (fun j => if j = i then true else listed.getD j true) from funext hget]
              refine List.Perm.trans ?_ (List.Perm.append_right μ (entsL_set (en := en) (by omega) hk hbi)).symm
              exact List.Perm.cons en (hl0 hbs)
            · intro hb; rw [hkeep1, hbs] at hb; cases hb
        · -- the one that changes memory
          have hie : i = s := by omega
          subst hie
          have eo : o = os := by rw [ho'] at hos; exact Option.some.inj hos
          subst eo
          have hP := hl0 hbi
          -- all that make memory have run
          have hfall : ∀ j, j < i → (kd ks j).fr = true → listed.getD j true = true := fun j hj hkj => by
            have hfl : (kd ks j).fl = false := by unfold Kd.fr at hkj; unfold Kd.fl; cases h : kd ks j <;> rw [h] at hkj <;> simp_all
            exact getD_tf (reach_ready hclo ho' hedge (hedS j hj hfl))
          have hE : (entsL ks es (fun j => listed.getD j true) ++ μ).Perm (entsF ks es μ) := by
            rw [entsL_congr (g := fun _ => true) (fun j hj hkj => hfall j (by omega) hkj)]
            exact entsL_all (by omega)
          have hμ : μc.Perm (entsF ks es μ) := hP.trans hE
          obtain ⟨R, hOp, hRM, hK⟩ := hC (rs.take i) es (by simp; omega) hes (fun j r en Rf h1 h2 h3 h4 => by
            have hj : j < i := by have := (List.getElem?_eq_some_iff.1 h2).1; omega
            obtain ⟨r', en', k1, k2, k3⟩ := hfr j Rf hj h4 (hfall j hj h4) h3
            rw [List.getElem?_take, if_pos hj, k1] at h1; cases h1
            rw [k2] at h2; cases h2
            exact k3)
          -- the registers of the walk
          have hlF : ∀ t, look (putsF (l.take i) ks (rs.take i) (putsQ (l.take i) ks qs regs)) t = valAt (l.take i) (rs.take i) (fun _ => true) (look regs t) t := by
            intro t
            rw [look_putsF (by simp; omega)]
            have e := look_putsQ (t := t) (l := l.take i) (ks := ks) (rs := qs) (regs := regs) i (by simp; omega)
            rw [List.take_take, Nat.min_self, List.take_of_length_le (l := ks) (by omega), List.take_of_length_le (l := qs) (by omega)] at e
            rw [e]
            have hone' : OneW (l.take i) := by
              intro p op hop q oq hoq hne hnn
              have hp : p < i := by have := (List.getElem?_eq_some_iff.1 hop).1; simp at this; omega
              have hq' : q < i := by have := (List.getElem?_eq_some_iff.1 hoq).1; simp at this; omega
              rw [List.getElem?_take, if_pos hp] at hop
              rw [List.getElem?_take, if_pos hq'] at hoq
              exact ok.own p op hop (by omega) q oq hoq (by omega) hne hnn
            rw [valAt_congr2 (rs := qs) (rs' := rs.take i) (f := fun j => decide (j < i) && !(kd ks j).fr) (g := fun j => decide (j < i) && !(kd ks j).fr) (by simp; omega) (by simp; omega) (fun j oj hoj hdj => ⟨rfl, fun hf => by
              simp only [Bool.and_eq_true, decide_eq_true_eq, Bool.not_eq_true'] at hf
              rw [List.getElem?_take, if_pos hf.1]
              exact (hqr j hf.1 hf.2).symm⟩)]
            rw [valAt_both hone' (by simp; omega)]
            refine valAt_congr fun j oj hoj _ => ?_
            have hj : j < i := by have := (List.getElem?_eq_some_iff.1 hoj).1; simp at this; omega
            cases (kd ks j).fr <;> simp [hj]
          have hlook : ∀ t, t ∈ o.looksAt l.toArray → VRep w I (look (putsF (l.take i) ks (rs.take i) (putsQ (l.take i) ks qs regs)) t) (a.tmps.getD t undef) := by
            intro t ht
            rw [hlF t]
            have := hR t
            have e : valAt (l.take (i + 1)) rs (fun j => listed.getD j true) (look regs t) t = valAt (l.take i) (rs.take i) (fun _ => true) (look regs t) t := by
              have e1 : rs = rs.take i ++ [rs[i]'(by omega)] := by
                have := List.take_append_drop i rs
                rw [List.drop_eq_getElem_cons (by omega), List.drop_of_length_le (by omega)] at this
                exact this.symm
              have app : ∀ (l : List Oper) (rs : List V) (f : Nat → Bool) (d : V) (o : Oper) (r : V), rs.length = l.length → f l.length = false → valAt (l ++ [o]) (rs ++ [r]) f d t = valAt l rs f d t := by
                intro l
                induction l with
                | nil => intro rs f d o r h1 h2; cases rs with
                  | nil => simp at h2; simp [valAt, h2]
                  | cons _ _ => simp at h1
                | cons x l ihl => intro rs f d o r h1 h2; cases rs with
                  | nil => simp at h1
                  | cons y rs => simp only [List.cons_append, valAt]; exact ihl rs _ _ o r (by simpa using h1) (by simpa using h2)
              rw [hts]
              have : valAt (l.take i ++ [o]) rs (fun j => listed.getD j true) (look regs t) t = valAt (l.take i ++ [o]) (rs.take i ++ [rs[i]'(by omega)]) (fun j => listed.getD j true) (look regs t) t := congrArg (fun q => valAt (l.take i ++ [o]) q (fun j => listed.getD j true) (look regs t) t) e1
              rw [this, app _ _ _ _ _ _ (by simp; omega) (by simpa [Nat.min_eq_left (Nat.le_of_lt hsl)] using hbi)]
              refine valAt_congr fun j oj hoj hdj => ?_
              have hj : j < i := by have := (List.getElem?_eq_some_iff.1 hoj).1; simp at this; omega
              rcases hwr t ht j oj (by rw [List.getElem?_take, if_pos (by omega)]; rw [List.getElem?_take, if_pos hj] at hoj; exact hoj) hdj with ⟨_, h2⟩ | ⟨h1, _⟩
              · exact h2
              · omega
            rwa [e] at this
          rw [if_pos (by simp [Region.wanted, hgS])]
          refine hOp a w I (hH.perm hμ) (ev_looks hlook) _ _ ?_ (dstOk.nd hdo) _
          intro v r μ' I' w' hr hv hH' hx'
          have hx'' : Ext w I μc w' I' μ' := hx'.perm hμ.symm (List.Perm.refl _)
          refine ih (listed.setIfInBounds i true) _ w' I' (rs.set i r) es μ' (by simp [hsz]) (by omega) htail' hclo' (by simp [hrs]) hes (hqset r (fun _ h => by omega)) ?_ ?_ ?_ hH' (hregs r v I' w' _ hv hx'') (hx.trans hx'') (hdf' v) (hsz' v)
          · intro j Rf' hj hkj hlj hRj
            rw [hget j, if_neg (by omega)] at hlj
            obtain ⟨r', en', k1, k2, k3⟩ := hfr j Rf' hj hkj hlj hRj
            exact ⟨r', en', by rw [List.getElem?_set_ne (by omega)]; exact k1, k2, k3⟩
          · intro hb; rw [hget i, if_pos rfl] at hb; cases hb
          · intro _
            refine ⟨hRM r μ' hr, _, fun t => ?_, hK r μ' hr⟩
            rw [look_put1, hlF t]
            have app : ∀ (l : List Oper) (rs : List V) (d : V) (o : Oper) (r : V), rs.length = l.length → valAt (l ++ [o]) (rs ++ [r]) (fun _ => true) d t = if o.dst = some t then r else valAt l rs (fun _ => true) d t := by
              intro l
              induction l with
              | nil => intro rs d o r h1; cases rs with
                | nil => simp [valAt]
                | cons _ _ => simp at h1
              | cons x l ihl => intro rs d o r h1; cases rs with
                | nil => simp at h1
                | cons y rs => simp only [List.cons_append, valAt]; exact ihl rs _ o r (by simpa using h1)
            have e1 : rs.set i r = rs.take i ++ [r] := by
              rw [List.set_eq_take_append_cons_drop, if_pos (by omega), List.drop_of_length_le (by omega)]
            rw [hts, e1, app _ _ _ _ _ (by simp; omega)]

/-- A region whose order is open: quiet operations, operations that make new memory, one that changes memory, then the others. -/
theorem awp_draw_f {id : Nat} (s : Nat) (ks : List Kd) (M : List E → Prop) {os : Oper} (hm : X.P.follows .mixedOrders = true) (hchk : drawChkF l s ks = true) (hos : nth l s = some os) (hgS : os.guard = none) (hd : l.all (dstOk n) = true)
    (h : TDq X n l.toArray M μ (l.take s) ks regs fun regs' => TDf X regs' (l.take s) ks [] fun acc => AllCh acc regs' μ fun regs'' μ'' => ∃ R, OpE X os (ev regs'') μ'' R ∧ (∀ r μ1, R r μ1 → M μ1) ∧ ∀ r μ1, R r μ1 → RWP X n z l.toArray (l.drop (s + 1)) Q ⟨putR os.dst r regs'', μ1⟩) : AWP X n z (.region id l.toArray true) Q ⟨regs, μ⟩ := by
  intro z1 hz a w st
  obtain ⟨I, hH, hR, hx, hdf, hs⟩ := st.drew
  rw [nth_eq] at hos
  have hsl : s < l.length := (List.getElem?_eq_some_iff.1 hos).1
  simp only [drawChkF, Bool.and_eq_true] at hchk
  obtain ⟨⟨⟨hc1, hc2⟩, hc3⟩, hc4⟩ := hchk
  have hkl : ks.length = s := Nat.eq_of_beq_eq_true hc4
  obtain ⟨qs, h1, h2, h3⟩ := h.parts (by simp; omega)
  obtain ⟨Rfs, h4, h5, more, h6, h7⟩ := h3.parts (by simp; omega)
  have hts : (l.take s).length = s := by simp; omega
  refine wpIn_region_any hm ?_
  refine draw_f hz (regs := regs) (μ := μ) (ks := ks) (M := M) (drawOk hc1) hsl hd hos hgS hkl (fun i hi hu => ?_) (fun i o ho hi => lookChk_spec hc3 ho hi) (qs := qs) (by omega) h2 (Rfs := Rfs) (by omega) h5
    (fun rs es hr he hall => h7 (rs := rs) (es := es) (by omega) (by omega) hall h6) _ _ a _ I (qs ++ [.un]) (List.replicate s (.blk 0 fun _ _ _ => True)) μ (by simp) ?_ (fun i _ hi => by simp [hi]) (fun j o ho hb => by
      have hlt : j < l.length := (List.getElem?_eq_some_iff.1 ho).1
      simp [hlt] at hb) (by simp; omega) (by simp) (fun i hi _ => List.getElem?_append_left (by omega)) (fun i Rf hi _ hb => by
      simp [show i < l.length by omega] at hb) (fun _ => ?_) (fun hb => by simp [hsl] at hb) hH (fun t => ?_) hx hdf hs
  · have := List.all_eq_true.1 hc2 i (List.mem_range.2 hi)
    rwa [hu, Bool.false_or] at this
  · unfold unl
    simp
  · rw [entsL_none (fun i hi => by simp at hi; simp [show i < l.length by omega])]
    exact List.Perm.refl _
  · rw [valAt_none fun i o ho hf => by
      have hlt : i < l.length := by have := (List.getElem?_eq_some_iff.1 ho).1; simp at this; omega
      simp [hlt] at hf]
    exact hR t

end draw

/-- As it was, and entries more. -/
def Mpre (μ : List E) : List E → Prop := fun μ' => ∃ ν, μ' = ν ++ μ

section rules
variable {X : Cfg} {n : Nat} {ops : Array Oper} {M : List E → Prop} {μ : List E} {o : Oper} {rest : List Oper} {ks : List Kd} {regs : List (Nat × V)} {K : List (Nat × V) → Prop}
theorem tdq_nil (h : K regs) : TDq X n ops M μ [] ks regs K := h
theorem tdq_skip (h : TDq X n ops M μ rest ks regs K) : TDq X n ops M μ (o :: rest) (.f :: ks) regs K := h
theorem tdq_det {r : V} {d : Tmp} (hd : o.dst = some d) (hg : o.guard = none) (h : Det X o (ev regs) μ r μ) (k : TDq X n ops M μ rest ks ((d, r) :: regs) K) : TDq X n ops M μ (o :: rest) (.q :: ks) regs K :=
  ⟨r, gdet_plain hg h, by rw [hd]; exact k⟩
theorem tdq_lazy {r : V} {t j d : Nat} {want g : Bool} (ov : List (Nat × V)) (ht : o.dst = some t)
    (hg : o.guard = some (j, want)) (hj : (ops[j]?).bind (·.dst) = some d) (hdn : Nat.blt d n = true) (hb : guardV (look regs d) want g) (hov : ovOk g regs ov)
    (h : g = true → Det X o (ev (ov ++ regs)) μ r μ) (hpl : r.plain = true) (k : TDq X n ops M μ rest ks ((t, .ifv g r) :: regs) K) : TDq X n ops M μ (o :: rest) (.q :: ks) regs K :=
  ⟨.ifv g r, gdet_lazy ov hg hj hdn hb hov h hpl, by rw [ht]; exact k⟩
theorem tdq_detA {r : V} {d : Tmp} (hd : o.dst = some d) (hg : o.guard = none) (h : ∀ μ', Det X o (ev regs) μ' r μ') (k : TDq X n ops M μ rest ks ((d, r) :: regs) K) : TDq X n ops M μ (o :: rest) (.u :: ks) regs K :=
  ⟨r, ⟨gdet_plain hg (h μ), fun μ' _ => gdet_plain hg (h μ')⟩, by rw [hd]; exact k⟩
theorem tdq_detF {r : V} {d : Tmp} (hd : o.dst = some d) (hg : o.guard = none) (h : Det X o (ev regs) μ r μ) (k : TDq X n ops (Mpre μ) μ rest ks ((d, r) :: regs) K) : TDq X n ops (Mpre μ) μ (o :: rest) (.u :: ks) regs K :=
  ⟨r, ⟨gdet_plain hg h, fun μ' hm => by obtain ⟨ν, rfl⟩ := hm; exact gdet_any (gdet_plain hg h) (List.Perm.refl _)⟩, by rw [hd]; exact k⟩
end rules

theorem tdf_nil {X : Cfg} {regs : List (Nat × V)} {ks : List Kd} {acc : List (Option Tmp × (V → E → Prop))} {K : List (Option Tmp × (V → E → Prop)) → Prop} (h : K acc) : TDf X regs [] ks acc K := by cases ks <;> exact h
theorem fresh_of {X : Cfg} {o : Oper} {e : Operand → V} {P : Value → Prop} {ef : Value → E} (h : OpE X o e [] fun r μ' => ∃ v, P v ∧ r = .c (.lit v) ∧ μ' = [ef v]) : Fresh X o e fun r en => ∃ v, P v ∧ r = .c (.lit v) ∧ en = ef v :=
  h.mono fun _ _ ⟨v, h1, h2, h3⟩ => ⟨ef v, ⟨v, h1, h2, rfl⟩, h3⟩
theorem fresh_alloc' {X : Cfg} {o : Oper} {e : Operand → V} {t : TypeId} {cells : List C} (h : OpE X o e [] fun r μ' => ∃ b, r = .c (.lit (.pointer (some ⟨b, 0, none⟩))) ∧ μ' = [.row b t cells]) : Fresh X o e fun r en => ∃ b, r = .c (.lit (.pointer (some ⟨b, 0, none⟩))) ∧ en = .row b t cells :=
  h.mono fun _ _ ⟨b, h2, h3⟩ => ⟨.row b t cells, ⟨b, h2, rfl⟩, h3⟩
theorem fresh_own {X : Cfg} {o : Oper} {e : Operand → V} {t : TypeId} {size : Nat} {rows : List (List C)} (h : OpE X o e [] fun r μ' => ∃ sv, r = .c (.lit sv) ∧ μ' = [.vec sv t size rows]) : Fresh X o e fun r en => ∃ sv, r = .c (.lit sv) ∧ en = .vec sv t size rows :=
  h.mono fun _ _ ⟨sv, h2, h3⟩ => ⟨.vec sv t size rows, ⟨sv, h2, rfl⟩, h3⟩

theorem tdf_fresh {X : Cfg} {regs : List (Nat × V)} {o : Oper} {rest : List Oper} {ks : List Kd} {acc : List (Option Tmp × (V → E → Prop))} {K : List (Option Tmp × (V → E → Prop)) → Prop} {Rf : V → E → Prop} (h : Fresh X o (ev regs) Rf) (k : TDf X regs rest ks (acc ++ [(o.dst, Rf)]) K) : TDf X regs (o :: rest) (.f :: ks) acc K := ⟨Rf, h, k⟩
theorem tdf_q {X : Cfg} {regs : List (Nat × V)} {o : Oper} {rest : List Oper} {ks : List Kd} {acc : List (Option Tmp × (V → E → Prop))} {K : List (Option Tmp × (V → E → Prop)) → Prop} (k : TDf X regs rest ks acc K) : TDf X regs (o :: rest) (.q :: ks) acc K := k
theorem tdf_u {X : Cfg} {regs : List (Nat × V)} {o : Oper} {rest : List Oper} {ks : List Kd} {acc : List (Option Tmp × (V → E → Prop))} {K : List (Option Tmp × (V → E → Prop)) → Prop} (k : TDf X regs rest ks acc K) : TDf X regs (o :: rest) (.u :: ks) acc K := k
theorem allch_nil {regs : List (Nat × V)} {ν : List E} {K : List (Nat × V) → List E → Prop} (h : K regs ν) : AllCh [] regs ν K := h
theorem allch_cons {d : Tmp} {Rf : V → E → Prop} {acc : List (Option Tmp × (V → E → Prop))} {regs : List (Nat × V)} {ν : List E} {K : List (Nat × V) → List E → Prop} (h : ∀ v en, Rf v en → AllCh acc ((d, v) :: regs) (en :: ν) K) : AllCh ((some d, Rf) :: acc) regs ν K := h
theorem awp_draw_p {X : Cfg} {n : Nat} {z : Z} {Q : Exit → S → Prop} {regs : List (Nat × V)} {μ : List E} {l : List Oper} {id : Nat} (s : Nat) (ks : List Kd) {os : Oper} (hm : X.P.follows .mixedOrders = true) (hchk : drawChkF l s ks = true) (hos : nth l s = some os) (hgS : os.guard = none) (hd : l.all (dstOk n) = true)
    (h : TDq X n l.toArray (Mpre μ) μ (l.take s) ks regs fun regs' => TDf X regs' (l.take s) ks [] fun acc => AllCh acc regs' μ fun regs'' μ'' => ∃ R, OpE X os (ev regs'') μ'' R ∧ (∀ r μ1, R r μ1 → Mpre μ μ1) ∧ ∀ r μ1, R r μ1 → RWP X n z l.toArray (l.drop (s + 1)) Q ⟨putR os.dst r regs'', μ1⟩) : AWP X n z (.region id l.toArray true) Q ⟨regs, μ⟩ :=
  awp_draw_f s ks (Mpre μ) hm hchk hos hgS hd h

/-- Entries more; one entry changed. -/
def Mset (μ : List E) (p : Nat) : List E → Prop := fun μ' => ∃ ν, μ' = ν ++ μ ∨ ∃ en, μ' = ν ++ setN μ p en

section rules2
variable {X : Cfg} {n : Nat} {ops : Array Oper} {μ : List E} {p : Nat} {o : Oper} {rest : List Oper} {ks : List Kd} {regs : List (Nat × V)} {K : List (Nat × V) → Prop}
theorem gdet_set {r : V} (h1 : GDet X n ops o regs μ r) (h2 : ∀ en, GDet X n ops o regs (setN μ p en) r) : ∀ μ', Mset μ p μ' → GDet X n ops o regs μ' r := by
  rintro μ' ⟨ν, rfl | ⟨en, rfl⟩⟩
  · exact gdet_any h1 (List.Perm.refl _)
  · exact gdet_any (h2 en) (List.Perm.refl _)
theorem tdq_detS {r : V} {d : Tmp} (hd : o.dst = some d) (hg : o.guard = none) (h1 : Det X o (ev regs) μ r μ) (h2 : ∀ en, Det X o (ev regs) (setN μ p en) r (setN μ p en)) (k : TDq X n ops (Mset μ p) μ rest ks ((d, r) :: regs) K) : TDq X n ops (Mset μ p) μ (o :: rest) (.u :: ks) regs K :=
  ⟨r, ⟨gdet_plain hg h1, gdet_set (gdet_plain hg h1) fun en => gdet_plain hg (h2 en)⟩, by rw [hd]; exact k⟩
theorem tdq_lazyS {r : V} {t j d : Nat} {want g : Bool} (ov : List (Nat × V)) (ht : o.dst = some t)
    (hg : o.guard = some (j, want)) (hj : (ops[j]?).bind (·.dst) = some d) (hdn : Nat.blt d n = true) (hb : guardV (look regs d) want g) (hov : ovOk g regs ov)
    (h1 : g = true → Det X o (ev (ov ++ regs)) μ r μ) (h2 : g = true → ∀ en, Det X o (ev (ov ++ regs)) (setN μ p en) r (setN μ p en)) (hpl : r.plain = true) (k : TDq X n ops (Mset μ p) μ rest ks ((t, .ifv g r) :: regs) K) : TDq X n ops (Mset μ p) μ (o :: rest) (.u :: ks) regs K :=
  ⟨.ifv g r, ⟨gdet_lazy ov hg hj hdn hb hov h1 hpl, gdet_set (gdet_lazy ov hg hj hdn hb hov h1 hpl) fun en => gdet_lazy ov hg hj hdn hb hov (fun h => h2 h en) hpl⟩, by rw [ht]; exact k⟩
theorem tdq_lazyF {r : V} {t j d : Nat} {want g : Bool} (ov : List (Nat × V)) (ht : o.dst = some t)
    (hg : o.guard = some (j, want)) (hj : (ops[j]?).bind (·.dst) = some d) (hdn : Nat.blt d n = true) (hb : guardV (look regs d) want g) (hov : ovOk g regs ov)
    (h1 : g = true → Det X o (ev (ov ++ regs)) μ r μ) (hpl : r.plain = true) (k : TDq X n ops (Mpre μ) μ rest ks ((t, .ifv g r) :: regs) K) : TDq X n ops (Mpre μ) μ (o :: rest) (.u :: ks) regs K :=
  ⟨.ifv g r, ⟨gdet_lazy ov hg hj hdn hb hov h1 hpl, fun μ' hm => by obtain ⟨ν, rfl⟩ := hm; exact gdet_any (gdet_lazy ov hg hj hdn hb hov h1 hpl) (List.Perm.refl _)⟩, by rw [ht]; exact k⟩
end rules2

theorem awp_draw_t {X : Cfg} {n : Nat} {z : Z} {Q : Exit → S → Prop} {regs : List (Nat × V)} {μ : List E} {l : List Oper} {id : Nat} (s p : Nat) (ks : List Kd) {os : Oper} (hm : X.P.follows .mixedOrders = true) (hchk : drawChkF l s ks = true) (hos : nth l s = some os) (hgS : os.guard = none) (hd : l.all (dstOk n) = true)
    (h : TDq X n l.toArray (Mset μ p) μ (l.take s) ks regs fun regs' => TDf X regs' (l.take s) ks [] fun acc => AllCh acc regs' μ fun regs'' μ'' => ∃ R, OpE X os (ev regs'') μ'' R ∧ (∀ r μ1, R r μ1 → Mset μ p μ1) ∧ ∀ r μ1, R r μ1 → RWP X n z l.toArray (l.drop (s + 1)) Q ⟨putR os.dst r regs'', μ1⟩) : AWP X n z (.region id l.toArray true) Q ⟨regs, μ⟩ :=
  awp_draw_f s ks (Mset μ p) hm hchk hos hgS hd h

end Go.Eng
