/-
  The engine, part I: regions whose order is open: quiet operations come to the same in every order.
  Conditions: none; plain definitions and theorems over any program.
-/
import Derived.Test.YtgoggemkajhloaaGreatDoorEngH
namespace Go.Eng
open Go Go.RowKit

theorem St.drew {X : Cfg} {n : Nat} {z : Z} {σ : S} {a : Act} {w : World} (h : St X n z σ a w) : St X n z σ a { w with drawn := w.drawn + 1 } := by
  obtain ⟨I, hH, hR, hx, hd, hs⟩ := h
  have same : ∀ b : Nat, ({ w with drawn := w.drawn + 1 } : World).heap[b]? = w.heap[b]? := fun _ => rfl
  refine ⟨I, ⟨hH.lo, X.hG w _ (fun b _ => same b) hH.glob, hH.nodup, hH.own, hH.imm, fun e he => (hH.rep e he).mono (hH.mono e he) (fun b _ => same b) (fun _ h => h) fun b _ => same b, hH.mono⟩, fun t => (hR t).mono (fun b _ => same b) fun _ h => h, ⟨hx.os, hx.tape, hx.output, hx.size, fun b hb hm => hx.block b hb hm, hx.imm, hx.imm', hx.own'⟩, hd, hs⟩

/-- A quiet operation, guarded or not, looked at alone: from the registers that it looks at to its result. -/
def GDet (X : Cfg) (n : Nat) (ops : Array Oper) (o : Oper) (regs : List (Nat × V)) (μ : List E) (r : V) : Prop :=
  ∀ (a : Act) (w : World) (I : Nat → Prop), Heap X w I μ → (∀ t, t ∈ o.looksAt ops → VRep w I (look regs t) (a.tmps.getD t undef)) → a.tmps.size = n →
    ∀ (K : Act → World → Prop) (Q : Exit → Act → World → Prop), (∀ v I' w', VRep w' I' r v → Heap X w' I' μ → Ext w I μ w' I' μ → K (a.put o.dst v) w') →
      if Region.wanted o (yielded ops a.tmps) then OW X.P o a w K Q else K (a.put o.dst undef) w

theorem looks_op {ops : Array Oper} {o : Oper} {t : Tmp} (h : Operand.tmp t ∈ o.op.operands) : t ∈ o.looksAt ops := by
  unfold Oper.looksAt
  refine List.mem_append.2 (.inl (List.mem_filterMap.2 ⟨.tmp t, by simpa using h, rfl⟩))

theorem ev_looks {w : World} {I : Nat → Prop} {regs : List (Nat × V)} {a : Act} {ops : Array Oper} {o : Oper} (h : ∀ t, t ∈ o.looksAt ops → VRep w I (look regs t) (a.tmps.getD t undef)) (x : Operand) (hx : x ∈ o.op.operands) : VRep w I (ev regs x) (a.eval x) := by
  cases x with
  | tmp t => exact h t (looks_op hx)
  | const v => exact constV_rep w I v
  | global g => exact CRep.lit _ rfl
  | func f => exact CRep.fn (.func f) [] [] [] [] rfl rfl (fun j c u hc => by simp at hc) (fun j c u hc => by simp at hc)

theorem gdet_plain {X : Cfg} {n : Nat} {ops : Array Oper} {o : Oper} {regs : List (Nat × V)} {μ : List E} {r : V} (hg : o.guard = none) (h : Det X o (ev regs) μ r μ) : GDet X n ops o regs μ r := by
  intro a w I hH hR hs K Q k
  rw [if_pos (by simp [Region.wanted, hg])]
  refine h a w I hH (ev_looks hR) K Q ?_
  rintro v r' μ' I' w' ⟨rfl, rfl⟩ hv hH' hx
  exact k v I' w' hv hH' hx

theorem ov_looks {w : World} {I : Nat → Prop} {g : Bool} (hg : g = true) {regs : List (Nat × V)} {a : Act} {L : List Nat} (hR : ∀ t, t ∈ L → VRep w I (look regs t) (a.tmps.getD t undef)) : ∀ {ov : List (Nat × V)}, ovOk g regs ov → ∀ t, t ∈ L → VRep w I (look (ov ++ regs) t) (a.tmps.getD t undef)
  | [], _, t, ht => hR t ht
  | (d, y) :: r, h, t, ht => by
    rw [List.cons_append, look_putR]
    split
    · rename_i e
      subst e
      have h1 := hR d ht
      rw [h.1] at h1
      exact V.ifv_rep hg h.2.1 h1
    · exact ov_looks hg hR h.2.2 t ht

theorem gdet_lazy {X : Cfg} {n : Nat} {ops : Array Oper} {o : Oper} {regs : List (Nat × V)} {μ : List E} {r : V} {j d : Nat} {want g : Bool} (ov : List (Nat × V))
    (hg : o.guard = some (j, want)) (hj : (ops[j]?).bind (·.dst) = some d) (hdn : Nat.blt d n = true) (hb : guardV (look regs d) want g) (hov : ovOk g regs ov)
    (h : g = true → Det X o (ev (ov ++ regs)) μ r μ) (hpl : r.plain = true) : GDet X n ops o regs μ (.ifv g r) := by
  intro a w I hH hR hs K Q k
  have hlt : d < n := by simpa [Nat.blt_eq] using hdn
  have hdl : d ∈ o.looksAt ops := by
    unfold Oper.looksAt
    refine List.mem_append.2 (.inr ?_)
    simp [hg, hj]
  have hw : Region.wanted o (yielded ops a.tmps) = g := by
    have hR2 : ∀ t, VRep w I (look [(d, look regs d)] t) (a.tmps.getD t undef) := fun t => by
      rw [look_putR]
      split
      · rename_i e; subst e; exact hR d hdl
      · trivial
    refine wanted_g hR2 hs hg hj hlt ?_
    rw [look_putR, if_pos rfl]
    exact hb
  rw [hw]
  cases hgv : g
  · rw [if_neg (by simp)]
    refine k undef I w ?_ hH (Ext.refl _ _ _)
    show V1Rep w I (.ifv g r) undef
    exact ⟨fun h => absurd (hgv.symm.trans h) (by simp), fun _ => rfl⟩
  · rw [if_pos rfl]
    refine h hgv a w I hH (ev_looks (ov_looks hgv hR hov)) K Q ?_
    rintro v r' μ' I' w' ⟨rfl, rfl⟩ hv hH' hx
    refine k v I' w' ?_ hH' hx
    show V1Rep w' I' (.ifv g r') v
    refine ⟨fun _ => ?_, fun h => absurd (hgv.symm.trans h) (by simp)⟩
    cases r' with
    | c y => exact hv
    | agg l => exact hv
    | un => trivial
    | tup l => cases hpl
    | ifv b x => cases hpl

/-- Quiet operations in the order of the text, then K of the registers. -/
def TD (X : Cfg) (n : Nat) (ops : Array Oper) (μ : List E) : List Oper → List (Nat × V) → (List (Nat × V) → Prop) → Prop
  | [], regs, K => K regs
  | o :: rest, regs, K => ∃ r, GDet X n ops o regs μ r ∧ TD X n ops μ rest (putR o.dst r regs) K

section rules
variable {X : Cfg} {n : Nat} {ops : Array Oper} {μ : List E} {o : Oper} {rest : List Oper} {regs : List (Nat × V)} {K : List (Nat × V) → Prop}
theorem td_nil (h : K regs) : TD X n ops μ [] regs K := h
theorem td_det {r : V} {d : Tmp} (hd : o.dst = some d) (hg : o.guard = none) (h : Det X o (ev regs) μ r μ) (k : TD X n ops μ rest ((d, r) :: regs) K) : TD X n ops μ (o :: rest) regs K :=
  ⟨r, gdet_plain hg h, by rw [hd]; exact k⟩
theorem td_lazy {r : V} {t j d : Nat} {want g : Bool} (ov : List (Nat × V)) (ht : o.dst = some t)
    (hg : o.guard = some (j, want)) (hj : (ops[j]?).bind (·.dst) = some d) (hdn : Nat.blt d n = true) (hb : guardV (look regs d) want g) (hov : ovOk g regs ov)
    (h : g = true → Det X o (ev (ov ++ regs)) μ r μ) (hpl : r.plain = true) (k : TD X n ops μ rest ((t, .ifv g r) :: regs) K) : TD X n ops μ (o :: rest) regs K :=
  ⟨.ifv g r, gdet_lazy ov hg hj hdn hb hov h hpl, by rw [ht]; exact k⟩
end rules

def putAll : List Oper → List V → List (Nat × V) → List (Nat × V)
  | o :: l, r :: rs, regs => putAll l rs (putR o.dst r regs)
  | _, _, regs => regs

theorem TD.parts {X : Cfg} {n : Nat} {ops : Array Oper} {μ : List E} {K : List (Nat × V) → Prop} : ∀ {l : List Oper} {regs : List (Nat × V)}, TD X n ops μ l regs K →
    ∃ rs : List V, rs.length = l.length ∧ (∀ (i : Nat) o r, l[i]? = some o → rs[i]? = some r → GDet X n ops o (putAll (l.take i) (rs.take i) regs) μ r) ∧ K (putAll l rs regs)
  | [], regs, h => ⟨[], rfl, fun i o r h => by simp at h, h⟩
  | o :: l, regs, ⟨r, hr, h⟩ => by
    obtain ⟨rs, h1, h2, h3⟩ := TD.parts h
    refine ⟨r :: rs, by simp [h1], fun i o' r' ho hr' => ?_, h3⟩
    cases i with
    | zero => simp at ho hr'; subst ho hr'; exact hr
    | succ i => exact h2 i o' r' (by simpa using ho) (by simpa using hr')

/-- The value of register t where just the operations in f have run. -/
def valAt : List Oper → List V → (Nat → Bool) → V → Nat → V
  | o :: l, r :: rs, f, dflt, t => valAt l rs (fun i => f (i + 1)) (if f 0 = true ∧ o.dst = some t then r else dflt) t
  | _, _, _, dflt, _ => dflt

theorem valAt_congr {t : Nat} : ∀ {l : List Oper} {rs : List V} {f g : Nat → Bool} {d : V}, (∀ (i : Nat) o, l[i]? = some o → o.dst = some t → f i = g i) → valAt l rs f d t = valAt l rs g d t
  | [], _, _, _, _, _ => by simp [valAt]
  | _ :: _, [], _, _, _, _ => by simp [valAt]
  | o :: l, r :: rs, f, g, d, h => by
    simp only [valAt]
    have h0 : (f 0 = true ∧ o.dst = some t) ↔ (g 0 = true ∧ o.dst = some t) := by
      constructor
      · rintro ⟨h1, h2⟩; exact ⟨by rw [← h 0 o rfl h2]; exact h1, h2⟩
      · rintro ⟨h1, h2⟩; exact ⟨by rw [h 0 o rfl h2]; exact h1, h2⟩
    simp only [h0]
    exact valAt_congr fun i o' ho hd => h (i + 1) o' (by simpa using ho) hd

theorem valAt_none {t : Nat} : ∀ {l : List Oper} {rs : List V} {f : Nat → Bool} {d : V}, (∀ (i : Nat) o, l[i]? = some o → f i = true → o.dst ≠ some t) → valAt l rs f d t = d
  | [], _, _, _, _ => by simp [valAt]
  | _ :: _, [], _, _, _ => by simp [valAt]
  | o :: l, r :: rs, f, d, h => by
    simp only [valAt]
    rw [if_neg (fun hh => h 0 o rfl hh.1 hh.2)]
    exact valAt_none fun i o' ho hf => h (i + 1) o' (by simpa using ho) hf

theorem look_putAll {t : Nat} : ∀ {l : List Oper} {rs : List V} {regs : List (Nat × V)} (i : Nat), look (putAll (l.take i) (rs.take i) regs) t = valAt l rs (fun j => decide (j < i)) (look regs t) t
  | [], _, _, i => by simp [putAll, valAt]
  | _ :: _, [], _, i => by cases i <;> simp [putAll, valAt]
  | o :: l, r :: rs, regs, 0 => by
    simp only [List.take_zero, putAll, valAt]
    rw [if_neg (by simp)]
    exact (valAt_none fun i o' _ hf => by simp at hf).symm
  | o :: l, r :: rs, regs, i + 1 => by
    simp only [List.take_succ_cons, putAll, valAt]
    rw [look_putAll i]
    have e : look (putR o.dst r regs) t = if (decide (0 < i + 1) = true ∧ o.dst = some t) then r else look regs t := by
      cases hd : o.dst with
      | none => simp [putR]
      | some d =>
        simp only [putR]
        rw [look_putR]
        by_cases h : d = t <;> simp [h]
    rw [e]
    congr 1
    funext j
    simp

/-- Running one more, at a register that no other writes. -/
theorem valAt_step {t : Nat} : ∀ {l : List Oper} {rs : List V} {f : Nat → Bool} {d : V} {i : Nat} {o : Oper} {r : V}, l[i]? = some o → rs[i]? = some r → (∀ (j : Nat) o', l[j]? = some o' → j ≠ i → o.dst ≠ none → o'.dst ≠ o.dst) →
    valAt l rs (fun j => if j = i then true else f j) d t = if o.dst = some t then r else valAt l rs (fun j => if j = i then false else f j) d t
  | [], _, _, _, i, o, r, h, _, _ => by simp at h
  | _ :: _, [], _, _, i, o, r, _, h, _ => by simp at h
  | o0 :: l, r0 :: rs, f, d, 0, o, r, ho, hr, hu => by
    simp only [List.getElem?_cons_zero, Option.some.injEq] at ho hr
    subst ho hr
    simp only [valAt]
    by_cases hd : o0.dst = some t
    · rw [if_pos (by simp [hd]), if_pos hd]
      refine valAt_none fun j o' hj _ hd' => hu (j + 1) o' (by simpa using hj) (by omega) (by simp [hd]) (by rw [hd', hd])
    · rw [if_neg (by simp [hd]), if_neg hd, if_neg (by simp)]
      rfl
  | o0 :: l, r0 :: rs, f, d, i + 1, o, r, ho, hr, hu => by
    have ih := valAt_step (t := t) (l := l) (rs := rs) (f := fun j => f (j + 1)) (d := if f 0 = true ∧ o0.dst = some t then r0 else d) (i := i) (by simpa using ho) (by simpa using hr) (fun j o' hj hne hnn => hu (j + 1) o' (by simpa using hj) (by omega) hnn)
    simp only [valAt]
    have e1 : (if (0 : Nat) = i + 1 then true else f 0) = f 0 := if_neg (by omega)
    have e2 : (if (0 : Nat) = i + 1 then false else f 0) = f 0 := if_neg (by omega)
    simp only [e1, e2]
    have e3 : (fun j => if j + 1 = i + 1 then true else f (j + 1)) = (fun j => if j = i then true else f (j + 1)) := by funext j; simp
    have e4 : (fun j => if j + 1 = i + 1 then false else f (j + 1)) = (fun j => if j = i then false else f (j + 1)) := by funext j; simp
    simp only [e3, e4]
    exact ih

def hasEdge (o : Oper) (j : Nat) : Bool := o.after.any fun e => Nat.beq e.on j && Region.binds .any e

theorem hasEdge_spec {o : Oper} {j : Nat} (h : hasEdge o j = true) : ∃ e, e ∈ o.after ∧ e.on = j ∧ Region.binds .any e = true := by
  unfold hasEdge at h
  rw [Array.any_eq_true] at h
  obtain ⟨i, hi, he⟩ := h
  simp only [Bool.and_eq_true] at he
  exact ⟨_, Array.getElem_mem hi, Nat.eq_of_beq_eq_true he.1, he.2⟩

/-- Operation i comes before s, by one edge or by several. -/
def reach (l : List Oper) : Nat → Nat → Nat → Bool
  | 0, _, _ => false
  | f + 1, s, i => match nth l s with
    | some o => hasEdge o i || (List.range s).any fun j => hasEdge o j && reach l f j i
    | none => false

def Closed (l : List Oper) (listed : Array Bool) : Prop := ∀ (j : Nat) o, l[j]? = some o → listed.getD j true = true → ∀ e, e ∈ o.after → Region.binds .any e = true → listed.getD e.on false = true

theorem getD_tf {listed : Array Bool} {j : Nat} (h : listed.getD j false = true) : listed.getD j true = true := by
  rw [Array.getD_eq_getD_getElem?] at h ⊢
  cases hj : listed[j]? with
  | none => rw [hj] at h; cases h
  | some b => rw [hj] at h; exact h

theorem reach_listed {l : List Oper} {listed : Array Bool} (hc : Closed l listed) : ∀ (f s i : Nat), reach l f s i = true → listed.getD s true = true → listed.getD i false = true
  | 0, _, _, h, _ => by simp [reach] at h
  | f + 1, s, i, h, hs => by
    unfold reach at h
    split at h
    · rename_i o ho
      rw [nth_eq] at ho
      simp only [Bool.or_eq_true, List.any_eq_true, Bool.and_eq_true] at h
      rcases h with h | ⟨j, _, h1, h2⟩
      · obtain ⟨e, he1, he2, he3⟩ := hasEdge_spec h
        have := hc s o ho hs e he1 he3
        rwa [he2] at this
      · obtain ⟨e, he1, he2, he3⟩ := hasEdge_spec h1
        have h3 := hc s o ho hs e he1 he3
        rw [he2] at h3
        exact reach_listed hc f j i h2 (getD_tf h3)
    · cases h

theorem reach_ready {l : List Oper} {listed : Array Bool} (hc : Closed l listed) {f s i : Nat} {o : Oper} (ho : l[s]? = some o) (hedge : ∀ e, e ∈ o.after → Region.binds .any e = true → listed.getD e.on false = true) (h : reach l (f + 1) s i = true) : listed.getD i false = true := by
  unfold reach at h
  rw [nth_eq, ho] at h
  simp only [Bool.or_eq_true, List.any_eq_true, Bool.and_eq_true] at h
  rcases h with h | ⟨j, _, h1, h2⟩
  · obtain ⟨e, he1, he2, he3⟩ := hasEdge_spec h
    have := hedge e he1 he3
    rwa [he2] at this
  · obtain ⟨e, he1, he2, he3⟩ := hasEdge_spec h1
    have h3 := hedge e he1 he3
    rw [he2] at h3
    exact reach_listed hc f j i h2 (getD_tf h3)


/-- The first m operations are quiet and write registers of their own; what one looks at is written before it; the others come behind all. -/
def drawChk (l : List Oper) (m : Nat) : Bool :=
  l.zipIdx.all fun p =>
    p.1.after.all (fun e => !Region.binds .any e || Nat.blt e.on p.2) &&
    cond (Nat.blt p.2 m)
      ((p.1.looksAt l.toArray).all (fun t => l.zipIdx.all fun q => !Nat.blt q.2 m || !(q.1.dst == some t) || (Nat.blt q.2 p.2 && hasEdge p.1 q.2) || (Nat.blt p.2 q.2 && hasEdge q.1 p.2)) &&
        l.zipIdx.all fun q => !Nat.blt q.2 m || Nat.beq q.2 p.2 || p.1.dst == none || !(q.1.dst == p.1.dst))
      (cond (Nat.beq p.2 m) ((List.range m).all (reach l 40 m)) (hasEdge p.1 (p.2 - 1)))

structure DrawOk (l : List Oper) (m : Nat) : Prop where
  back : ∀ (i : Nat) o, l[i]? = some o → ∀ e, e ∈ o.after → Region.binds .any e = true → e.on < i
  looks : ∀ (i : Nat) o, l[i]? = some o → i < m → ∀ t, t ∈ o.looksAt l.toArray → ∀ (j : Nat) o', l[j]? = some o' → j < m → o'.dst = some t → (j < i ∧ ∃ e, e ∈ o.after ∧ e.on = j ∧ Region.binds .any e = true) ∨ (i < j ∧ ∃ e, e ∈ o'.after ∧ e.on = i ∧ Region.binds .any e = true)
  own : ∀ (i : Nat) o, l[i]? = some o → i < m → ∀ (j : Nat) o', l[j]? = some o' → j < m → j ≠ i → o.dst ≠ none → o'.dst ≠ o.dst
  tail1 : ∀ (i : Nat) o, l[i]? = some o → m < i → ∃ e, e ∈ o.after ∧ e.on = i - 1 ∧ Region.binds .any e = true
  tail0 : ∀ o, l[m]? = some o → ∀ j, j < m → reach l 40 m j = true

theorem mem_zip {l : List Oper} {i : Nat} {o : Oper} (h : l[i]? = some o) : (o, i) ∈ l.zipIdx := by
  rw [List.mem_zipIdx_iff_getElem?]
  exact h

theorem drawOk {l : List Oper} {m : Nat} (h : drawChk l m = true) : DrawOk l m := by
  unfold drawChk at h
  rw [List.all_eq_true] at h
  refine ⟨fun i o ho e he hb => ?_, fun i o ho him t ht j o' ho' hjm hd => ?_, fun i o ho him j o' ho' hjm hne hnn => ?_, fun i o ho him => ?_, fun o ho j hj => ?_⟩
  · have h1 := h _ (mem_zip ho)
    simp only [Bool.and_eq_true] at h1
    have h2 := h1.1
    rw [Array.all_eq_true_iff_forall_mem] at h2
    have h3 := h2 e he
    simp only [hb, Bool.not_true, Bool.false_or] at h3
    simpa [Nat.blt_eq] using h3
  · have h1 := h _ (mem_zip ho)
    simp only [Bool.and_eq_true, show Nat.blt i m = true from by simpa [Nat.blt_eq] using him, cond_true] at h1
    have h2 := h1.2.1
    rw [List.all_eq_true] at h2
    have h3 := h2 t ht
    rw [List.all_eq_true] at h3
    have h4 := h3 _ (mem_zip ho')
    simp only [show Nat.blt j m = true from by simpa [Nat.blt_eq] using hjm, hd, beq_self_eq_true, Bool.not_true, Bool.false_or, Bool.or_eq_true, Bool.and_eq_true] at h4
    rcases h4 with h4 | h4
    · exact .inl ⟨by simpa [Nat.blt_eq] using h4.1, hasEdge_spec h4.2⟩
    · exact .inr ⟨by simpa [Nat.blt_eq] using h4.1, hasEdge_spec h4.2⟩
  · have h1 := h _ (mem_zip ho)
    simp only [Bool.and_eq_true, show Nat.blt i m = true from by simpa [Nat.blt_eq] using him, cond_true] at h1
    have h2 := h1.2.2
    rw [List.all_eq_true] at h2
    have h4 := h2 _ (mem_zip ho')
    have hbeq : Nat.beq j i = false := by cases hb : Nat.beq j i; rfl; exact absurd (Nat.eq_of_beq_eq_true hb) hne
    have hnone : (o.dst == none) = false := by cases hod : o.dst with
      | none => exact absurd hod hnn
      | some d => rfl
    simp only [show Nat.blt j m = true from by simpa [Nat.blt_eq] using hjm, hbeq, hnone, Bool.not_true, Bool.false_or, Bool.not_eq_true', beq_eq_false_iff_ne] at h4
    exact h4
  · have h1 := h _ (mem_zip ho)
    have hbl : Nat.blt i m = false := by cases hb : Nat.blt i m; rfl; rw [Nat.blt_eq] at hb; omega
    have hbe : Nat.beq i m = false := by cases hb : Nat.beq i m; rfl; have := Nat.eq_of_beq_eq_true hb; omega
    simp only [Bool.and_eq_true, hbl, hbe, cond_false] at h1
    exact hasEdge_spec h1.2
  · have h1 := h _ (mem_zip ho)
    have hbl : Nat.blt m m = false := by cases hb : Nat.blt m m; rfl; rw [Nat.blt_eq] at hb; omega
    have hbe : Nat.beq m m = true := Nat.beq_eq ▸ rfl
    simp only [Bool.and_eq_true, hbl, hbe, cond_false, cond_true] at h1
    have h2 := h1.2
    rw [List.all_eq_true] at h2
    exact h2 j (List.mem_range.2 hj)

def unl (listed : Array Bool) : Nat := listed.toList.count false

theorem unl_set {listed : Array Bool} {i : Nat} (h : listed.getD i true = false) : unl (listed.setIfInBounds i true) + 1 = unl listed := by
  have hlt : i < listed.size := by
    rcases Nat.lt_or_ge i listed.size with h' | h'
    · exact h'
    · simp [Array.getElem?_eq_none h'] at h
  have hi : listed[i] = false := by simpa [hlt] using h
  unfold unl
  rw [Array.toList_setIfInBounds]
  have hlt' : i < listed.toList.length := by simpa using hlt
  rw [List.set_eq_take_append_cons_drop, if_pos hlt']
  have e : listed.toList = listed.toList.take i ++ listed.toList[i] :: listed.toList.drop (i + 1) := by
    rw [← List.drop_eq_getElem_cons hlt', List.take_append_drop]
  have e2 : listed.toList[i] = false := by simpa using hi
  rw [e2] at e
  generalize listed.toList.take i = A at e ⊢
  generalize listed.toList.drop (i + 1) = B at e ⊢
  rw [e]
  simp [List.count_append]
  omega

section draw
variable {X : Cfg} {n : Nat} {z : Z} {Q : Exit → S → Prop} {regs : List (Nat × V)} {μ : List E} {l : List Oper} {m : Nat}

/-- Behind the quiet ones the others run in the order of the text. -/
theorem draw_tail {z1 : Z} (ok : DrawOk l m) : ∀ (fuel p : Nat) (listed : Array Bool) (a : Act) (w : World), listed.size = l.length → m ≤ p → p ≤ l.length → (∀ i, i < l.length → listed.getD i true = decide (i < p)) → l.length = p + fuel → wpListIn (fen z.rd) 0 X.P l.toArray (liftQ X n z1 Q) (l.drop p) a w →
    wpAnyIn (fen z.rd) 0 X.P .any l.toArray (liftQ X n z1 Q) fuel listed a w := by
  intro fuel
  induction fuel with
  | zero =>
    intro p listed a w hsz hmp hpl hl hf h
    have hp : p = l.length := by omega
    subst hp
    rw [List.drop_length] at h
    refine ⟨?_, h⟩
    apply List.eq_nil_iff_forall_not_mem.2
    intro i hi
    rw [mem_ready] at hi
    obtain ⟨h0, o, ho, _⟩ := hi
    have hlt : i < l.length := by simpa using (Array.getElem?_eq_some_iff.1 ho).1
    rw [hl i hlt] at h0
    simp at h0
    omega
  | succ fuel ih =>
    intro p listed a w hsz hmp hpl hl hf h
    have hplt : p < l.length := by omega
    have hop : l[p]? = some l[p] := List.getElem?_eq_getElem hplt
    have only : ∀ i, i ∈ Region.ready .any l.toArray listed → i = p := by
      intro i hi
      rw [mem_ready] at hi
      obtain ⟨h0, o, ho, he⟩ := hi
      have hlt : i < l.length := by simpa using (Array.getElem?_eq_some_iff.1 ho).1
      rw [hl i hlt] at h0
      have hip : ¬ i < p := by simpa using h0
      rcases Nat.lt_or_ge p i with hpi | hpi
      · obtain ⟨e, he1, he2, he3⟩ := ok.tail1 i o (by simpa using ho) (by omega)
        have h1 := he e he1 he3
        rw [he2] at h1
        have h2 := hl (i - 1) (by omega)
        have hnp : ¬ i - 1 < p := by omega
        rw [Array.getD_eq_getD_getElem?] at h1 h2
        rw [Array.getElem?_eq_getElem (by omega)] at h1 h2
        simp only [Option.getD_some, hnp, decide_false] at h1 h2
        rw [h1] at h2
        cases h2
      · omega
    rw [List.drop_eq_getElem_cons hplt] at h
    refine ⟨fun hnil => ?_, fun i hi => ?_⟩
    · exfalso
      have : p ∈ Region.ready .any l.toArray listed := by
        rw [mem_ready]
        refine ⟨by rw [hl p hplt]; simp, l[p], by simp [hplt], fun e he hb => ?_⟩
        have hlt := ok.back p l[p] hop e he hb
        have h2 := hl e.on (by omega)
        rw [Array.getD_eq_getD_getElem?] at h2 ⊢
        rw [Array.getElem?_eq_getElem (by omega)] at h2 ⊢
        simpa [hlt] using h2
      rw [hnil] at this
      simp at this
    · have hip := only i hi
      subst hip
      have hget : (l.toArray)[i]? = some l[i] := by simp [hplt]
      simp only [wpOpIn, hget]
      have hl' : ∀ j, j < l.length → (listed.setIfInBounds i true).getD j true = decide (j < i + 1) := by
        intro j hj
        rw [Array.getD_eq_getD_getElem?, Array.getElem?_setIfInBounds]
        by_cases hji : i = j
        · subst hji; simp [hsz, hj]
        · rw [if_neg hji, ← Array.getD_eq_getD_getElem?, hl j hj]
          exact decide_eq_decide.2 (by omega)
      have next := fun a w => ih (i + 1) (listed.setIfInBounds i true) a w (by simp [hsz]) (by omega) (by omega) hl' (by omega)
      unfold wpListIn at h
      split
      · rename_i hw
        rw [if_pos hw] at h
        exact Oper.wpIn_mono next h
      · rename_i hw
        rw [if_neg hw] at h
        exact ⟨h.1, next _ _ h.2⟩

theorem draw_quiet {z1 : Z} (hz : ZLe z z1) (ok : DrawOk l m) (hml : m ≤ l.length) (hdst : l.all (dstOk n) = true) {rs : List V} (hrs : rs.length = m) (hg : ∀ (i : Nat) o r, (l.take m)[i]? = some o → rs[i]? = some r → GDet X n l.toArray o (putAll ((l.take m).take i) (rs.take i) regs) μ r)
    (hk : RWP X n z l.toArray (l.drop m) Q ⟨putAll (l.take m) rs regs, μ⟩) : ∀ (fuel : Nat) (listed : Array Bool) (a : Act) (w : World) (I : Nat → Prop), listed.size = l.length → unl listed = fuel → (∀ i, m ≤ i → i < l.length → listed.getD i true = false) →
      (∀ (j : Nat) o, l[j]? = some o → listed.getD j true = true → ∀ e, e ∈ o.after → Region.binds .any e = true → listed.getD e.on false = true) →
      Heap X w I μ → (∀ t, VRep w I (valAt (l.take m) rs (fun i => listed.getD i true) (look regs t) t) (a.tmps.getD t undef)) → Ext z1.w z1.I z1.μ w I μ → a.defers = z1.ds → a.tmps.size = n →
      wpAnyIn (fen z.rd) 0 X.P .any l.toArray (liftQ X n z1 Q) fuel listed a w := by
  intro fuel
  induction fuel with
  | zero =>
    intro listed a w I hsz hun htail hclo hH hR hx hd hs
    -- nothing is left: there is no tail either
    have hall : ∀ i, i < l.length → listed.getD i true = true := by
      intro i hi
      cases hb : listed.getD i true with
      | true => rfl
      | false => have := unl_set hb; omega
    have hml' : m = l.length := by
      rcases Nat.lt_or_ge m l.length with h | h
      · have h1 := htail m (Nat.le_refl _) h; rw [hall m h] at h1; cases h1
      · omega
    refine draw_tail ok 0 l.length listed a w hsz hml (Nat.le_refl _) (fun i hi => by rw [hall i hi]; simp [hi]) (by omega) ?_
    have hreg : ∀ t, VRep w I (look (putAll (l.take m) rs regs) t) (a.tmps.getD t undef) := by
      intro t
      have e := look_putAll (l := l.take m) (rs := rs) (regs := regs) (t := t) m
      rw [List.take_take, Nat.min_self, List.take_of_length_le (l := rs) (by omega)] at e
      rw [e]
      have := hR t
      rwa [valAt_congr (g := fun j => decide (j < m)) (fun i o ho _ => by
        have hlt : i < m := by have := (List.getElem?_eq_some_iff.1 ho).1; simp at this; omega
        rw [hall i (by omega)]; simp [hlt])] at this
    have := hk (by rw [hml']; simp) z1 hz a w ⟨I, hH, hreg, hx, hd, hs⟩
    rwa [hml'] at this
  | succ fuel ih =>
    intro listed a w I hsz hun htail hclo hH hR hx hd hs
    by_cases hq : ∀ i, i < m → listed.getD i true = true
    · -- all quiet ones have run
      refine draw_tail ok (fuel + 1) m listed a w hsz (Nat.le_refl _) hml (fun i hi => ?_) ?_ ?_
      · by_cases him : i < m
        · rw [hq i him]; simp [him]
        · rw [htail i (by omega) hi]; simp [him]
      · -- the number that is left
        have hcount : ∀ (k : Nat) (L : List Bool), L.length = l.length → (∀ i b, L[i]? = some b → b = decide (i < m)) → L.count false = l.length - m := by
          intro _ L hL hb
          have : L = (List.range l.length).map fun i => decide (i < m) := by
            apply List.ext_getElem? 
            intro i
            by_cases hi : i < l.length
            · rw [List.getElem?_map, List.getElem?_range hi, List.getElem?_eq_getElem (by omega)]
              simp only [Option.map_some, Option.some.injEq]
              exact hb i _ (List.getElem?_eq_getElem (by omega))
            · rw [List.getElem?_eq_none (by omega), List.getElem?_eq_none (by simp; omega)]
          rw [this]
          have hr : ∀ N, m ≤ N → ((List.range N).map fun i => decide (i < m)).count false = N - m := by
            intro N hN
            induction N with
            | zero => simp
            | succ N ihN =>
              rw [List.range_succ, List.map_append, List.count_append]
              by_cases hmN : m ≤ N
              · rw [ihN hmN]
                have : decide (N < m) = false := by simp; omega
                simp [this]; omega
              · have hm' : m = N + 1 := by omega
                have : decide (N < m) = true := by simp; omega
                have hz : ((List.range N).map fun i => decide (i < m)).count false = 0 := by
                  rw [List.count_eq_zero]
                  intro hmem
                  obtain ⟨i, hi, he⟩ := List.mem_map.1 hmem
                  have := List.mem_range.1 hi
                  simp at he
                  omega
                rw [hz]
                simp [this]; omega
          exact hr _ hml
        have := hcount 0 listed.toList (by simpa using hsz) (fun i b hb => by
          have hlt : i < l.length := by have := (List.getElem?_eq_some_iff.1 hb).1; simp at this; omega
          have hv : listed.getD i true = b := by
            rw [Array.getD_eq_getD_getElem?]
            have : listed[i]? = some b := by simpa using hb
            rw [this]; rfl
          rw [← hv]
          by_cases him : i < m
          · rw [hq i him]; simp [him]
          · rw [htail i (by omega) hlt]; simp [him])
        unfold unl at hun
        omega
      · have hreg : ∀ t, VRep w I (look (putAll (l.take m) rs regs) t) (a.tmps.getD t undef) := by
          intro t
          have e := look_putAll (l := l.take m) (rs := rs) (regs := regs) (t := t) m
          rw [List.take_take, Nat.min_self, List.take_of_length_le (l := rs) (by omega)] at e
          rw [e]
          have := hR t
          rwa [valAt_congr (g := fun j => decide (j < m)) (fun i o ho _ => by
            have hlt : i < m := by have := (List.getElem?_eq_some_iff.1 ho).1; simp at this; omega
            rw [hq i hlt]; simp [hlt])] at this
        exact hk (by
          rw [List.all_eq_true] at hdst ⊢
          exact fun o ho => hdst o (List.mem_of_mem_drop ho)) z1 hz a w ⟨I, hH, hreg, hx, hd, hs⟩
    · -- a quiet one is left
      have hex : ∃ i, i < m ∧ listed.getD i true = false ∧ ∀ j, j < i → listed.getD j true = true := by
        have : ∃ i, i < m ∧ listed.getD i true = false := by
          rcases Classical.not_forall.1 hq with ⟨i, hi⟩
          rcases Classical.not_imp.1 hi with ⟨h1, h2⟩
          exact ⟨i, h1, by cases hb : listed.getD i true; rfl; exact absurd hb h2⟩
        obtain ⟨i, hi, hb⟩ := this
        have strong : ∀ N i, i < N → i < m → listed.getD i true = false → ∃ i, i < m ∧ listed.getD i true = false ∧ ∀ j, j < i → listed.getD j true = true := by
          intro N
          induction N with
          | zero => intro i h; omega
          | succ N ihN =>
            intro i hiN him hb
            by_cases hall : ∀ j, j < i → listed.getD j true = true
            · exact ⟨i, him, hb, hall⟩
            · rcases Classical.not_forall.1 hall with ⟨j, hj⟩
              rcases Classical.not_imp.1 hj with ⟨h1, h2⟩
              exact ihN j (by omega) (by omega) (by cases hb' : listed.getD j true; rfl; exact absurd hb' h2)
        exact strong (i + 1) i (by omega) hi hb
      obtain ⟨i0, hi0, hb0, hmin⟩ := hex
      refine ⟨fun hnil => ?_, fun i hi => ?_⟩
      · exfalso
        have hlt0 : i0 < l.length := by omega
        have : i0 ∈ Region.ready .any l.toArray listed := by
          rw [mem_ready]
          refine ⟨hb0, l[i0], by simp [hlt0], fun e he hb => ?_⟩
          have hlt := ok.back i0 l[i0] (List.getElem?_eq_getElem hlt0) e he hb
          have h2 := hmin e.on hlt
          rw [Array.getD_eq_getD_getElem?] at h2 ⊢
          rw [Array.getElem?_eq_getElem (by omega)] at h2 ⊢
          simpa using h2
        rw [hnil] at this
        simp at this
      · rw [mem_ready] at hi
        obtain ⟨hbi, o, ho, hedge⟩ := hi
        have ho' : l[i]? = some o := by simpa using ho
        have hil : i < l.length := (List.getElem?_eq_some_iff.1 ho').1
        have him : i < m := by
          rcases Nat.lt_or_ge i m with h | h
          · exact h
          · exfalso
            have hun : ∀ j, j < l.length → listed.getD j true = false → ¬ listed.getD j false = true := fun j hj h1 h2 => by
              rw [Array.getD_eq_getD_getElem?] at h1 h2
              rw [Array.getElem?_eq_getElem (by omega)] at h1 h2
              simp only [Option.getD_some] at h1 h2
              rw [h2] at h1
              cases h1
            rcases Nat.lt_or_ge (m) i with hgt | hge
            · obtain ⟨e, he1, he2, he3⟩ := ok.tail1 i o ho' hgt
              have h1 := hedge e he1 he3
              rw [he2] at h1
              exact hun (i - 1) (by omega) (htail (i - 1) (by omega) (by omega)) h1
            · have him : i = m := by omega
              subst him
              exact hun i0 (by omega) hb0 (reach_ready hclo ho' hedge (ok.tail0 o ho' i0 hi0))
        have hot : (l.take m)[i]? = some o := by rw [List.getElem?_take, if_pos him]; exact ho'
        obtain ⟨r, hr⟩ : ∃ r, rs[i]? = some r := ⟨rs[i]'(by omega), List.getElem?_eq_getElem _⟩
        have hG := hg i o r hot hr
        -- what the operation looks at
        have hlook : ∀ t, t ∈ o.looksAt l.toArray → VRep w I (look (putAll ((l.take m).take i) (rs.take i) regs) t) (a.tmps.getD t undef) := by
          intro t ht
          rw [look_putAll (l := l.take m) (rs := rs) (regs := regs) (t := t) i]
          have := hR t
          rwa [valAt_congr (g := fun j => decide (j < i)) (fun j oj hoj hdj => by
            have hjm : j < m := by have := (List.getElem?_eq_some_iff.1 hoj).1; simp at this; omega
            have hoj' : l[j]? = some oj := by rw [List.getElem?_take, if_pos hjm] at hoj; exact hoj
            rcases ok.looks i o ho' him t ht j oj hoj' hjm hdj with ⟨hji, e, he1, he2, he3⟩ | ⟨hij, e, he1, he2, he3⟩
            · have h1 := hedge e he1 he3
              rw [he2, Array.getD_eq_getD_getElem?, Array.getElem?_eq_getElem (by omega)] at h1
              rw [Array.getD_eq_getD_getElem?, Array.getElem?_eq_getElem (by omega)]
              simp only [Option.getD_some] at h1 ⊢
              rw [h1]
              simp [hji]
            · have hnot : ¬ j < i := by omega
              cases hb : listed.getD j true with
              | false => simp [hnot]
              | true =>
                exfalso
                have h1 := hclo j oj hoj' hb e he1 he3
                rw [he2, Array.getD_eq_getD_getElem?, Array.getElem?_eq_getElem (by omega)] at h1
                rw [Array.getD_eq_getD_getElem?, Array.getElem?_eq_getElem (by omega)] at hbi
                simp only [Option.getD_some] at h1 hbi
                rw [h1] at hbi
                cases hbi)] at this
        have hdo : dstOk n o = true := by
          rw [List.all_eq_true] at hdst
          exact hdst o (List.mem_of_getElem? ho')
        simp only [wpOpIn, ho]
        have step : ∀ v I' w', VRep w' I' r v → Heap X w' I' μ → Ext w I μ w' I' μ → wpAnyIn (fen z.rd) 0 X.P .any l.toArray (liftQ X n z1 Q) fuel (listed.setIfInBounds i true) (a.put o.dst v) w' := by
          intro v I' w' hv hH' hx'
          have hu := unl_set hbi
          refine ih (listed.setIfInBounds i true) _ w' I' (by simp [hsz]) (by omega) (fun j hj hjl => ?_) (fun j oj hoj hb e he1 he3 => ?_) hH' (fun t => ?_) (hx.trans hx') ?_ ?_
          · rw [getD_set_ne true (by omega)]; exact htail j hj hjl
          · have key : listed.getD e.on false = true := by
              by_cases hji : j = i
              · subst hji
                rw [ho'] at hoj; cases hoj
                exact hedge e he1 he3
              · rw [getD_set_ne true (Ne.symm hji)] at hb
                exact hclo j oj hoj hb e he1 he3
            rw [Array.getD_eq_getD_getElem?, Array.getElem?_setIfInBounds]
            by_cases hei : i = e.on
            · rw [if_pos hei]
              have : i < listed.size := by omega
              simp [this]
            · rw [if_neg hei, ← Array.getD_eq_getD_getElem?]; exact key
          · have hvs := valAt_step (t := t) (l := l.take m) (rs := rs) (f := fun j => listed.getD j true) (d := look regs t) hot hr (fun j o' hj hne hnn => by
              have hjm : j < m := by have := (List.getElem?_eq_some_iff.1 hj).1; simp at this; omega
              exact ok.own i o ho' him j o' (by rw [List.getElem?_take, if_pos hjm] at hj; exact hj) hjm hne hnn)
            have e1 : (fun j => (listed.setIfInBounds i true).getD j true) = (fun j => if j = i then true else listed.getD j true) := by
              funext j
              by_cases hji : j = i
              · subst hji
                rw [if_pos rfl, Array.getD_eq_getD_getElem?, Array.getElem?_setIfInBounds]
                simp [show j < listed.size by omega]
              · rw [if_neg hji, getD_set_ne true (Ne.symm hji)]
            have e2 : (fun j => if j = i then false else listed.getD j true) = (fun j => listed.getD j true) := by
              funext j
              by_cases hji : j = i
              · subst hji; rw [if_pos rfl, hbi]
              · rw [if_neg hji]
            rw [e1, hvs, e2]
            cases hod : o.dst with
            | none =>
              rw [if_neg (by simp)]
              exact hH.vrep hx' (hR t)
            | some d =>
              have hdn : d < n := by simp only [dstOk, hod, Bool.and_eq_true] at hdo; simpa [Nat.blt_eq] using hdo.1
              rw [tmps_put hs hdn]
              by_cases hdt : d = t
              · subst hdt; rw [if_pos rfl, if_pos rfl]; exact hv
              · rw [if_neg (by simpa using hdt), if_neg hdt]; exact hH.vrep hx' (hR t)
          · cases hod : o.dst <;> simp [Act.put, hd]
          · cases hod : o.dst <;> simp [Act.put, hs]
        have hG' := hG a w I hH hlook hs (wpAnyIn (fen z.rd) 0 X.P .any l.toArray (liftQ X n z1 Q) fuel (listed.setIfInBounds i true)) (liftQ X n z1 Q) step
        split
        · rename_i hw; rw [if_pos hw] at hG'; exact hG' (dstOk.nd hdo) _
        · rename_i hw; rw [if_neg hw] at hG'; exact ⟨fun _ _ => trivial, hG'⟩

/-- A region whose order is open: m quiet operations, then the others. -/
theorem awp_draw {id : Nat} (m : Nat) (hm : X.P.follows .mixedOrders = true) (hchk : drawChk l m = true) (hml : Nat.ble m l.length = true) (hd : l.all (dstOk n) = true)
    (h : TD X n l.toArray μ (l.take m) regs fun regs' => RWP X n z l.toArray (l.drop m) Q ⟨regs', μ⟩) : AWP X n z (.region id l.toArray true) Q ⟨regs, μ⟩ := by
  intro z1 hz a w s
  obtain ⟨I, hH, hR, hx, hdf, hs⟩ := s.drew
  obtain ⟨rs, h1, h2, h3⟩ := h.parts
  have hml' := Nat.le_of_ble_eq_true hml
  refine wpIn_region_any hm ?_
  refine draw_quiet hz (rs := rs) (regs := regs) (drawOk hchk) hml' hd (by rw [h1]; simp; omega) h2 h3 _ _ a _ I (by simp) ?_ (fun i _ hi => by simp [hi]) (fun j o ho hb => by
    have hlt : j < l.length := (List.getElem?_eq_some_iff.1 ho).1
    simp [hlt] at hb) hH (fun t => ?_) hx hdf hs
  · unfold unl
    simp
  · rw [valAt_none fun i o ho hf => by
      have hlt : i < l.length := by have := (List.getElem?_eq_some_iff.1 ho).1; simp at this; omega
      simp [hlt] at hf]
    exact hR t

end draw
end Go.Eng
