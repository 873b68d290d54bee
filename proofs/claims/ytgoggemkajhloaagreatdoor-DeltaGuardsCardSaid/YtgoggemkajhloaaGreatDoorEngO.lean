/-
  The engine, part O: regions whose order is open, with one operation among them that changes memory.
  Conditions: none; plain definitions and theorems over any program.
-/
import Derived.Test.YtgoggemkajhloaaGreatDoorEngN
import Derived.Laws.Cover3
namespace Go.Eng
open Go Go.RowKit

/-- Quiet operations in the order of the text; those that are marked are quiet in every memory of M. -/
def TD2 (X : Cfg) (n : Nat) (ops : Array Oper) (M : List E → Prop) (μ : List E) : List Oper → List Bool → List (Nat × V) → (List (Nat × V) → Prop) → Prop
  | [], _, regs, K => K regs
  | o :: rest, u, regs, K => ∃ r, GDet X n ops o regs μ r ∧ (u.headD false = true → ∀ μ', M μ' → GDet X n ops o regs μ' r) ∧ TD2 X n ops M μ rest u.tail (putR o.dst r regs) K

section rules
variable {X : Cfg} {n : Nat} {ops : Array Oper} {M : List E → Prop} {μ : List E} {o : Oper} {rest : List Oper} {u : List Bool} {regs : List (Nat × V)} {K : List (Nat × V) → Prop}
theorem td2_nil (h : K regs) : TD2 X n ops M μ [] u regs K := h
theorem td2_det {r : V} {d : Tmp} (hd : o.dst = some d) (hg : o.guard = none) (h : Det X o (ev regs) μ r μ) (k : TD2 X n ops M μ rest u ((d, r) :: regs) K) : TD2 X n ops M μ (o :: rest) (false :: u) regs K :=
  ⟨r, gdet_plain hg h, fun h => by simp at h, by rw [hd]; exact k⟩
theorem td2_detU (hM : M μ) {r : V} {d : Tmp} (hd : o.dst = some d) (hg : o.guard = none) (h : ∀ μ', M μ' → Det X o (ev regs) μ' r μ') (k : TD2 X n ops M μ rest u ((d, r) :: regs) K) : TD2 X n ops M μ (o :: rest) (true :: u) regs K :=
  ⟨r, gdet_plain hg (h μ hM), fun _ μ' hm => gdet_plain hg (h μ' hm), by rw [hd]; exact k⟩
theorem td2_lazy {r : V} {t j d : Nat} {want g : Bool} (ov : List (Nat × V)) (ht : o.dst = some t)
    (hg : o.guard = some (j, want)) (hj : (ops[j]?).bind (·.dst) = some d) (hdn : Nat.blt d n = true) (hb : guardV (look regs d) want g) (hov : ovOk g regs ov)
    (h : g = true → Det X o (ev (ov ++ regs)) μ r μ) (hpl : r.plain = true) (k : TD2 X n ops M μ rest u ((t, .ifv g r) :: regs) K) : TD2 X n ops M μ (o :: rest) (false :: u) regs K :=
  ⟨.ifv g r, gdet_lazy ov hg hj hdn hb hov h hpl, fun h => by simp at h, by rw [ht]; exact k⟩
end rules

theorem TD2.parts {X : Cfg} {n : Nat} {ops : Array Oper} {M : List E → Prop} {μ : List E} {K : List (Nat × V) → Prop} : ∀ {l : List Oper} {u : List Bool} {regs : List (Nat × V)}, TD2 X n ops M μ l u regs K →
    ∃ rs : List V, rs.length = l.length ∧ (∀ (i : Nat) o r, l[i]? = some o → rs[i]? = some r → GDet X n ops o (putAll (l.take i) (rs.take i) regs) μ r ∧ (u.getD i false = true → ∀ μ', M μ' → GDet X n ops o (putAll (l.take i) (rs.take i) regs) μ' r)) ∧ K (putAll l rs regs)
  | [], u, regs, h => ⟨[], rfl, fun i o r h => by simp at h, h⟩
  | o :: l, u, regs, ⟨r, hr, hu, h⟩ => by
    obtain ⟨rs, h1, h2, h3⟩ := TD2.parts h
    refine ⟨r :: rs, by simp [h1], fun i o' r' ho hr' => ?_, h3⟩
    cases i with
    | zero =>
      simp at ho hr'; subst ho hr'
      refine ⟨hr, fun h => hu ?_⟩
      cases u with
      | nil => simp at h
      | cons b u => simpa using h
    | succ i =>
      obtain ⟨k1, k2⟩ := h2 i o' r' (by simpa using ho) (by simpa using hr')
      refine ⟨k1, fun h => k2 ?_⟩
      cases u with
      | nil => simp at h
      | cons b u => simpa using h

def drawChkS (l : List Oper) (s : Nat) (u : List Bool) : Bool :=
  drawChk l (s + 1) && (List.range s).all (fun i => u.getD i false || reach l 40 s i)

theorem valAt_irrel {t : Nat} : ∀ {l : List Oper} {rs : List V} {r r' : V} {f : Nat → Bool} {d : V}, f rs.length = false → valAt l (rs ++ [r]) f d t = valAt l (rs ++ [r']) f d t
  | [], _, _, _, _, _, _ => by simp [valAt]
  | o :: l, [], r, r', f, d, h => by
    simp only [List.nil_append, valAt]
    have h0 : ¬ (f 0 = true ∧ o.dst = some t) := fun hh => by simp at h; rw [h] at hh; cases hh.1
    rw [if_neg h0, if_neg h0]
  | o :: l, r0 :: rs, r, r', f, d, h => by
    simp only [List.cons_append, valAt]
    exact valAt_irrel (by simpa using h)

theorem putAll_snoc {o : Oper} {r : V} : ∀ {l : List Oper} {rs : List V} {regs : List (Nat × V)}, rs.length = l.length → putAll (l ++ [o]) (rs ++ [r]) regs = putR o.dst r (putAll l rs regs)
  | [], [], _, _ => rfl
  | _ :: l, _ :: rs, regs, h => by
    simp only [List.cons_append, putAll]
    exact putAll_snoc (by simpa using h)
  | [], _ :: _, _, h => by simp at h
  | _ :: _, [], _, h => by simp at h

section draw
variable {X : Cfg} {n : Nat} {z : Z} {Q : Exit → S → Prop} {regs : List (Nat × V)} {μ : List E} {l : List Oper} {s : Nat} {M : List E → Prop}

theorem unl_all {listed : Array Bool} {m L : Nat} (hsz : listed.size = L) (hm : m ≤ L) (hq : ∀ i, i < m → listed.getD i true = true) (ht : ∀ i, m ≤ i → i < L → listed.getD i true = false) : unl listed = L - m := by
  unfold unl
  have : listed.toList = (List.range L).map fun i => decide (i < m) := by
    apply List.ext_getElem?
    intro i
    by_cases hi : i < L
    · have h1 : listed.toList[i]? = some (listed.getD i true) := by
        rw [Array.getD_eq_getD_getElem?, Array.getElem?_toList, Array.getElem?_eq_getElem (by omega)]; rfl
      rw [h1, List.getElem?_map, List.getElem?_range hi]
      simp only [Option.map_some, Option.some.injEq]
      by_cases him : i < m
      · rw [hq i him]; simp [him]
      · rw [ht i (by omega) hi]; simp [him]
    · rw [List.getElem?_eq_none (by simp; omega), List.getElem?_eq_none (by simp; omega)]
  rw [this]
  clear this hsz hq ht
  induction L with
  | zero => simp
  | succ N ihN =>
    rw [List.range_succ, List.map_append, List.count_append]
    by_cases hmN : m ≤ N
    · rw [ihN hmN]
      have : decide (N < m) = false := by simp; omega
      simp [this]; omega
    · have hm' : m = N + 1 := by omega
      have : decide (N < m) = true := by simp; omega
      have hz : ((List.range N).map fun i => decide (i < m)).count false = 0 := by
        rw [List.count_eq_zero]
        intro hmem
        obtain ⟨i, hi, he⟩ := List.mem_map.1 hmem
        have := List.mem_range.1 hi
        simp at he
        omega
      rw [hz]
      simp [this]; omega

theorem draw_s {z1 : Z} (hz : ZLe z z1) (ok : DrawOk l (s + 1)) (hsl : s < l.length) (hdst : l.all (dstOk n) = true) {os : Oper} (hos : l[s]? = some os) {u : List Bool} (hedS : ∀ i, i < s → u.getD i false = false → reach l 40 s i = true) (hgS : os.guard = none)
    {rs : List V} (hrs : rs.length = s) {R : V → List E → Prop} (hRM : ∀ r μ1, R r μ1 → M μ1)
    (hg : ∀ (i : Nat) o r, (l.take s)[i]? = some o → rs[i]? = some r → GDet X n l.toArray o (putAll ((l.take s).take i) (rs.take i) regs) μ r ∧ (u.getD i false = true → ∀ μ', M μ' → GDet X n l.toArray o (putAll ((l.take s).take i) (rs.take i) regs) μ' r))
    (hS : OpE X os (ev (putAll (l.take s) rs regs)) μ R)
    (hk : ∀ r μ1, R r μ1 → RWP X n z l.toArray (l.drop (s + 1)) Q ⟨putR os.dst r (putAll (l.take s) rs regs), μ1⟩) : ∀ (fuel : Nat) (listed : Array Bool) (a : Act) (w : World) (I : Nat → Prop) (rS : V) (μc : List E), listed.size = l.length → unl listed = fuel → (∀ i, s + 1 ≤ i → i < l.length → listed.getD i true = false) →
      (∀ (j : Nat) o, l[j]? = some o → listed.getD j true = true → ∀ e, e ∈ o.after → Region.binds .any e = true → listed.getD e.on false = true) →
      (listed.getD s true = true → R rS μc) → (listed.getD s true = false → μc = μ) →
      Heap X w I μc → (∀ t, VRep w I (valAt (l.take (s + 1)) (rs ++ [rS]) (fun i => listed.getD i true) (look regs t) t) (a.tmps.getD t undef)) → Ext z1.w z1.I z1.μ w I μc → a.defers = z1.ds → a.tmps.size = n →
      wpAnyIn (fen z.rd) 0 X.P .any l.toArray (liftQ X n z1 Q) fuel listed a w := by
  intro fuel
  have hts : l.take (s + 1) = l.take s ++ [os] := take_next hos
  induction fuel with
  | zero =>
    intro listed a w I rS μc hsz hun htail hclo hl1 hl0 hH hR hx hd hs
    have hall : ∀ i, i < l.length → listed.getD i true = true := by
      intro i hi
      cases hb : listed.getD i true with
      | true => rfl
      | false => have := unl_set hb; omega
    have hml' : s + 1 = l.length := by
      rcases Nat.lt_or_ge (s + 1) l.length with h | h
      · have h1 := htail (s + 1) (Nat.le_refl _) h; rw [hall _ h] at h1; cases h1
      · omega
    refine draw_tail ok 0 l.length listed a w hsz (by omega) (Nat.le_refl _) (fun i hi => by rw [hall i hi]; simp [hi]) (by omega) ?_
    have hreg : ∀ t, VRep w I (look (putR os.dst rS (putAll (l.take s) rs regs)) t) (a.tmps.getD t undef) := by
      intro t
      have e := look_putAll (l := l.take (s + 1)) (rs := rs ++ [rS]) (regs := regs) (t := t) (s + 1)
      rw [List.take_take, Nat.min_self, List.take_of_length_le (l := rs ++ [rS]) (by simp; omega), hts, putAll_snoc (by simp; omega)] at e
      rw [e, ← hts]
      have := hR t
      rwa [valAt_congr (g := fun j => decide (j < s + 1)) (fun i o ho _ => by
        have hlt : i < s + 1 := by have := (List.getElem?_eq_some_iff.1 ho).1; simp at this; omega
        rw [hall i (by omega)]; simp [hlt])] at this
    have := hk rS μc (hl1 (hall s hsl)) (by rw [hml']; simp) z1 hz a w ⟨I, hH, hreg, hx, hd, hs⟩
    rwa [hml'] at this
  | succ fuel ih =>
    intro listed a w I rS μc hsz hun htail hclo hl1 hl0 hH hR hx hd hs
    by_cases hq : ∀ i, i < s + 1 → listed.getD i true = true
    · refine draw_tail ok (fuel + 1) (s + 1) listed a w hsz (Nat.le_refl _) (by omega) (fun i hi => ?_) ?_ ?_
      · by_cases him : i < s + 1
        · rw [hq i him]; simp [him]
        · rw [htail i (by omega) hi]; simp [him]
      · have := unl_all hsz (by omega) hq htail
        omega
      · have hreg : ∀ t, VRep w I (look (putR os.dst rS (putAll (l.take s) rs regs)) t) (a.tmps.getD t undef) := by
          intro t
          have e := look_putAll (l := l.take (s + 1)) (rs := rs ++ [rS]) (regs := regs) (t := t) (s + 1)
          rw [List.take_take, Nat.min_self, List.take_of_length_le (l := rs ++ [rS]) (by simp; omega), hts, putAll_snoc (by simp; omega)] at e
          rw [e, ← hts]
          have := hR t
          rwa [valAt_congr (g := fun j => decide (j < s + 1)) (fun i o ho _ => by
            have hlt : i < s + 1 := by have := (List.getElem?_eq_some_iff.1 ho).1; simp at this; omega
            rw [hq i hlt]; simp [hlt])] at this
        exact hk rS μc (hl1 (hq s (by omega))) (by
          rw [List.all_eq_true] at hdst ⊢
          exact fun o ho => hdst o (List.mem_of_mem_drop ho)) z1 hz a w ⟨I, hH, hreg, hx, hd, hs⟩
    · have hex : ∃ i, i < s + 1 ∧ listed.getD i true = false ∧ ∀ j, j < i → listed.getD j true = true := by
        have : ∃ i, i < s + 1 ∧ listed.getD i true = false := by
          rcases Classical.not_forall.1 hq with ⟨i, hi⟩
          rcases Classical.not_imp.1 hi with ⟨h1, h2⟩
          exact ⟨i, h1, by cases hb : listed.getD i true; rfl; exact absurd hb h2⟩
        obtain ⟨i, hi, hb⟩ := this
        have strong : ∀ N i, i < N → i < s + 1 → listed.getD i true = false → ∃ i, i < s + 1 ∧ listed.getD i true = false ∧ ∀ j, j < i → listed.getD j true = true := by
          intro N
          induction N with
          | zero => intro i h; omega
          | succ N ihN =>
            intro i hiN him hb
            by_cases hall : ∀ j, j < i → listed.getD j true = true
            · exact ⟨i, him, hb, hall⟩
            · rcases Classical.not_forall.1 hall with ⟨j, hj⟩
              rcases Classical.not_imp.1 hj with ⟨h1, h2⟩
              exact ihN j (by omega) (by omega) (by cases hb' : listed.getD j true; rfl; exact absurd hb' h2)
        exact strong (i + 1) i (by omega) hi hb
      obtain ⟨i0, hi0, hb0, hmin⟩ := hex
      refine ⟨fun hnil => ?_, fun i hi => ?_⟩
      · exfalso
        have hlt0 : i0 < l.length := by omega
        have : i0 ∈ Region.ready .any l.toArray listed := by
          rw [mem_ready]
          refine ⟨hb0, l[i0], by simp [hlt0], fun e he hb => ?_⟩
          have hlt := ok.back i0 l[i0] (List.getElem?_eq_getElem hlt0) e he hb
          have h2 := hmin e.on hlt
          rw [Array.getD_eq_getD_getElem?] at h2 ⊢
          rw [Array.getElem?_eq_getElem (by omega)] at h2 ⊢
          simpa using h2
        rw [hnil] at this
        simp at this
      · rw [mem_ready] at hi
        obtain ⟨hbi, o, ho, hedge⟩ := hi
        have ho' : l[i]? = some o := by simpa using ho
        have hil : i < l.length := (List.getElem?_eq_some_iff.1 ho').1
        have him : i < s + 1 := by
          rcases Nat.lt_or_ge i (s + 1) with h | h
          · exact h
          · exfalso
            have hun : ∀ j, j < l.length → listed.getD j true = false → ¬ listed.getD j false = true := fun j hj h1 h2 => by
              rw [Array.getD_eq_getD_getElem?] at h1 h2
              rw [Array.getElem?_eq_getElem (by omega)] at h1 h2
              simp only [Option.getD_some] at h1 h2
              rw [h2] at h1
              cases h1
            rcases Nat.lt_or_ge (s + 1) i with hgt | hge
            · obtain ⟨e, he1, he2, he3⟩ := ok.tail1 i o ho' hgt
              have h1 := hedge e he1 he3
              rw [he2] at h1
              exact hun (i - 1) (by omega) (htail (i - 1) (by omega) (by omega)) h1
            · have him : i = s + 1 := by omega
              subst him
              exact hun i0 (by omega) hb0 (reach_ready hclo ho' hedge (ok.tail0 o ho' i0 hi0))
        have hot : (l.take (s + 1))[i]? = some o := by rw [List.getElem?_take, if_pos him]; exact ho'
        -- what the operation looks at
        have hlook : ∀ t, t ∈ o.looksAt l.toArray → VRep w I (look (putAll ((l.take (s + 1)).take i) ((rs ++ [rS]).take i) regs) t) (a.tmps.getD t undef) := by
          intro t ht
          rw [look_putAll (l := l.take (s + 1)) (rs := rs ++ [rS]) (regs := regs) (t := t) i]
          have := hR t
          rwa [valAt_congr (g := fun j => decide (j < i)) (fun j oj hoj hdj => by
            have hjm : j < s + 1 := by have := (List.getElem?_eq_some_iff.1 hoj).1; simp at this; omega
            have hoj' : l[j]? = some oj := by rw [List.getElem?_take, if_pos hjm] at hoj; exact hoj
            rcases ok.looks i o ho' him t ht j oj hoj' hjm hdj with ⟨hji, e, he1, he2, he3⟩ | ⟨hij, e, he1, he2, he3⟩
            · have h1 := hedge e he1 he3
              rw [he2, Array.getD_eq_getD_getElem?, Array.getElem?_eq_getElem (by omega)] at h1
              rw [Array.getD_eq_getD_getElem?, Array.getElem?_eq_getElem (by omega)]
              simp only [Option.getD_some] at h1 ⊢
              rw [h1]
              simp [hji]
            · have hnot : ¬ j < i := by omega
              cases hb : listed.getD j true with
              | false => simp [hnot]
              | true =>
                exfalso
                have h1 := hclo j oj hoj' hb e he1 he3
                rw [he2, Array.getD_eq_getD_getElem?, Array.getElem?_eq_getElem (by omega)] at h1
                rw [Array.getD_eq_getD_getElem?, Array.getElem?_eq_getElem (by omega)] at hbi
                simp only [Option.getD_some] at h1 hbi
                rw [h1] at hbi
                cases hbi)] at this
        have hdo : dstOk n o = true := by
          rw [List.all_eq_true] at hdst
          exact hdst o (List.mem_of_getElem? ho')
        simp only [wpOpIn, ho]
        -- after operation i, with result r and memory μ'
        have step : ∀ (rS' : V) (μ' : List E) (r : V), (rs ++ [rS'])[i]? = some r → (i ≠ s → rS' = rS ∧ μ' = μc) → (i = s → R rS' μ') → ∀ v I' w', VRep w' I' r v → Heap X w' I' μ' → Ext w I μc w' I' μ' →
            wpAnyIn (fen z.rd) 0 X.P .any l.toArray (liftQ X n z1 Q) fuel (listed.setIfInBounds i true) (a.put o.dst v) w' := by
          intro rS' μ' r hr hne hsR v I' w' hv hH' hx'
          have hu := unl_set hbi
          have hget : ∀ j, (listed.setIfInBounds i true).getD j true = if j = i then true else listed.getD j true := by
            intro j
            by_cases hji : j = i
            · subst hji
              rw [if_pos rfl, Array.getD_eq_getD_getElem?, Array.getElem?_setIfInBounds]
              simp [show j < listed.size by omega]
            · rw [if_neg hji, getD_set_ne true (Ne.symm hji)]
          refine ih (listed.setIfInBounds i true) _ w' I' rS' μ' (by simp [hsz]) (by omega) (fun j hj hjl => ?_) (fun j oj hoj hb e he1 he3 => ?_) (fun h => ?_) (fun h => ?_) hH' (fun t => ?_) (hx.trans hx') ?_ ?_
          · rw [getD_set_ne true (by omega)]; exact htail j hj hjl
          · have key : listed.getD e.on false = true := by
              by_cases hji : j = i
              · subst hji
                rw [ho'] at hoj; cases hoj
                exact hedge e he1 he3
              · rw [getD_set_ne true (Ne.symm hji)] at hb
                exact hclo j oj hoj hb e he1 he3
            rw [Array.getD_eq_getD_getElem?, Array.getElem?_setIfInBounds]
            by_cases hei : i = e.on
            · rw [if_pos hei]
              have : i < listed.size := by omega
              simp [this]
            · rw [if_neg hei, ← Array.getD_eq_getD_getElem?]; exact key
          · by_cases his : i = s
            · exact hsR his
            · obtain ⟨e1, e2⟩ := hne his
              subst e1 e2
              rw [hget s, if_neg (fun h => his h.symm)] at h
              exact hl1 h
          · by_cases his : i = s
            · subst his; rw [hget i, if_pos rfl] at h; cases h
            · obtain ⟨e1, e2⟩ := hne his
              subst e1 e2
              rw [hget s, if_neg (fun h => his h.symm)] at h
              exact hl0 h
          · have hvs := valAt_step (t := t) (l := l.take (s + 1)) (rs := rs ++ [rS']) (f := fun j => listed.getD j true) (d := look regs t) hot hr (fun j o' hj hne hnn => by
              have hjm : j < s + 1 := by have := (List.getElem?_eq_some_iff.1 hj).1; simp at this; omega
              exact ok.own i o ho' him j o' (by rw [List.getElem?_take, if_pos hjm] at hj; exact hj) hjm hne hnn)
            have e1 : (fun j => (listed.setIfInBounds i true).getD j true) = (fun j => if j = i then true else listed.getD j true) := funext hget
            have e2 : (fun j => if j = i then false else listed.getD j true) = (fun j => listed.getD j true) := by
              funext j
              by_cases hji : j = i
              · subst hji; rw [if_pos rfl, hbi]
              · rw [if_neg hji]
            have e3 : valAt (l.take (s + 1)) (rs ++ [rS']) (fun j => listed.getD j true) (look regs t) t = valAt (l.take (s + 1)) (rs ++ [rS]) (fun j => listed.getD j true) (look regs t) t := by
              by_cases his : i = s
              · exact valAt_irrel (by rw [hrs, ← his]; exact hbi)
              · rw [(hne his).1]
            rw [e1, hvs, e2, e3]
            cases hod : o.dst with
            | none =>
              rw [if_neg (by simp)]
              exact hH.vrep hx' (hR t)
            | some d =>
              have hdn : d < n := by simp only [dstOk, hod, Bool.and_eq_true] at hdo; simpa [Nat.blt_eq] using hdo.1
              rw [tmps_put hs hdn]
              by_cases hdt : d = t
              · subst hdt; rw [if_pos rfl, if_pos rfl]; exact hv
              · rw [if_neg (by simpa using hdt), if_neg hdt]; exact hH.vrep hx' (hR t)
          · cases hod : o.dst <;> simp [Act.put, hd]
          · cases hod : o.dst <;> simp [Act.put, hs]
        by_cases his : i = s
        · -- the operation that changes memory
          subst his
          have eo : o = os := by rw [ho'] at hos; exact Option.some.inj hos
          subst eo
          have hμ := hl0 hbi
          subst hμ
          have e1 : (l.take (i + 1)).take i = l.take i := by rw [List.take_take, Nat.min_eq_left (by omega)]
          have e2 : (rs ++ [rS]).take i = rs := by rw [List.take_append_of_le_length (by omega), List.take_of_length_le (by omega)]
          rw [e1, e2] at hlook
          rw [if_pos (by simp [Region.wanted, hgS])]
          refine hS a w I hH (ev_looks hlook) _ _ ?_ (dstOk.nd hdo) _
          intro v r μ' I' w' hr hv hH' hx'
          exact step r μ' r (by rw [List.getElem?_append_right (by omega)]; simp [hrs]) (fun h => absurd rfl h) (fun _ => hr) v I' w' hv hH' hx'
        · have his' : i < s := by omega
          have e1 : (l.take (s + 1)).take i = (l.take s).take i := by rw [List.take_take, List.take_take, Nat.min_eq_left (by omega), Nat.min_eq_left (by omega)]
          have e2 : (rs ++ [rS]).take i = rs.take i := List.take_append_of_le_length (by omega)
          rw [e1, e2] at hlook
          obtain ⟨r, hr⟩ : ∃ r, rs[i]? = some r := ⟨rs[i]'(by omega), List.getElem?_eq_getElem _⟩
          obtain ⟨g1, g2⟩ := hg i o r (by rw [List.getElem?_take, if_pos his']; exact ho') hr
          have hG : GDet X n l.toArray o (putAll ((l.take s).take i) (rs.take i) regs) μc r := by
            cases hb : listed.getD s true with
            | false => rw [hl0 hb]; exact g1
            | true =>
              cases hu : u.getD i false with
              | true => exact g2 hu _ (hRM _ _ (hl1 hb))
              | false =>
                exfalso
                have h1 := reach_listed hclo 40 s i (hedS i his' hu) hb
                rw [Array.getD_eq_getD_getElem?, Array.getElem?_eq_getElem (by omega)] at h1
                rw [Array.getD_eq_getD_getElem?, Array.getElem?_eq_getElem (by omega)] at hbi
                simp only [Option.getD_some] at h1 hbi
                rw [h1] at hbi
                cases hbi
          have hG' := hG a w I hH hlook hs (wpAnyIn (fen z.rd) 0 X.P .any l.toArray (liftQ X n z1 Q) fuel (listed.setIfInBounds i true)) (liftQ X n z1 Q)
            (fun v I' w' hv hH' hx' => step rS μc r (by rw [List.getElem?_append_left (by omega)]; exact hr) (fun _ => ⟨rfl, rfl⟩) (fun h => absurd h his) v I' w' hv hH' hx')
          split
          · rename_i hw; rw [if_pos hw] at hG'; exact hG' (dstOk.nd hdo) _
          · rename_i hw; rw [if_neg hw] at hG'; exact ⟨fun _ _ => trivial, hG'⟩

/-- A region whose order is open: s quiet operations, one that changes memory, then the others. -/
theorem awp_draw_s {id : Nat} (s : Nat) (u : List Bool) (M : List E → Prop) {os : Oper} (hm : X.P.follows .mixedOrders = true) (hchk : drawChkS l s u = true) (hos : nth l s = some os) (hgS : os.guard = none) (hd : l.all (dstOk n) = true)
    (h : TD2 X n l.toArray M μ (l.take s) u regs fun regs' => ∃ R, OpE X os (ev regs') μ R ∧ (∀ r μ1, R r μ1 → M μ1) ∧ ∀ r μ1, R r μ1 → RWP X n z l.toArray (l.drop (s + 1)) Q ⟨putR os.dst r regs', μ1⟩) : AWP X n z (.region id l.toArray true) Q ⟨regs, μ⟩ := by
  intro z1 hz a w st
  obtain ⟨I, hH, hR, hx, hdf, hs⟩ := st.drew
  obtain ⟨rs, h1, h2, R, h3, h4, h5⟩ := h.parts
  rw [nth_eq] at hos
  have hsl : s < l.length := (List.getElem?_eq_some_iff.1 hos).1
  simp only [drawChkS, Bool.and_eq_true] at hchk
  refine wpIn_region_any hm ?_
  refine draw_s hz (rs := rs) (regs := regs) (u := u) (M := M) (drawOk hchk.1) hsl hd hos (fun i hi hu => ?_) hgS (by rw [h1]; simp; omega) h4 h2 h3 h5 _ _ a _ I .un μ (by simp) ?_ (fun i _ hi => by simp [hi]) (fun j o ho hb => by
    have hlt : j < l.length := (List.getElem?_eq_some_iff.1 ho).1
    simp [hlt] at hb) (fun hb => by simp [hsl] at hb) (fun _ => rfl) hH (fun t => ?_) hx hdf hs
  · have := List.all_eq_true.1 hchk.2 i (List.mem_range.2 hi)
    rwa [hu, Bool.false_or] at this
  · unfold unl
    simp
  · rw [valAt_none fun i o ho hf => by
      have hlt : i < l.length := by have := (List.getElem?_eq_some_iff.1 ho).1; simp at this; omega
      simp [hlt] at hf]
    exact hR t

end draw

/-- As it was, or one entry more. -/
def Mone (μ : List E) : List E → Prop := fun μ' => μ' = μ ∨ ∃ en, μ' = en :: μ
/-- Whatever. -/
def Mall : List E → Prop := fun _ => True

theorem det_front {X : Cfg} {o : Oper} {e : Operand → V} {μ : List E} {r : V} (h : Det X o e μ r μ) (en : E) : Det X o e (en :: μ) r (en :: μ) := by
  intro a w I hH hops K Q k
  have p : (en :: μ).Perm (μ ++ [en]) := List.perm_append_comm (l₁ := [en])
  refine (OpE.frame h [en]) a w I (hH.perm p) hops K Q ?_
  rintro v r' μ'' I' w' ⟨μ', ⟨rfl, rfl⟩, rfl⟩ hv hH' x
  exact k v _ _ I' w' ⟨rfl, rfl⟩ hv (hH'.perm p.symm) (x.perm p.symm p.symm)

theorem td2_detF {X : Cfg} {n : Nat} {ops : Array Oper} {μ : List E} {o : Oper} {rest : List Oper} {u : List Bool} {regs : List (Nat × V)} {K : List (Nat × V) → Prop} {r : V} {d : Tmp} (hd : o.dst = some d) (hg : o.guard = none) (h : Det X o (ev regs) μ r μ) (k : TD2 X n ops (Mone μ) μ rest u ((d, r) :: regs) K) : TD2 X n ops (Mone μ) μ (o :: rest) (true :: u) regs K :=
  td2_detU (.inl rfl) hd hg (fun μ' hm => by
    rcases hm with rfl | ⟨en, rfl⟩
    · exact h
    · exact det_front h en) k
theorem td2_detA {X : Cfg} {n : Nat} {ops : Array Oper} {μ : List E} {o : Oper} {rest : List Oper} {u : List Bool} {regs : List (Nat × V)} {K : List (Nat × V) → Prop} {r : V} {d : Tmp} (hd : o.dst = some d) (hg : o.guard = none) (h : ∀ μ', Det X o (ev regs) μ' r μ') (k : TD2 X n ops Mall μ rest u ((d, r) :: regs) K) : TD2 X n ops Mall μ (o :: rest) (true :: u) regs K :=
  td2_detU trivial hd hg (fun μ' _ => h μ') k
theorem m_own {μ : List E} {t : TypeId} {size : Nat} {rows : List (List C)} : ∀ r μ1, (∃ sv, r = V.c (.lit sv) ∧ μ1 = .vec sv t size rows :: μ) → Mone μ μ1 := by
  rintro r μ1 ⟨sv, _, rfl⟩; exact .inr ⟨_, rfl⟩

theorem ope_nileq {X : Cfg} {o : Oper} {e : Operand → V} {μ : List E} {t ty et : TypeId} {size bytes n : Nat} {rows : List (List C)} {x y : Operand} (ho : o.op = .binOp .eql t x y ty) (ht : elemT X.P t = some (et, size, bytes)) (hx : e x = .c (.sl n rows)) (hy : e y = .c (.lit (.slice none 0 0))) :
    OpE X o e μ fun r μ' => ∃ b : Bool, r = .c (.lit (.bool b)) ∧ (b = true → rows = []) ∧ μ' = μ := by
  intro a w I hH hops K Q k
  obtain ⟨hu, _⟩ := elemT_parts ht
  have hxv := hops x (by rw [ho]; simp [Op.operands])
  have hyv := hops y (by rw [ho]; simp [Op.operands])
  rw [hx] at hxv
  rw [hy] at hyv
  have h2 := hyv.lit_inv
  have hxv' : CRep w I (.sl n rows) (a.eval x) := hxv
  obtain ⟨ad, len, cap, hv, hn⟩ : ∃ ad len cap, a.eval x = .slice ad len cap ∧ (ad.isNone = true → rows = []) := by
    generalize a.eval x = v at hxv'
    cases hxv' with
    | nil _ ad cap => exact ⟨ad, 0, cap, rfl, fun _ => rfl⟩
    | sl _ _ ad cap us hI hl' hcap hc hr => exact ⟨some ad, rows.length, cap, rfl, fun h => by simp at h⟩
  refine wp_value (v := .bool ad.isNone) (w' := w) ?_ (k _ _ μ I w ⟨ad.isNone, rfl, hn, rfl⟩ (CRep.lit _ rfl) hH (Ext.refl _ _ _))
  have h3 := run_equal_slice_nil w (P := X.P) t et ad len cap hu
  have h4 : (binOp .eql t (.slice ad len cap) (.slice none 0 0)).run X.P w = .ok (.bool ad.isNone) w := by
    simp only [binOp]; simp [h3]
  have h5 : (eqGuard .eql t x y (.slice ad len cap) (.slice none 0 0)).run X.P w = .ok () w := by simp [eqGuard]
  simp only [execOp, ho, hv, h2, Sem.run_bind, h5, h4, Result.andThen_ok, Sem.run_pure]

theorem awp_draw_o {X : Cfg} {n : Nat} {z : Z} {Q : Exit → S → Prop} {regs : List (Nat × V)} {μ : List E} {l : List Oper} {id : Nat} (s : Nat) (u : List Bool) {os : Oper} (hm : X.P.follows .mixedOrders = true) (hchk : drawChkS l s u = true) (hos : nth l s = some os) (hgS : os.guard = none) (hd : l.all (dstOk n) = true)
    (h : TD2 X n l.toArray (Mone μ) μ (l.take s) u regs fun regs' => ∃ R, OpE X os (ev regs') μ R ∧ (∀ r μ1, R r μ1 → Mone μ μ1) ∧ ∀ r μ1, R r μ1 → RWP X n z l.toArray (l.drop (s + 1)) Q ⟨putR os.dst r regs', μ1⟩) : AWP X n z (.region id l.toArray true) Q ⟨regs, μ⟩ :=
  awp_draw_s s u (Mone μ) hm hchk hos hgS hd h

end Go.Eng
