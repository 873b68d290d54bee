/-
  Sorting and thinning of lists of strings that are the call's own: slices.Sort and slices.Compact, by the shelf's contracts.
  The names that an expression reads, in plain Lean.
  Sums of linear forms, exactly, in plain Lean: numbers of 64 and of 128 bits, merges of ascending lists, substitution.
  The reference's substitution of forms, in plain Lean: the sum, and the mapping of all forms of an expression.
  What the substitution of a form keeps, in plain Lean: valid forms stay valid, the name is gone, the shape of an expression stays.
  The comparison of expressions is a total order, in plain Lean.
  Layer 14 in plain Lean: short names, replacing, the names in forms, the example that every statement checks.
  Loop nests, in plain Lean: buffers, statements, and the cells that hold them.
  What the check of a nest says (30.1), in plain Lean.
  Weights of nests, in plain Lean.
  For the reference's check of nests, in plain Lean.
  Ascending lists of names, one name added at a time, in plain Lean.
  Lifetimes as plain data, and what the functions of the layer compute.
  Layer 41 in plain Lean: what statements touch; the spans of buffers.
  Nests walked and mapped, in plain Lean (30.2, 30.3).
  Paths in nests, in plain Lean (30.2).
  Names that are not in use, in plain Lean (30.2): numerals, and the first number that is free.
  A loop renamed to a name that is not in use, in plain Lean (30.3, 30.5).
  The example of the laws of layer 30; lengths of paths. In plain Lean.
  A form put for a name in all forms of statements (30.3): what Substitute returns; what Rename of the reference returns.
  A statement on a path replaced by others (30.2).
  Conditions: none.
-/
import Derived.Test.YtlfjpejkoccibaaGreatDoorCfg
import Derived.Test.YtlfjpejkoccibaaGreatDoorEngZ
import Derived.Test.YtlfjpejkoccibaaGreatDoorShelfB
import Derived.Sort.OwnSorted
import Derived.Lib.OwnBridge
import Derived.Test.YtlfjpejkoccibaaGreatDoorPlain
import Derived.Test.YtlfjpejkoccibaaGreatDoorNames
import Derived.Lib.ItoaNum
section
set_option linter.unusedSimpArgs false
set_option linter.unusedVariables false
namespace Go.Br
open Go Go.Eng Go.RowKit Go.Proofs Go.L41

abbrev strRows (l : List ByteArray) : List (List C) := l.map fun s => [cS s]
def toB (l : List (List UInt8)) : List ByteArray := l.map fun x => ⟨x.toArray⟩
def ofB (l : List ByteArray) : List (List UInt8) := l.map (·.data.toList)
def sortB (l : List ByteArray) : List ByteArray := toB ((ofB l).mergeSort fun x y => decide (x ≤ y))
def thinB (l : List ByteArray) : List ByteArray := toB (Lib.compact (ofB l))
theorem ofB_enc (l : List ByteArray) : (ofB l).map encStr = l.map Value.string := Lib.map_encStr l
theorem toB_enc (l : List (List UInt8)) : l.map encStr = (toB l).map Value.string := by
  unfold toB; rw [List.map_map]; rfl

theorem sortB_len (l : List ByteArray) : (sortB l).length = l.length := by simp [sortB, toB, ofB, List.length_mergeSort]
theorem flat_str (l : List ByteArray) : (strRows l).flatten = l.map fun s => cS s := by
  induction l with
  | nil => rfl
  | cons x r ih => show cS x :: (strRows r).flatten = _; rw [ih]; rfl
theorem reps_str {w : World} {I : Nat → Prop} : ∀ {l : List ByteArray} {xs : List Value}, CReps w I (l.map fun s => cS s) xs → xs = l.map Value.string
  | [], _, .nil => rfl
  | x :: l, _, .cons h t => by
    have e := reps_str t
    cases h with
    | lit _ _ => rw [e]; rfl
theorem str_reps {w : World} {I : Nat → Prop} : ∀ l : List ByteArray, CReps w I (l.map fun s => cS s) (l.map Value.string)
  | [] => .nil
  | x :: l => .cons (.lit _ rfl) (str_reps l)
theorem rep_str {w : World} {I : Nat → Prop} {sv : Value} {t : TypeId} {l : List ByteArray} (h : w.ownsRow 0 t 1 sv l.length (l.map Value.string)) (hb : svB sv ≠ []) : ERep w I (.vec sv t 1 (strRows l)) := by
  refine .inr ⟨hb, l.map Value.string, ?_, ?_, fun r hr => ?_⟩
  · rw [show (strRows l).length = l.length by simp]; exact h
  · rw [flat_str]; exact str_reps l
  · obtain ⟨x, _, rfl⟩ := List.mem_map.1 hr; rfl
theorem rep_str_inv {w : World} {I : Nat → Prop} {sv : Value} {t : TypeId} {l : List ByteArray} (h : ERep w I (.vec sv t 1 (strRows l))) : (∃ a, sv = .slice a 0 0 ∧ l = []) ∨ (svB sv ≠ [] ∧ w.ownsRow 0 t 1 sv l.length (l.map Value.string)) := by
  rcases h with ⟨a, h1, h2⟩ | ⟨h1, xs, h2, h3, h4⟩
  · exact .inl ⟨a, h1, by simpa using h2⟩
  · rw [flat_str] at h3
    rw [reps_str h3, show (strRows l).length = l.length by simp] at h2
    exact .inr ⟨h1, h2⟩

theorem sort_con (sv : Value) (l : List ByteArray) (hl : l.length ≤ 4294967296) : Con cfg 170 [.c (.lit sv)] [.vec sv 9 1 (strRows l)] fun r μ' => r = .tup [] ∧ μ' = [.vec sv 9 1 (strRows (sortB l))] := by
  intro w I vs hH ha
  match vs, ha with
  | [v], ha =>
    have e : v = sv := by cases (ha.1 : CRep w I (.lit sv) v) with | lit _ _ => rfl
    subst e
    have hrep := hH.rep _ (List.mem_singleton.2 rfl)
    rcases rep_str_inv hrep with ⟨a, rfl, rfl⟩ | ⟨hb, hown⟩
    · refine (Tryz.slices_Sort_string_none a 0 w).mono ?_
      rintro en w' ⟨rfl, rfl⟩
      have e2 : sortB [] = [] := by simp [sortB, ofB, toB]
      refine ⟨_, _, _, I, rfl, ⟨rfl, by rw [e2]⟩, ⟨[], rfl, trivial⟩, hH, Ext.refl _ _ _⟩
    · have hne : v ≠ .slice none 0 0 := by rintro rfl; exact hb rfl
      have hown' := hown
      rw [← ofB_enc] at hown'
      obtain ⟨g, cap, rfl, hbg, hgl, hncap, hcm, hlen, hHo⟩ := Lib.holds_of_ownsRow hown' hne
      obtain ⟨_, hcase⟩ := hown
      rcases hcase with ⟨h0, _⟩ | ⟨g', cap', cur, hv, _, hcur, hn2, hm2, hcs, htk⟩
      · exact absurd h0 hne
      · injection hv with e1 e2 e3
        injection e1 with e1
        injection e1 with e1 _ _
        subst e1 e3
        have hss : (ofB l).length = l.length := by simp [ofB]
        have hcall := Tryz.slices_Sort_string g 0 cap (ofB l) w hHo hgl (by omega)
        rw [hss] at hcall
        refine hcall.mono ?_
        rintro en w' ⟨rfl, n, os, rfl⟩
        have hts : ((ofB l).mergeSort fun x y => decide (x ≤ y)).length = (ofB l).length := List.length_mergeSort _
        have hs := ownsRow_sorted (n := n) (os := os) (ts := (ofB l).mergeSort fun x y => decide (x ≤ y)) hts (Nat.zero_le g) hcur (by omega) hm2 hcs
        rw [toB_enc, hss] at hs
        have hlen2 : (sortB l).length = l.length := by simp [sortB, toB, hts, hss]
        have hgr := grownBy_sorted (w := w) (g := g) (n := n) (os := os) ((ofB l).mergeSort fun x y => decide (x ≤ y)).toArray
        have hrep2 : ERep (Sort.grow (Sort.putRow encStr (Sort.ahead w n) g 0 ((ofB l).mergeSort fun x y => decide (x ≤ y)).toArray) os) I (.vec (.slice (some ⟨g, 0, none⟩) l.length cap) 9 1 (strRows (sortB l))) := by
          refine rep_str ?_ hb
          rw [hlen2]; exact hs
        obtain ⟨hH', hx'⟩ := Heap.write (w' := Sort.grow (Sort.putRow encStr (Sort.ahead w n) g 0 ((ofB l).mergeSort fun x y => decide (x ≤ y)).toArray) os) hH (p := 0) (en := .vec (.slice (some ⟨g, 0, none⟩) l.length cap) 9 1 (strRows l)) (en' := .vec (.slice (some ⟨g, 0, none⟩) l.length cap) 9 1 (strRows (sortB l))) rfl hgr.os hgr.tape hgr.output hgr.size
          (fun b hb1 hb2 => hgr.block b hb1 (fun e => by
            injection e with e
            apply hb2
            have hin : svB (.slice (some ⟨g, 0, none⟩) l.length cap) ≠ [] := hb
            subst e
            exact svB_of hin rfl)) (by have h := hH.nodup; simp only [blocksOf, List.flatMap_cons, List.flatMap_nil, List.append_nil] at h; exact h) (fun b h => .inl h) trivial hrep2
        exact ⟨_, _, _, I, rfl, ⟨rfl, rfl⟩, ⟨[], rfl, trivial⟩, hH', hx'⟩
theorem thin_con (sv : Value) (l : List ByteArray) (hl : l.length ≤ 4294967296) : Con cfg 171 [.c (.lit sv)] [.vec sv 9 1 (strRows l)] fun r μ' => ∃ sv', r = .c (.lit sv') ∧ μ' = [.vec sv' 9 1 (strRows (thinB l))] := by
  intro w I vs hH ha
  match vs, ha with
  | [v], ha =>
    have e : v = sv := by cases (ha.1 : CRep w I (.lit sv) v) with | lit _ _ => rfl
    subst e
    have hrep := hH.rep _ (List.mem_singleton.2 rfl)
    rcases rep_str_inv hrep with ⟨a, rfl, rfl⟩ | ⟨hb, hown⟩
    · refine (Tryz.slices_Compact_string_empty a 0 w).mono ?_
      rintro en w' ⟨rfl, rfl⟩
      have e2 : thinB [] = [] := by simp [thinB, ofB, toB, Lib.compact, Lib.compactUpTo]
      exact ⟨_, _, _, I, rfl, ⟨_, rfl, by rw [e2]⟩, CRep.lit _ rfl, hH, Ext.refl _ _ _⟩
    · have hne : v ≠ .slice none 0 0 := by rintro rfl; exact hb rfl
      have hown' := hown
      rw [← ofB_enc] at hown'
      obtain ⟨g, cap, rfl, hbg, hgl, hncap, hcm, hlen, hHo⟩ := Lib.holds_of_ownsRow hown' hne
      have hss : (ofB l).length = l.length := by simp [ofB]
      have hcall := Tryz.slices_Compact_string g 0 cap (ofB l) w hHo (by omega) (by omega)
      rw [hss] at hcall
      refine hcall.mono ?_
      rintro en w' ⟨rfl, q, hw'⟩
      have hcl := Lib.compact_length_le (ofB l)
      have hs := Lib.ownsRow_putRow (q := q) (k := (Lib.compact (ofB l)).length) (ys := Lib.compact (ofB l) ++ List.replicate (l.length - (Lib.compact (ofB l)).length) []) hown' (by simp; omega) (by omega)
      rw [List.take_left' rfl, toB_enc, ← hw'] at hs
      have hlen2 : (thinB l).length = (Lib.compact (ofB l)).length := by simp [thinB, toB]
      have hgr := grownBy_sorted (w := w) (g := g) (n := q) (os := #[]) (Lib.compact (ofB l) ++ List.replicate (l.length - (Lib.compact (ofB l)).length) []).toArray
      rw [Sort.grow_empty, ← hw'] at hgr
      clear hw' hown' hHo hcall
      obtain ⟨c, hc⟩ : ∃ c, cap = c + 1 := by
        cases cap with
        | zero => exact absurd rfl hb
        | succ c => exact ⟨c, rfl⟩
      subst hc
      have hrep2 : ERep w' I (.vec (.slice (some ⟨g, 0, none⟩) (Lib.compact (ofB l)).length (c + 1)) 9 1 (strRows (thinB l))) := by
        refine rep_str ?_ (by simp [svB])
        rw [hlen2]; exact hs
      obtain ⟨hH', hx'⟩ := Heap.write (w' := w') hH (p := 0) (en := .vec (.slice (some ⟨g, 0, none⟩) l.length (c + 1)) 9 1 (strRows l)) (en' := .vec (.slice (some ⟨g, 0, none⟩) (Lib.compact (ofB l)).length (c + 1)) 9 1 (strRows (thinB l))) rfl hgr.os hgr.tape hgr.output hgr.size
        (fun b hb1 hb2 => hgr.block b hb1 (fun e => by
          injection e with e
          apply hb2
          have hin : svB (.slice (some ⟨g, 0, none⟩) l.length (c + 1)) ≠ [] := hb
          subst e
          exact svB_of hin rfl)) (by simp [E.blocks, svB]) (fun b h => .inl h) trivial hrep2
      exact ⟨_, _, _, I, rfl, ⟨_, rfl, rfl⟩, CRep.lit _ rfl, hH', hx'⟩
end Go.Br
end
section
set_option linter.unusedSimpArgs false
set_option linter.unusedVariables false
namespace Go.Br
open Go Go.Eng Go.L41

def fromX (x : Ix) : List ByteArray := if x.From = bs [] then [] else [x.From]
def readsI (l : List Ix) : List ByteArray := l.flatMap fromX
def opRead (x : Ex) : List ByteArray := if x.Op = 3 then [x.Name] else []
def readsN (x : Ex) : List ByteArray := opRead x ++ readsI x.Idx
def readsA (l : List Ex) : List ByteArray := l.flatMap readsN
def readsT (e : Ex) : List ByteArray := thinB (sortB (readsA (nodes e)))
theorem mem_toB {s : ByteArray} {l : List (List UInt8)} : s ∈ toB l ↔ s.data.toList ∈ l := by
  unfold toB
  rw [List.mem_map]
  constructor
  · rintro ⟨x, hx, rfl⟩; simpa using hx
  · intro h; exact ⟨_, h, by cases s; simp⟩
theorem mem_ofB {s : ByteArray} {l : List ByteArray} : s.data.toList ∈ ofB l ↔ s ∈ l := by
  unfold ofB
  rw [List.mem_map]
  constructor
  · rintro ⟨x, hx, e⟩
    have : x = s := by cases x; cases s; congr 1; exact Array.toList_inj.1 e
    rw [← this]; exact hx
  · intro h; exact ⟨s, h, rfl⟩
theorem mem_sortB {s : ByteArray} {l : List ByteArray} : s ∈ sortB l ↔ s ∈ l := by
  unfold sortB; rw [mem_toB, List.mem_mergeSort, mem_ofB]
theorem mem_thinB {s : ByteArray} {l : List ByteArray} (h : s ∈ thinB l) : s ∈ l := by
  unfold thinB at h
  rw [mem_toB] at h
  rw [← mem_ofB]
  unfold Lib.compact Lib.compactUpTo at h
  obtain ⟨i, hi, e⟩ := List.mem_map.1 h
  have hi2 := (List.mem_filter.1 hi).1
  have hlt := List.mem_range.1 hi2
  rw [← e, getElem!_pos _ i (by simpa using hlt)]
  simp
end Go.Br
end
section
set_option linter.unusedSimpArgs false
set_option linter.unusedVariables false
namespace Go.Br
open Go Go.Eng Go.L41

/-! ## The order of names -/
def r64 (n : Int) : Prop := -9223372036854775808 ≤ n ∧ n ≤ 9223372036854775807
instance (n : Int) : Decidable (r64 n) := by unfold r64; infer_instance
def w64 (n : Int) : Int := IntKind.i64.wrap n
def hiN (a b : Nat) : Nat :=
  (a / 4294967296) * (b / 4294967296) + ((a / 4294967296) * (b % 4294967296) + ((a % 4294967296) * (b % 4294967296)) / 4294967296) / 4294967296 +
    ((a % 4294967296) * (b / 4294967296) + ((a / 4294967296) * (b % 4294967296) + ((a % 4294967296) * (b % 4294967296)) / 4294967296) % 4294967296) / 4294967296
abbrev Tr := ByteArray × Int × Int
def mergeN : Nat → List Mono → List Mono → List Tr
  | 0, _, _ => []
  | _ + 1, [], [] => []
  | n + 1, a :: ar, [] => (a.Name, a.By, 0) :: mergeN n ar []
  | n + 1, [], b :: bs => (b.Name, 0, b.By) :: mergeN n [] bs
  | n + 1, a :: ar, b :: bs =>
    bif strLt a.Name b.Name then (a.Name, a.By, 0) :: mergeN n ar (b :: bs)
    else bif strLt b.Name a.Name then (b.Name, 0, b.By) :: mergeN n (a :: ar) bs
    else (a.Name, a.By, b.By) :: mergeN n ar bs
def mergeL (a b : List Mono) : List Tr := mergeN (a.length + b.length) a b
def trV (t : Tr) : Int := t.2.1 + t.2.2
def trOk (t : Tr) : Bool := decide (r64 (trV t))
/-- The monomials of a sum; the numbers as the machine has them. -/
def sumW (ts : List Tr) : List Mono := ts.filterMap fun t => if w64 (trV t) = 0 then none else some ⟨t.1, w64 (trV t)⟩
def addT (k : Int) (ts : List Tr) : Lf × Int := if r64 k ∧ ts.all trOk = true then (⟨k, sumW ts⟩, 0) else (zL, 3)
def scaleOk (by_ : Int) (l : List Mono) : Bool := l.all fun m => decide (r64 (m.By * by_))
def restL (l : Lf) (s : ByteArray) : Lf := ⟨l.K, l.L.filter fun m => !decide (m.Name = s)⟩
def lastBy (l : List Mono) (s : ByteArray) : Int := l.foldl (fun by_ m => if m.Name = s then m.By else by_) 0
def mulT (by_ : Int) (ts : List Tr) : List Tr := ts.map fun t => (t.1, t.2.1, t.2.2 * by_)
/-- The reference's. -/
def substR (l : Lf) (s : ByteArray) (to_ : Lf) : Lf × Int :=
  if linOk l = true ∧ linOk to_ = true ∧ isNameB s = true then
    (if lastBy l.L s = 0 then (l, 0) else if r64 (to_.K * lastBy l.L s) ∧ scaleOk (lastBy l.L s) to_.L = true then addT (l.K + to_.K * lastBy l.L s) (mulT (lastBy l.L s) (mergeL (restL l s).L to_.L)) else (zL, 3))
  else (zL, 1)

def Lf.rng (l : Lf) : Prop := r64 l.K ∧ ∀ m, m ∈ l.L → r64 m.By
end Go.Br
end
section
set_option linter.unusedSimpArgs false
set_option linter.unusedVariables false
namespace Go.Br
open Go Go.Eng Go.L41

end Go.Br
end
section
set_option linter.unusedSimpArgs false
set_option linter.unusedVariables false
namespace Go.Br
open Go Go.Eng Go.L41

/-! ## Ascending triples -/
end Go.Br
end
section
set_option linter.unusedSimpArgs false
set_option linter.unusedVariables false
namespace Go.Br
open Go Go.Eng Go.Proofs Go.L41

/-- What a comparison keeps at one of its arguments. -/
structure PO {α : Type} (f : α → α → Int) (a : α) : Prop where
  anti : ∀ b, f b a = - f a b
  rng : ∀ b, -1 ≤ f a b ∧ f a b ≤ 1
  cong : ∀ b, f a b = 0 → ∀ c, f a c = f b c
  cong' : ∀ b c, f b c = 0 → f a b = f a c
  trans : ∀ b c, f a b < 0 → f b c < 0 → f a c < 0

theorem PO.zero {α : Type} (a : α) : PO (fun _ _ => 0) a :=
  ⟨fun _ => rfl, fun _ => ⟨by show (-1 : Int) ≤ 0; omega, by show (0 : Int) ≤ 1; omega⟩, fun _ _ _ => rfl, fun _ _ _ => rfl, fun _ _ h _ => h⟩
end Go.Br
end
section
set_option linter.unusedSimpArgs false
set_option linter.unusedVariables false
namespace Go.Br
open Go Go.Eng Go.L41

/-! ## Short names -/
def namesF (l : Lf) : List ByteArray := l.L.map Mono.Name
def namesN (x : Ex) : List ByteArray := (formsL x).flatMap namesF
def namesA (l : List Ex) : List ByteArray := l.flatMap namesN
def indexT (e : Ex) : List ByteArray := thinB (sortB (namesA (nodes e)))
theorem namesF_one (pre : List Lf) (x : Lf) : (pre ++ [x]).flatMap namesF = pre.flatMap namesF ++ namesF x := by rw [List.flatMap_append]; simp
theorem namesA_one (pre : List Ex) (x : Ex) : namesA (pre ++ [x]) = namesA pre ++ namesN x := by unfold namesA; rw [List.flatMap_append]; simp
theorem namesM_next {l : List Mono} {k : Nat} {x : Mono} (h : l[k]? = some x) : (l.take (k + 1)).map Mono.Name = (l.take k).map Mono.Name ++ [x.Name] := by rw [take_next h, List.map_append]; rfl
theorem namesN_len (x : Ex) : (namesN x).length ≤ x.Lin.L.length + idxWt x.Idx := by
  unfold namesN formsL
  rw [List.flatMap_cons, List.length_append]
  have h1 : ∀ l : List Lf, (l.flatMap namesF).length = linsWt l := by
    intro l
    induction l with
    | nil => rfl
    | cons a r ih => rw [List.flatMap_cons, List.length_append, ih, linsWt]; unfold namesF; rw [List.length_map]
  have h2 : ∀ l : List Ix, ((l.flatMap fun x => x.Lin :: x.At).flatMap namesF).length ≤ idxWt l := by
    intro l
    induction l with
    | nil => simp [idxWt]
    | cons a r ih =>
      rw [List.flatMap_cons, List.flatMap_append, List.length_append, idxWt, h1, linsWt, Ix.wt]
      omega
  have := h2 x.Idx
  have e : (namesF x.Lin).length = x.Lin.L.length := by unfold namesF; rw [List.length_map]
  omega
theorem namesA_len (e : Ex) : (namesA (nodes e)).length ≤ e.wt := by
  induction e using Ex.ind with
  | _ e ih =>
    rw [nodes_eq, Ex.wt_eq]
    have e1 : namesA (e :: nodesL e.Args) = namesN e ++ namesA (nodesL e.Args) := rfl
    rw [e1, List.length_append]
    have h2 : ∀ l : List Ex, (∀ a, a ∈ l → (namesA (nodes a)).length ≤ a.wt) → (namesA (nodesL l)).length ≤ argsWt l := by
      intro l
      induction l with
      | nil => intro _; simp [namesA, nodesL, argsWt]
      | cons a r ih2 =>
        intro h
        have h3 := h a (by simp)
        have h4 := ih2 fun b hb => h b (by simp [hb])
        have e2 : namesA (nodesL (a :: r)) = namesA (nodes a) ++ namesA (nodesL r) := by rw [nodesL]; unfold namesA; rw [List.flatMap_append]
        rw [e2, List.length_append, argsWt]; omega
    have h5 := h2 e.Args ih
    have h6 := namesN_len e
    omega
theorem namesP_len {e : Ex} {pre suf : List Ex} (h : nodes e = pre ++ suf) : (namesA pre).length ≤ e.wt := by
  have h1 := namesA_len e
  have e1 : namesA (nodes e) = namesA pre ++ namesA suf := by rw [h]; unfold namesA; rw [List.flatMap_append]
  rw [e1, List.length_append] at h1; omega
theorem namesX_len {x : Ex} {pre suf : List Lf} (h : formsL x = pre ++ suf) : (pre.flatMap namesF).length ≤ (namesN x).length := by
  unfold namesN
  rw [h, List.flatMap_append, List.length_append]; omega
end Go.Br
end
section
namespace Go.Br
open Go Go.Eng Go.L41

structure Bf where
  Name : ByteArray
  T : Ty
  Dims : List Int
  Use : Int
  deriving DecidableEq

inductive St where
  | mk (op : Int) (name : ByteArray) (many mark fold : Int) (idx : List Ix) (ex : Ex) (body : List St)

namespace St
def Op : St → Int | mk x _ _ _ _ _ _ _ => x
def Name : St → ByteArray | mk _ x _ _ _ _ _ _ => x
def Many : St → Int | mk _ _ x _ _ _ _ _ => x
def Mark : St → Int | mk _ _ _ x _ _ _ _ => x
def Fold : St → Int | mk _ _ _ _ x _ _ _ => x
def Idx : St → List Ix | mk _ _ _ _ _ x _ _ => x
def E : St → Ex | mk _ _ _ _ _ _ x _ => x
def Body : St → List St | mk _ _ _ _ _ _ _ x => x
theorem eta (s : St) : s = mk s.Op s.Name s.Many s.Mark s.Fold s.Idx s.E s.Body := by cases s; rfl
theorem ind {P : St → Prop} (h : ∀ s : St, (∀ a, a ∈ s.Body → P a) → P s) (s : St) : P s :=
  St.rec (motive_1 := P) (motive_2 := fun l => ∀ a, a ∈ l → P a) (fun o n m k f i e b ih => h (mk o n m k f i e b) ih) (fun a h => by cases h)
    (fun x l hx hl a ha => by rcases List.mem_cons.1 ha with rfl | ha; exact hx; exact hl a ha) s
end St

structure Ns where
  Bufs : List Bf
  Body : List St

def Bf.cells (b : Bf) : List C := [cS b.Name, cI b.T.Kind, cI b.T.Bits, cI b.T.Frac, cI b.T.Round, cI b.T.Over, .sl 1 (b.Dims.map fun n => [cI n]), cI b.Use]
mutual
def St.cells : St → List C
  | .mk o n m k f i e b => [cI o, cS n, cI m, cI k, cI f, .sl 4 (i.map Ix.cells)] ++ e.cs ++ [.sl 20 (stCellsL b)]
def stCellsL : List St → List (List C)
  | [] => []
  | s :: r => s.cells :: stCellsL r
end
theorem stCellsL_eq (l : List St) : stCellsL l = l.map St.cells := by
  induction l with
  | nil => rfl
  | cons s r ih => rw [stCellsL, ih]; rfl
/-- The cells of a statement, spelled out. -/
def St.cs (s : St) : List C := [cI s.Op, cS s.Name, cI s.Many, cI s.Mark, cI s.Fold, .sl 4 (s.Idx.map Ix.cells),
  cI s.E.Op, cS s.E.Name, cI s.E.Val.N, cI s.E.Val.D, cI s.E.Ty.Kind, cI s.E.Ty.Bits, cI s.E.Ty.Frac, cI s.E.Ty.Round, cI s.E.Ty.Over, cI s.E.Lin.K, .sl 2 (s.E.Lin.L.map Mono.cells), .sl 4 (s.E.Idx.map Ix.cells), .sl 13 (s.E.Args.map Ex.cells), .sl 20 (s.Body.map St.cells)]
theorem St.cells_eq (s : St) : s.cells = s.cs := by
  cases s; rw [St.cells, stCellsL_eq]; rfl
def Ns.cells (n : Ns) : List C := [.sl 8 (n.Bufs.map Bf.cells), .sl 20 (n.Body.map St.cells)]
abbrev vBf (b : Bf) : V := .agg b.cells
abbrev vSt (s : St) : V := .agg s.cs
abbrev vSts (l : List St) : V := .c (.sl 20 (l.map St.cells))
abbrev vNs (n : Ns) : V := .agg n.cells
abbrev vIs (l : List Int) : V := .c (.sl 1 (l.map fun n => [cI n]))
abbrev vBfs (l : List Bf) : V := .c (.sl 8 (l.map Bf.cells))
theorem allP_next {α : Type} {p : α → Bool} {l : List α} {k : Nat} {x : α} (h : l[k]? = some x) (hp : (l.take k).all p = true) (hx : p x = true) : (l.take (k + 1)).all p = true := by
  rw [take_next h, List.all_append, hp]; simp [hx]
theorem getmS {l : List St} {k : Nat} {x : St} (h : l[k]? = some x) : (l.map St.cells)[k]? = some x.cs := by
  rw [getm h, St.cells_eq]

/-! ## Sizes -/
mutual
def St.wt : St → Nat
  | .mk _ _ _ _ _ i e b => 1 + e.wt + i.length + idxWt i + stsWt b
def stsWt : List St → Nat
  | [] => 0
  | s :: r => s.wt + stsWt r
end
theorem St.wt_eq (s : St) : s.wt = 1 + s.E.wt + s.Idx.length + idxWt s.Idx + stsWt s.Body := by cases s; rw [St.wt]; rfl
theorem stsWt_len (l : List St) : l.length ≤ stsWt l := by
  induction l with
  | nil => simp [stsWt]
  | cons y r ih => rw [stsWt, List.length_cons]; have := y.wt_eq; omega
theorem stsWt_mem {l : List St} {a : St} (h : a ∈ l) : a.wt ≤ stsWt l := by
  induction l with
  | nil => cases h
  | cons x r ih =>
    rw [stsWt]
    rcases List.mem_cons.1 h with rfl | h
    · omega
    · have := ih h; omega

theorem St.wt_pos (s : St) : 1 ≤ s.wt := by rw [St.wt_eq]; omega
theorem St.body_wt (s : St) : stsWt s.Body < s.wt := by rw [St.wt_eq s]; omega
theorem St.parts {s : St} {B : Nat} (h : s.wt ≤ B) : s.E.wt ≤ B ∧ s.Idx.length ≤ B ∧ idxWt s.Idx ≤ B ∧ s.Body.length ≤ B ∧ stsWt s.Body ≤ B := by
  rw [St.wt_eq] at h
  have := stsWt_len s.Body
  omega
/-- The read that stands for the target of a store. -/
def rdE (s : St) : Ex := .mk 3 s.Name ⟨0, 0⟩ ⟨0, 0, 0, 0, 0⟩ ⟨0, []⟩ s.Idx []
theorem rdE_wt (s : St) : (rdE s).wt ≤ s.wt + 1 := by
  rw [Ex.wt_eq, St.wt_eq]; simp only [rdE, Ex.Lin, Ex.Idx, Ex.Args, argsWt, List.length_nil]; omega

/-! ## Shapes (11.1) -/
def posI (n : Int) : Bool := decide (1 ≤ n)
def sizeFrom : Int → List Int → Option Int
  | s, [] => some s
  | s, n :: r => if 4096 < s * n then none else sizeFrom (s * n) r
def dimsErr (d : List Int) : Int := if 6 < d.length then 2 else if d.all posI = true then (if (sizeFrom 1 d).isSome = true then 0 else 2) else 1
def dimsSize (d : List Int) : Int := if dimsErr d = 0 then (sizeFrom 1 d).getD 0 else 0
theorem dims_long {d : List Int} (h : 6 < d.length) : dimsErr d = 2 := by unfold dimsErr; rw [if_pos h]
theorem dims_neg {d : List Int} {k : Nat} {n : Int} (h : ¬ 6 < d.length) (hn : d[k]? = some n) (h2 : n < 1) : dimsErr d = 1 := by
  unfold dimsErr
  rw [if_neg h, if_neg (by rw [all_no hn (p := posI) (by unfold posI; exact decide_eq_false (by omega))]; simp)]
theorem dims_over {d : List Int} (h : ¬ 6 < d.length) (h1 : d.all posI = true) (h2 : sizeFrom 1 d = none) : dimsErr d = 2 := by
  unfold dimsErr; rw [if_neg h, if_pos h1, h2]; rfl
theorem dims_ok {d : List Int} {s : Int} (h : ¬ 6 < d.length) (h1 : d.all posI = true) (h2 : sizeFrom 1 d = some s) : dimsErr d = 0 := by
  unfold dimsErr; rw [if_neg h, if_pos h1, h2]; rfl
theorem size_next {d : List Int} {k : Nat} {n s : Int} (h : d[k]? = some n) (hs : sizeFrom 1 d = sizeFrom s (d.drop k)) (h2 : ¬ 4096 < s * n) : sizeFrom 1 d = sizeFrom (s * n) (d.drop (k + 1)) := by
  rw [hs, drop_cons h, sizeFrom, if_neg h2]
theorem size_over {d : List Int} {k : Nat} {n s : Int} (h : d[k]? = some n) (hs : sizeFrom 1 d = sizeFrom s (d.drop k)) (h2 : 4096 < s * n) : sizeFrom 1 d = none := by
  rw [hs, drop_cons h, sizeFrom, if_pos h2]
theorem size_done {d : List Int} {k : Nat} {s : Int} (hs : sizeFrom 1 d = sizeFrom s (d.drop k)) (h : ¬ k < d.length) : sizeFrom 1 d = some s := by
  rw [hs, drop_end h]; rfl
theorem quo_lt {s n : Int} (h : 1 ≤ s) : Int.tdiv 4096 s < n ↔ 4096 < s * n := by
  rw [Int.tdiv_eq_ediv_of_nonneg (by omega), Int.ediv_lt_iff_lt_mul (by omega), Int.mul_comm]
theorem quo_wrap {s : Int} (h : 1 ≤ s) : IntKind.i64.wrap (Int.tdiv 4096 s) = Int.tdiv 4096 s := by
  have h1 : Int.tdiv 4096 s = 4096 / s := Int.tdiv_eq_ediv_of_nonneg (by omega)
  have h2 : 0 ≤ (4096 : Int) / s := Int.ediv_nonneg (by omega) (by omega)
  have h3 : (4096 : Int) / s ≤ 4096 := Int.ediv_le_self _ (by omega)
  exact wrap_in ⟨by omega, by omega⟩
theorem quo_t {s n : Int} (h : 1 ≤ s) (c : IntKind.i64.wrap (Int.tdiv 4096 s) < n) : 4096 < s * n := by rw [quo_wrap h] at c; exact (quo_lt h).1 c
theorem quo_f {s n : Int} (h : 1 ≤ s) (c : ¬ IntKind.i64.wrap (Int.tdiv 4096 s) < n) : ¬ 4096 < s * n := by rw [quo_wrap h] at c; exact fun k => c ((quo_lt h).2 k)
theorem posI_get {d : List Int} {k : Nat} {n : Int} (h : d.all posI = true) (hn : d[k]? = some n) : 1 ≤ n := by
  have := (List.all_eq_true.1 h) n (mem_of_get hn)
  simpa [posI] using this
theorem mul_pos1 {s n : Int} (h : 1 ≤ s) (h2 : 1 ≤ n) : 1 ≤ s * n ∧ n ≤ s * n := by
  have h3 : 1 * n ≤ s * n := Int.mul_le_mul_of_nonneg_right h (by omega)
  omega
theorem sizeFrom_ge : ∀ {d : List Int} {s t : Int}, 1 ≤ s → s ≤ 4096 → d.all posI = true → sizeFrom s d = some t → 1 ≤ t ∧ t ≤ 4096
  | [], s, t, h, h2, _, h3 => by simp only [sizeFrom, Option.some.injEq] at h3; omega
  | n :: r, s, t, h, h2, hp, h3 => by
    rw [sizeFrom] at h3
    simp only [List.all_cons, Bool.and_eq_true] at hp
    have hn : 1 ≤ n := by simpa [posI] using hp.1
    split at h3
    · cases h3
    · rename_i h4
      exact sizeFrom_ge (mul_pos1 h hn).1 (by omega) hp.2 h3
theorem dimsErr_0 {d : List Int} (h : dimsErr d = 0) : d.length ≤ 6 ∧ d.all posI = true ∧ ∃ s, sizeFrom 1 d = some s ∧ 1 ≤ s ∧ s ≤ 4096 := by
  unfold dimsErr at h
  split at h
  · cases h
  · rename_i h6
    split at h
    · rename_i hp
      split at h
      · rename_i hs
        obtain ⟨s, hs⟩ := Option.isSome_iff_exists.1 hs
        have := sizeFrom_ge (by omega) (by omega) hp hs
        exact ⟨by omega, hp, s, hs, this.1, this.2⟩
      · cases h
    · cases h
theorem dimsSize_ok {d : List Int} {s : Int} (h : dimsErr d = 0) (hs : sizeFrom 1 d = some s) : dimsSize d = s := by unfold dimsSize; rw [if_pos h, hs]; rfl
def zBf : Bf := ⟨bs [], zTy, [], 0⟩
def hasBf (l : List Bf) (s : ByteArray) : Bool := l.any fun b => decide (b.Name = s)
def bufD : List Bf → ByteArray → Bf
  | [], _ => zBf
  | b :: r, s => if b.Name = s then b else bufD r s
theorem bufD_at {l : List Bf} {k : Nat} {b : Bf} {s : ByteArray} (h : l[k]? = some b) (hb : b.Name = s) : bufD (l.drop k) s = b := by rw [drop_cons h, bufD, if_pos hb]
theorem bufD_next {l : List Bf} {k : Nat} {b : Bf} {s : ByteArray} (h : l[k]? = some b) (hb : ¬ b.Name = s) : bufD (l.drop k) s = bufD (l.drop (k + 1)) s := by rw [drop_cons h, bufD, if_neg hb]
theorem hasBf_at {l : List Bf} {k : Nat} {b : Bf} {s : ByteArray} (h : l[k]? = some b) (hb : b.Name = s) : hasBf l s = true := by
  unfold hasBf; rw [List.any_eq_true]; exact ⟨b, mem_of_get h, decide_eq_true hb⟩
theorem hasBf_next {l : List Bf} {k : Nat} {b : Bf} {s : ByteArray} (h : l[k]? = some b) (hp : hasBf (l.take k) s = false) (hb : ¬ b.Name = s) : hasBf (l.take (k + 1)) s = false := by
  unfold hasBf at *; rw [take_next h, List.any_append, hp]; simp [hb]
theorem bufD_no : ∀ {l : List Bf} {s : ByteArray}, hasBf l s = false → bufD l s = zBf
  | [], _, _ => rfl
  | b :: r, s, h => by
    simp only [hasBf, List.any_cons, Bool.or_eq_false_iff, decide_eq_false_iff_not] at h
    rw [bufD, if_neg h.1]; exact bufD_no h.2
def bfErr (seen : List Bf) (b : Bf) : Int :=
  if isNameB b.Name = true then (if hasBf seen b.Name = true then 8 else if tyOk b.T = true then (if dimsErr b.Dims = 0 then (if b.Use < 1 ∨ 3 < b.Use then 1 else 0) else dimsErr b.Dims) else 10) else 7
def bufsErr : List Bf → List Bf → Int
  | _, [] => 0
  | seen, b :: r => if bfErr seen b = 0 then bufsErr (seen ++ [b]) r else bfErr seen b
theorem bfErr_7 {seen : List Bf} {b : Bf} (h : isNameB b.Name = false) : bfErr seen b = 7 := by unfold bfErr; rw [if_neg (by rw [h]; simp)]
theorem bfErr_8 {seen : List Bf} {b : Bf} (h : isNameB b.Name = true) (h2 : hasBf seen b.Name = true) : bfErr seen b = 8 := by unfold bfErr; rw [if_pos h, if_pos h2]
theorem bfErr_10 {seen : List Bf} {b : Bf} (h : isNameB b.Name = true) (h2 : hasBf seen b.Name = false) (h3 : tyOk b.T = false) : bfErr seen b = 10 := by unfold bfErr; rw [if_pos h, if_neg (by rw [h2]; simp), if_neg (by rw [h3]; simp)]
theorem bfErr_d {seen : List Bf} {b : Bf} (h : isNameB b.Name = true) (h2 : hasBf seen b.Name = false) (h3 : tyOk b.T = true) (h4 : ¬ dimsErr b.Dims = 0) : bfErr seen b = dimsErr b.Dims := by unfold bfErr; rw [if_pos h, if_neg (by rw [h2]; simp), if_pos h3, if_neg h4]
theorem bfErr_u {seen : List Bf} {b : Bf} (h : isNameB b.Name = true) (h2 : hasBf seen b.Name = false) (h3 : tyOk b.T = true) (h4 : dimsErr b.Dims = 0) (h5 : b.Use < 1 ∨ 3 < b.Use) : bfErr seen b = 1 := by unfold bfErr; rw [if_pos h, if_neg (by rw [h2]; simp), if_pos h3, if_pos h4, if_pos h5]
theorem bfErr_0 {seen : List Bf} {b : Bf} (h : isNameB b.Name = true) (h2 : hasBf seen b.Name = false) (h3 : tyOk b.T = true) (h4 : dimsErr b.Dims = 0) (h5 : ¬ (b.Use < 1 ∨ 3 < b.Use)) : bfErr seen b = 0 := by unfold bfErr; rw [if_pos h, if_neg (by rw [h2]; simp), if_pos h3, if_pos h4, if_neg h5]
theorem bufsErr_next {l : List Bf} {k : Nat} {b : Bf} (h : l[k]? = some b) (hp : bufsErr [] l = bufsErr (l.take k) (l.drop k)) (hb : bfErr (l.take k) b = 0) : bufsErr [] l = bufsErr (l.take (k + 1)) (l.drop (k + 1)) := by
  rw [hp, drop_cons h, bufsErr, if_pos hb, take_next h]
theorem bufsErr_no {l : List Bf} {k : Nat} {b : Bf} (h : l[k]? = some b) (hp : bufsErr [] l = bufsErr (l.take k) (l.drop k)) (hb : ¬ bfErr (l.take k) b = 0) : bufsErr [] l = bfErr (l.take k) b := by
  rw [hp, drop_cons h, bufsErr, if_neg hb]
theorem bufsErr_end {l : List Bf} {k : Nat} (hp : bufsErr [] l = bufsErr (l.take k) (l.drop k)) (h : ¬ k < l.length) : bufsErr [] l = 0 := by
  rw [hp, drop_end h]; rfl

/-! ## Depth and number of statements -/
def withinT : Nat → List St → Bool
  | 0, l => l.isEmpty
  | n + 1, l => l.all fun s => withinT n s.Body
mutual
def stN : St → Nat
  | .mk _ _ _ _ _ _ _ b => 1 + stsN b
def stsN : List St → Nat
  | [] => 0
  | s :: r => stN s + stsN r
end
def withinG (n : Nat) (l : List St) : Bool := withinT n l
theorem withinG_eq (n : Nat) (l : List St) : withinG n l = withinT n l := rfl
theorem withinG_next {n : Nat} {l : List St} {k : Nat} {s : St} (h : l[k]? = some s) (hp : withinG n (l.take k) = true) (hn : 1 ≤ n) (hs : withinT (n - 1) s.Body = true) : withinG n (l.take (k + 1)) = true := by
  obtain ⟨m, rfl⟩ : ∃ m, n = m + 1 := ⟨n - 1, by omega⟩
  exact allP_next h hp hs
theorem within_no {n : Nat} {l : List St} {k : Nat} {s : St} {x : Int} (h : l[k]? = some s) (hx : x = n) (c : (decide (x < 1) || !withinT (n - 1) s.Body) = true) : withinT n l = false := by
  cases n with
  | zero => cases l with
    | nil => simp at h
    | cons a r => rfl
  | succ n =>
    have : withinT n s.Body = false := by
      rw [Bool.or_eq_true] at c
      rcases c with c | c
      · rw [decide_eq_true_eq] at c; omega
      · simpa using c
    exact all_no h this
theorem within_yes {n : Nat} {s : St} {x : Int} (hx : x = n) (c : (decide (x < 1) || !withinT (n - 1) s.Body) = false) : 1 ≤ n ∧ withinT (n - 1) s.Body = true := by
  rw [Bool.or_eq_false_iff] at c
  refine ⟨?_, by simpa using c.2⟩
  have := c.1; rw [decide_eq_false_iff_not] at this; omega
theorem stN_eq (s : St) : stN s = 1 + stsN s.Body := by cases s; rw [stN]; rfl
theorem stsN_append : ∀ (a b : List St), stsN (a ++ b) = stsN a + stsN b
  | [], b => by simp [stsN]
  | x :: r, b => by rw [List.cons_append, stsN, stsN, stsN_append r b]; omega
theorem stsN_len : ∀ l : List St, l.length ≤ stsN l
  | [] => by simp [stsN]
  | x :: r => by have := stsN_len r; have := stN_eq x; rw [stsN, List.length_cons]; omega
mutual
theorem stN_wt : ∀ s : St, stN s ≤ s.wt
  | .mk o n m k f i e b => by rw [stN, St.wt]; have := stsN_wt b; omega
theorem stsN_wt : ∀ l : List St, stsN l ≤ stsWt l
  | [] => by simp [stsN, stsWt]
  | s :: r => by rw [stsN, stsWt]; have := stN_wt s; have := stsN_wt r; omega
end
mutual
def numS : St → Nat → Nat
  | .mk _ _ _ _ _ _ _ b, m => numL b m b.length
def numL : List St → Nat → Nat → Nat
  | [], _, n => n
  | s :: r, m, n => if n ≤ m then numL r m (n + numS s (m - n)) else n
end
def numB (l : List St) (m : Nat) : Nat := numL l m l.length
theorem numS_eq (s : St) (m : Nat) : numS s m = numB s.Body m := by cases s; rw [numS]; rfl
mutual
theorem numS_le : ∀ (s : St) (m : Nat), numS s m ≤ stN s - 1
  | .mk _ _ _ _ _ _ _ b, m => by
    rw [numS, stN]
    have h1 := numL_le b m b.length
    have h2 := stsN_len b
    omega
theorem numL_le : ∀ (l : List St) (m n : Nat), numL l m n ≤ n + (stsN l - l.length)
  | [], m, n => by simp [numL]
  | s :: r, m, n => by
    rw [numL]
    have h3 := stsN_len r
    have h4 := stN_eq s
    split
    · have h1 := numL_le r m (n + numS s (m - n))
      have h2 := numS_le s (m - n)
      rw [stsN, List.length_cons]; omega
    · rw [stsN, List.length_cons]; omega
end
theorem numB_le (l : List St) (m : Nat) : numB l m ≤ stsN l := by
  have h1 := numL_le l m l.length
  have h2 := stsN_len l
  unfold numB; omega
mutual
theorem numS_eqN : ∀ (s : St) (m : Nat), stN s - 1 ≤ m → numS s m = stN s - 1
  | .mk _ _ _ _ _ _ _ b, m, h => by
    rw [stN] at h
    rw [numS, stN, numL_eqN b m b.length (by have := stsN_len b; omega)]
    have := stsN_len b; omega
theorem numL_eqN : ∀ (l : List St) (m n : Nat), n + (stsN l - l.length) ≤ m → numL l m n = n + (stsN l - l.length)
  | [], m, n, h => by simp [numL, stsN]
  | s :: r, m, n, h => by
    rw [stsN, List.length_cons] at h
    have h3 := stsN_len r
    have h4 := stN_eq s
    rw [numL, if_pos (by omega), numS_eqN s (m - n) (by omega), numL_eqN r m _ (by omega), stsN, List.length_cons]
    omega
end
theorem numB_eqN {l : List St} {m : Nat} (h : stsN l ≤ m) : numB l m = stsN l := by
  have h2 := stsN_len l
  unfold numB
  rw [numL_eqN l m _ (by omega)]; omega
theorem numL_ge : ∀ (l : List St) (m n : Nat), n ≤ numL l m n
  | [], m, n => by rw [numL]; omega
  | s :: r, m, n => by
    rw [numL]; split
    · have := numL_ge r m (n + numS s (m - n)); omega
    · omega
mutual
theorem numS_ok : ∀ (s : St) (m : Nat), numS s m ≤ m → numS s m = stN s - 1
  | .mk _ _ _ _ _ _ _ b, m, h => by
    rw [numS] at h ⊢
    rw [stN, numL_ok b m _ h]
    have := stsN_len b; omega
theorem numL_ok : ∀ (l : List St) (m n : Nat), numL l m n ≤ m → numL l m n = n + (stsN l - l.length)
  | [], m, n, h => by simp [numL, stsN]
  | s :: r, m, n, h => by
    have h3 := stsN_len r
    have h4 := stN_eq s
    by_cases hn : n ≤ m
    · rw [numL, if_pos hn] at h ⊢
      have h5 := numL_ge r m (n + numS s (m - n))
      have h6 := numS_ok s (m - n) (by omega)
      rw [numL_ok r m _ h, h6, stsN, List.length_cons]; omega
    · rw [numL, if_neg hn] at h; omega
end
theorem numB_ok {l : List St} {m : Nat} (h : numB l m ≤ m) : stsN l = numB l m := by
  have h2 := stsN_len l
  unfold numB at *
  rw [numL_ok l m _ h]; omega
theorem num_next {l : List St} {k m n N : Nat} {s : St} (h : l[k]? = some s) (hp : N = numL (l.drop k) m n) (hn : n ≤ m) : N = numL (l.drop (k + 1)) m (n + numB s.Body (m - n)) := by
  rw [hp, drop_cons h, numL, if_pos hn, numS_eq]
theorem num_end {l : List St} {k m n N : Nat} (hp : N = numL (l.drop k) m n) (h : l.length ≤ k ∨ m < n) : n = N := by
  rw [hp]
  by_cases hk : k < l.length
  · obtain ⟨a, ha⟩ := ex_get l k hk
    rw [drop_cons ha, numL, if_neg (by omega)]
  · rw [drop_end hk, numL]
theorem stsN_mem {l : List St} {s : St} (h : s ∈ l) : stN s ≤ stsN l := by
  induction l with
  | nil => cases h
  | cons x r ih =>
    rw [stsN]
    rcases List.mem_cons.1 h with rfl | h
    · omega
    · have := ih h; omega
theorem stsN_drop {l : List St} {k : Nat} {s : St} (h : l[k]? = some s) : stsN (l.drop k) = stN s + stsN (l.drop (k + 1)) := by rw [drop_cons h, stsN]
theorem num_sum {l : List St} {k m n : Nat} {s : St} (h : l[k]? = some s) (hp : numB l m = numL (l.drop k) m n) (hn : n ≤ m) : n + numB s.Body (m - n) ≤ n + stsN l := by
  have h1 := numB_le s.Body (m - n)
  have h2 : stsN l = stsN (l.take k) + (stN s + stsN (l.drop (k + 1))) := by
    rw [← stsN, ← drop_cons h, ← stsN_append, List.take_append_drop]
  have := stN_eq s
  omega
end Go.Br
end
section
set_option linter.unusedSimpArgs false
set_option linter.unusedVariables false
namespace Go.Br
open Go Go.Eng Go.L41

/-! ## Names of a node -/
def inSc (sc : List ByteArray) (l : Lf) : Bool := l.L.all fun m => hasB sc m.Name
def ixSc (sc : List ByteArray) (x : Ix) : Bool := inSc sc x.Lin && x.At.all (inSc sc)
def nodeSc (sc : List ByteArray) (e : Ex) : Bool := inSc sc e.Lin && e.Idx.all (ixSc sc)
def gathE (B : List Bf) (x : Ix) : Int :=
  if x.From = bs [] then 0 else if hasBf B x.From = true then (if (bufD B x.From).T.Kind = 3 then (if (bufD B x.From).Dims.length = x.At.length then 0 else 11) else 10) else 9
def gathL (B : List Bf) : List Ix → Int
  | [] => 0
  | x :: r => if gathE B x = 0 then gathL B r else gathE B x
def nodeN (B : List Bf) (sc : List ByteArray) (e : Ex) : Int :=
  if nodeSc sc e = true then (if e.Op = 3 then (if hasBf B e.Name = true then (if (bufD B e.Name).Dims.length = e.Idx.length then gathL B e.Idx else 11) else 9) else 0) else 9
def nodesN (B : List Bf) (sc : List ByteArray) : List Ex → Int
  | [] => 0
  | e :: r => if nodeN B sc e = 0 then nodesN B sc r else nodeN B sc e
theorem gathE_0 {B : List Bf} {x : Ix} (h : x.From = bs []) : gathE B x = 0 := by unfold gathE; rw [if_pos h]
theorem gathE_9 {B : List Bf} {x : Ix} (h : ¬ x.From = bs []) (h1 : hasBf B x.From = false) : gathE B x = 9 := by unfold gathE; rw [if_neg h, if_neg (by rw [h1]; simp)]
theorem gathE_10 {B : List Bf} {x : Ix} (h : ¬ x.From = bs []) (h1 : hasBf B x.From = true) (h2 : ¬ (bufD B x.From).T.Kind = 3) : gathE B x = 10 := by unfold gathE; rw [if_neg h, if_pos h1, if_neg h2]
theorem gathE_11 {B : List Bf} {x : Ix} (h : ¬ x.From = bs []) (h1 : hasBf B x.From = true) (h2 : (bufD B x.From).T.Kind = 3) (h3 : ¬ (bufD B x.From).Dims.length = x.At.length) : gathE B x = 11 := by unfold gathE; rw [if_neg h, if_pos h1, if_pos h2, if_neg h3]
theorem gathE_ok {B : List Bf} {x : Ix} (h : ¬ x.From = bs []) (h1 : hasBf B x.From = true) (h2 : (bufD B x.From).T.Kind = 3) (h3 : (bufD B x.From).Dims.length = x.At.length) : gathE B x = 0 := by unfold gathE; rw [if_neg h, if_pos h1, if_pos h2, if_pos h3]
theorem gathL_next {B : List Bf} {l : List Ix} {k : Nat} {x : Ix} (h : l[k]? = some x) (hx : gathE B x = 0) : gathL B (l.drop k) = gathL B (l.drop (k + 1)) := by rw [drop_cons h, gathL, if_pos hx]
theorem gathL_no {B : List Bf} {l : List Ix} {k : Nat} {x : Ix} (h : l[k]? = some x) (hx : ¬ gathE B x = 0) : gathL B (l.drop k) = gathE B x := by rw [drop_cons h, gathL, if_neg hx]
theorem nodeN_9 {B : List Bf} {sc : List ByteArray} {e : Ex} (h : nodeSc sc e = false) : nodeN B sc e = 9 := by unfold nodeN; rw [if_neg (by rw [h]; simp)]
theorem nodeN_o {B : List Bf} {sc : List ByteArray} {e : Ex} (h : nodeSc sc e = true) (h1 : ¬ e.Op = 3) : nodeN B sc e = 0 := by unfold nodeN; rw [if_pos h, if_neg h1]
theorem nodeN_n {B : List Bf} {sc : List ByteArray} {e : Ex} (h : nodeSc sc e = true) (h1 : e.Op = 3) (h2 : hasBf B e.Name = false) : nodeN B sc e = 9 := by unfold nodeN; rw [if_pos h, if_pos h1, if_neg (by rw [h2]; simp)]
theorem nodeN_r {B : List Bf} {sc : List ByteArray} {e : Ex} (h : nodeSc sc e = true) (h1 : e.Op = 3) (h2 : hasBf B e.Name = true) (h3 : ¬ (bufD B e.Name).Dims.length = e.Idx.length) : nodeN B sc e = 11 := by unfold nodeN; rw [if_pos h, if_pos h1, if_pos h2, if_neg h3]
theorem nodeN_g {B : List Bf} {sc : List ByteArray} {e : Ex} (h : nodeSc sc e = true) (h1 : e.Op = 3) (h2 : hasBf B e.Name = true) (h3 : (bufD B e.Name).Dims.length = e.Idx.length) : nodeN B sc e = gathL B e.Idx := by unfold nodeN; rw [if_pos h, if_pos h1, if_pos h2, if_pos h3]
theorem nodesN_append (B : List Bf) (sc : List ByteArray) : ∀ (a b : List Ex), nodesN B sc (a ++ b) = if nodesN B sc a = 0 then nodesN B sc b else nodesN B sc a
  | [], b => by simp [nodesN]
  | x :: r, b => by
    rw [List.cons_append, nodesN, nodesN, nodesN_append B sc r b]
    by_cases h : nodeN B sc x = 0
    · rw [if_pos h, if_pos h]
    · rw [if_neg h, if_neg h, if_neg h]
theorem nodesN_one {B : List Bf} {sc : List ByteArray} {pre : List Ex} {x : Ex} (h : nodesN B sc pre = 0) : nodesN B sc (pre ++ [x]) = nodeN B sc x := by
  rw [nodesN_append, if_pos h, nodesN, nodesN]
  by_cases hx : nodeN B sc x = 0
  · rw [if_pos hx, hx]
  · rw [if_neg hx]
theorem nodesN_pre {B : List Bf} {sc : List ByteArray} {pre suf : List Ex} {x : Ex} (h : ¬ nodesN B sc (pre ++ [x]) = 0) : nodesN B sc (pre ++ x :: suf) = nodesN B sc (pre ++ [x]) := by
  rw [show pre ++ x :: suf = (pre ++ [x]) ++ suf by simp, nodesN_append, if_neg h]
def tyF (B : List Bf) (e : Ex) (l : List Ty) : Ty × Int :=
  if e.Op = 1 ∨ e.Op = 12 then (e.Ty, 0) else
  if e.Op = 2 then (iTy, 0) else
  if e.Op = 3 then ((bufD B e.Name).T, 0) else
  if e.Op = 8 then (tyAt l 0, 0) else
  if e.Op = 16 ∨ e.Op = 17 ∨ e.Op = 18 then (zTy, 0) else
  if tyAt l (l.length - 2) = tyAt l (l.length - 1) then (if isCond e = true then (zTy, 0) else (tyAt l (l.length - 1), 0)) else (zTy, 10)
theorem tyF_1 {B : List Bf} {e : Ex} {l : List Ty} (h : e.Op = 1 ∨ e.Op = 12) : tyF B e l = (e.Ty, 0) := by unfold tyF; rw [if_pos h]
theorem tyF_2 {B : List Bf} {e : Ex} {l : List Ty} (h : e.Op = 2) : tyF B e l = (iTy, 0) := by unfold tyF; rw [if_neg (by omega), if_pos h]
theorem tyF_3 {B : List Bf} {e : Ex} {l : List Ty} (h : e.Op = 3) : tyF B e l = ((bufD B e.Name).T, 0) := by unfold tyF; rw [if_neg (by omega), if_neg (by omega), if_pos h]
theorem tyF_8 {B : List Bf} {e : Ex} {l : List Ty} (h : e.Op = 8) : tyF B e l = (tyAt l 0, 0) := by unfold tyF; rw [if_neg (by omega), if_neg (by omega), if_neg (by omega), if_pos h]
theorem tyF_16 {B : List Bf} {e : Ex} {l : List Ty} (h : e.Op = 16 ∨ e.Op = 17 ∨ e.Op = 18) : tyF B e l = (zTy, 0) := by unfold tyF; rw [if_neg (by omega), if_neg (by omega), if_neg (by omega), if_neg (by omega), if_pos h]
abbrev opLow (o : Int) : Prop := o = 1 ∨ o = 12 ∨ o = 2 ∨ o = 3 ∨ o = 8 ∨ o = 16 ∨ o = 17 ∨ o = 18
theorem tyF_o {B : List Bf} {e : Ex} {l : List Ty} (h : ¬ opLow e.Op) : tyF B e l = if tyAt l (l.length - 2) = tyAt l (l.length - 1) then (if isCond e = true then (zTy, 0) else (tyAt l (l.length - 1), 0)) else (zTy, 10) := by
  unfold opLow at h; unfold tyF; rw [if_neg (by omega), if_neg (by omega), if_neg (by omega), if_neg (by omega), if_neg (by omega)]
theorem tyF_10 {B : List Bf} {e : Ex} {l : List Ty} (h : ¬ opLow e.Op) (h2 : ¬ tyAt l (l.length - 2) = tyAt l (l.length - 1)) : tyF B e l = (zTy, 10) := by rw [tyF_o h, if_neg h2]
theorem tyF_c {B : List Bf} {e : Ex} {l : List Ty} (h : ¬ opLow e.Op) (h2 : tyAt l (l.length - 2) = tyAt l (l.length - 1)) (h3 : isCond e = true) : tyF B e l = (zTy, 0) := by rw [tyF_o h, if_pos h2, if_pos h3]
theorem tyF_e {B : List Bf} {e : Ex} {l : List Ty} (h : ¬ opLow e.Op) (h2 : tyAt l (l.length - 2) = tyAt l (l.length - 1)) (h3 : isCond e = false) : tyF B e l = (tyAt l (l.length - 1), 0) := by rw [tyF_o h, if_pos h2, if_neg (by rw [h3]; simp)]
theorem tyF_zero {B : List Bf} {e : Ex} {l : List Ty} (h : ¬ (tyF B e l).2 = 0) : (tyF B e l).1 = zTy := by
  unfold tyF at h ⊢
  repeat' split at h <;> first | exact absurd rfl h | skip
  all_goals simp_all
theorem nodeT_zero {B : List Bf} {e : Ex} (h : ¬ (nodeT (tyF B) e).2 = 0) : (nodeT (tyF B) e).1 = zTy := by
  rw [nodeT_eq] at h ⊢
  split
  · rename_i c
    rw [if_pos c] at h
    exact tyF_zero h
  · rfl
/-- The check of an expression inside the given loops: its type, or the first error. -/
def exprT (B : List Bf) (sc : List ByteArray) (e : Ex) : Ty × Int :=
  if validE e = 0 then (if nodesN B sc (nodes e) = 0 then nodeT (tyF B) e else (zTy, nodesN B sc (nodes e))) else (zTy, validE e)
theorem exprT_1 {B : List Bf} {sc : List ByteArray} {e : Ex} (h : ¬ validE e = 0) : exprT B sc e = (zTy, validE e) := by unfold exprT; rw [if_neg h]
theorem exprT_2 {B : List Bf} {sc : List ByteArray} {e : Ex} (h : validE e = 0) (h2 : ¬ nodesN B sc (nodes e) = 0) : exprT B sc e = (zTy, nodesN B sc (nodes e)) := by unfold exprT; rw [if_pos h, if_neg h2]
theorem exprT_3 {B : List Bf} {sc : List ByteArray} {e : Ex} (h : validE e = 0) (h2 : nodesN B sc (nodes e) = 0) : exprT B sc e = nodeT (tyF B) e := by unfold exprT; rw [if_pos h, if_pos h2]
theorem exprT_rd {B : List Bf} {sc : List ByteArray} {s : St} (h : (exprT B sc (rdE s)).2 = 0) : (exprT B sc (rdE s)).1 = (bufD B s.Name).T := by
  by_cases h1 : validE (rdE s) = 0
  · by_cases h2 : nodesN B sc (nodes (rdE s)) = 0
    · rw [exprT_3 h1 h2, nodeT_eq]
      have : nodeL (tyF B) (rdE s).Args = ([], 0) := rfl
      rw [this, if_pos rfl, tyF_3 rfl]; rfl
    · rw [exprT_2 h1 h2] at h; exact absurd h h2
  · rw [exprT_1 h1] at h; exact absurd h h1

/-! ## Statements -/
def emptyE (e : Ex) : Bool := decide (e = zEx)
def isSto (s : St) : Bool := decide (s.Op = 2) || decide (s.Op = 3)
/-- The kind and the fields that it does not use. -/
def synSt (s : St) : Bool :=
  (decide (s.Op = 1) || isSto s || decide (s.Op = 4)) && !(decide (s.Op = 4) && !decide (s.Name = bs [])) && !(!decide (s.Op = 1) && (!decide (s.Many = 0) || !decide (s.Mark = 0))) &&
  !(!decide (s.Op = 3) && !decide (s.Fold = 0)) && !(!isSto s && decide ((0 : Int) < s.Idx.length)) && !(decide (s.Op = 1) && !emptyE s.E) && (!isSto s || decide ((s.Body.length : Int) = 0))
theorem syn_1 {s : St} (c : ((!decide (s.Op = 1) && !(decide (s.Op = 2) || decide (s.Op = 3))) && !decide (s.Op = 4)) = true) : false = synSt s := by
  unfold synSt isSto
  simp only [Bool.and_eq_true, Bool.not_eq_true', Bool.or_eq_false_iff] at c
  simp only [c.1.1, c.1.2.1, c.1.2.2, c.2, Bool.or_self, Bool.false_and]
theorem syn_2 {s : St} (c : (decide (s.Op = 4) && !decide (s.Name = bs [])) = true) : false = synSt s := by
  unfold synSt; simp only [c, Bool.not_true, Bool.and_false, Bool.false_and]
theorem syn_3 {s : St} (c : (!decide (s.Op = 1) && (!decide (s.Many = 0) || !decide (s.Mark = 0))) = true) : false = synSt s := by
  unfold synSt; simp only [c, Bool.not_true, Bool.and_false, Bool.false_and]
theorem syn_4 {s : St} (c : (!decide (s.Op = 3) && !decide (s.Fold = 0)) = true) : false = synSt s := by
  unfold synSt; simp only [c, Bool.not_true, Bool.and_false, Bool.false_and]
theorem syn_5 {s : St} (c : (!isSto s && decide ((0 : Int) < s.Idx.length)) = true) : false = synSt s := by
  unfold synSt; simp only [c, Bool.not_true, Bool.and_false, Bool.false_and]
theorem syn_6 {s : St} (c : (decide (s.Op = 1) && !emptyE s.E) = true) : false = synSt s := by
  unfold synSt; simp only [c, Bool.not_true, Bool.and_false, Bool.false_and]
theorem syn_7 {s : St} (c1 : ((!decide (s.Op = 1) && !isSto s) && !decide (s.Op = 4)) = false) (c2 : (decide (s.Op = 4) && !decide (s.Name = bs [])) = false) (c3 : (!decide (s.Op = 1) && (!decide (s.Many = 0) || !decide (s.Mark = 0))) = false) (c4 : (!decide (s.Op = 3) && !decide (s.Fold = 0)) = false)
    (c5 : (!isSto s && decide ((0 : Int) < s.Idx.length)) = false) (c6 : (decide (s.Op = 1) && !emptyE s.E) = false) : (!isSto s || decide ((s.Body.length : Int) = 0)) = synSt s := by
  have h1 : (decide (s.Op = 1) || isSto s || decide (s.Op = 4)) = true := by
    revert c1; cases decide (s.Op = 1) <;> cases isSto s <;> cases decide (s.Op = 4) <;> simp
  unfold synSt
  simp only [h1, c2, c3, c4, c5, c6, Bool.not_false, Bool.true_and]
def loopE (B : List Bf) (U : List ByteArray) (s : St) : Int :=
  if isNameB s.Name = true then (if hasBf B s.Name = true ∨ hasB U s.Name = true then 8 else if s.Many < 1 ∨ 65536 < s.Many ∨ s.Mark < 0 ∨ 3 < s.Mark then 1 else 0) else 7
def ifE (B : List Bf) (sc : List ByteArray) (s : St) : Int := if (exprT B sc s.E).2 = 0 then (if isCond s.E = true then 0 else 10) else (exprT B sc s.E).2
def storeE (B : List Bf) (sc : List ByteArray) (s : St) : Int :=
  if (exprT B sc (rdE s)).2 = 0 then (if (bufD B s.Name).Use = 1 ∨ (s.Op = 3 ∧ (s.Fold < 1 ∨ 4 < s.Fold)) then 1 else
    if (exprT B sc s.E).2 = 0 then (if isCond s.E = true ∨ ¬ (exprT B sc s.E).1 = (bufD B s.Name).T then 10 else 0) else (exprT B sc s.E).2) else (exprT B sc (rdE s)).2
def stE (B : List Bf) (U sc : List ByteArray) (s : St) : Int :=
  if synSt s = true then (if s.Op = 1 then loopE B U s else if s.Op = 4 then ifE B sc s else storeE B sc s) else 5
/-- The names of all loops so far, the path, the error. -/
structure Ck where
  U : List ByteArray
  W : List Int
  E : Int
def nextU (U : List ByteArray) (s : St) : List ByteArray := if s.Op = 1 then U ++ [s.Name] else U
mutual
def chkS (B : List Bf) : List ByteArray → List ByteArray → List Int → St → Ck
  | U, sc, here, .mk o nm mn mk fo i e b => if stE B U sc (.mk o nm mn mk fo i e b) = 0 then chkL B (nextU U (.mk o nm mn mk fo i e b)) (nextU sc (.mk o nm mn mk fo i e b)) here 0 b else ⟨[], here, stE B U sc (.mk o nm mn mk fo i e b)⟩
def chkL (B : List Bf) : List ByteArray → List ByteArray → List Int → Int → List St → Ck
  | U, _, _, _, [] => ⟨U, [], 0⟩
  | U, sc, way, i, s :: r => if (chkS B U sc (way ++ [i]) s).E = 0 then chkL B (chkS B U sc (way ++ [i]) s).U sc way (i + 1) r else chkS B U sc (way ++ [i]) s
end
theorem chkS_eq (B : List Bf) (U sc : List ByteArray) (here : List Int) (s : St) : chkS B U sc here s = if stE B U sc s = 0 then chkL B (nextU U s) (nextU sc s) here 0 s.Body else ⟨[], here, stE B U sc s⟩ := by cases s; rw [chkS]; rfl
theorem chkS_no {B : List Bf} {U sc : List ByteArray} {here : List Int} {s : St} (h : ¬ stE B U sc s = 0) : chkS B U sc here s = ⟨[], here, stE B U sc s⟩ := by rw [chkS_eq, if_neg h]
theorem chkS_in {B : List Bf} {U sc : List ByteArray} {here : List Int} {s : St} (h : stE B U sc s = 0) : chkS B U sc here s = chkL B (nextU U s) (nextU sc s) here 0 s.Body := by rw [chkS_eq, if_pos h]
theorem chkL_next {B : List Bf} {R : Ck} {U sc : List ByteArray} {way : List Int} {l : List St} {k : Nat} {s : St} (h : l[k]? = some s) (hp : R = chkL B U sc way k (l.drop k)) (hx : (chkS B U sc (way ++ [(k : Int)]) s).E = 0) : R = chkL B (chkS B U sc (way ++ [(k : Int)]) s).U sc way ((k + 1 : Nat) : Int) (l.drop (k + 1)) := by
  rw [hp, drop_cons h, chkL, if_pos hx]; rfl
theorem chkL_no {B : List Bf} {R : Ck} {U sc : List ByteArray} {way : List Int} {l : List St} {k : Nat} {s : St} (h : l[k]? = some s) (hp : R = chkL B U sc way k (l.drop k)) (hx : ¬ (chkS B U sc (way ++ [(k : Int)]) s).E = 0) : R = chkS B U sc (way ++ [(k : Int)]) s := by
  rw [hp, drop_cons h, chkL, if_neg hx]
theorem chkL_end {B : List Bf} {R : Ck} {U sc : List ByteArray} {way : List Int} {l : List St} {k : Nat} (hp : R = chkL B U sc way k (l.drop k)) (h : ¬ k < l.length) : R = ⟨U, [], 0⟩ := by
  rw [hp, drop_end h, chkL]
theorem chkL_ok : ∀ {B : List Bf} {l : List St} {U sc : List ByteArray} {way : List Int} {i : Int}, (chkL B U sc way i l).E = 0 → (chkL B U sc way i l).W = []
  | B, [], U, sc, way, i, _ => by rw [chkL]
  | B, s :: r, U, sc, way, i, h => by
    rw [chkL] at h ⊢
    by_cases c : (chkS B U sc (way ++ [i]) s).E = 0
    · rw [if_pos c] at h ⊢; exact chkL_ok h
    · rw [if_neg c] at h; exact absurd h c
mutual
theorem chkS_len (B : List Bf) : ∀ (s : St) (U sc : List ByteArray) (here : List Int), (chkS B U sc here s).U.length ≤ U.length + stN s
  | .mk o nm mn mk fo i e b, U, sc, here => by
    rw [chkS, stN]
    split
    · have h1 := chkL_len B b (nextU U (.mk o nm mn mk fo i e b)) (nextU sc (.mk o nm mn mk fo i e b)) here 0
      have h2 : (nextU U (.mk o nm mn mk fo i e b)).length ≤ U.length + 1 := by unfold nextU; split <;> simp
      omega
    · simp
theorem chkL_len (B : List Bf) : ∀ (l : List St) (U sc : List ByteArray) (way : List Int) (i : Int), (chkL B U sc way i l).U.length ≤ U.length + stsN l
  | [], U, sc, way, i => by rw [chkL]; simp
  | s :: r, U, sc, way, i => by
    rw [chkL, stsN]
    have h1 := chkS_len B s U sc (way ++ [i])
    split
    · have h2 := chkL_len B r (chkS B U sc (way ++ [i]) s).U sc way (i + 1)
      omega
    · omega
end
theorem nextU_yes {U : List ByteArray} {s : St} (h : s.Op = 1) : nextU U s = U ++ [s.Name] := by unfold nextU; rw [if_pos h]
theorem nextU_no {U : List ByteArray} {s : St} (h : ¬ s.Op = 1) : nextU U s = U := by unfold nextU; rw [if_neg h]
theorem scAll_next {S : List ByteArray} {f : Lf} {l : List Ix} {k : Nat} {x : Ix} (h : l[k]? = some x) : ((inSc S f && (l.take k).all (ixSc S)) && inSc S x.Lin && x.At.all (inSc S)) = (inSc S f && (l.take (k + 1)).all (ixSc S)) := by
  rw [take_next h, List.all_append]
  simp only [List.all_cons, List.all_nil, Bool.and_true, ixSc, Bool.and_assoc]
theorem st10_t {c : Bool} {a b : Ty} (h : (c || !litsEq [cI a.Kind, cI a.Bits, cI a.Frac, cI a.Round, cI a.Over] [cI b.Kind, cI b.Bits, cI b.Frac, cI b.Round, cI b.Over]) = true) : c = true ∨ ¬ a = b := by
  rw [tyC_eq, Bool.or_eq_true] at h
  rcases h with h | h
  · exact .inl h
  · exact .inr (by simpa using h)
theorem st10_f {c : Bool} {a b : Ty} (h : (c || !litsEq [cI a.Kind, cI a.Bits, cI a.Frac, cI a.Round, cI a.Over] [cI b.Kind, cI b.Bits, cI b.Frac, cI b.Round, cI b.Over]) = false) : ¬ (c = true ∨ ¬ a = b) := by
  rw [tyC_eq, Bool.or_eq_false_iff] at h
  rw [h.1]
  rintro (k | k)
  · cases k
  · exact k (by simpa using h.2)
theorem storeE_1 {B : List Bf} {sc : List ByteArray} {s : St} (h : ¬ (exprT B sc (rdE s)).2 = 0) : storeE B sc s = (exprT B sc (rdE s)).2 := by unfold storeE; rw [if_neg h]
theorem storeE_u {B : List Bf} {sc : List ByteArray} {s : St} (h : (exprT B sc (rdE s)).2 = 0) (h2 : (bufD B s.Name).Use = 1 ∨ (s.Op = 3 ∧ (s.Fold < 1 ∨ 4 < s.Fold))) : storeE B sc s = 1 := by unfold storeE; rw [if_pos h, if_pos h2]
theorem storeE_2 {B : List Bf} {sc : List ByteArray} {s : St} (h : (exprT B sc (rdE s)).2 = 0) (h2 : ¬ ((bufD B s.Name).Use = 1 ∨ (s.Op = 3 ∧ (s.Fold < 1 ∨ 4 < s.Fold)))) (h3 : ¬ (exprT B sc s.E).2 = 0) : storeE B sc s = (exprT B sc s.E).2 := by unfold storeE; rw [if_pos h, if_neg h2, if_neg h3]
theorem storeE_10 {B : List Bf} {sc : List ByteArray} {s : St} (h : (exprT B sc (rdE s)).2 = 0) (h2 : ¬ ((bufD B s.Name).Use = 1 ∨ (s.Op = 3 ∧ (s.Fold < 1 ∨ 4 < s.Fold)))) (h3 : (exprT B sc s.E).2 = 0) (h4 : isCond s.E = true ∨ ¬ (exprT B sc s.E).1 = (bufD B s.Name).T) : storeE B sc s = 10 := by unfold storeE; rw [if_pos h, if_neg h2, if_pos h3, if_pos h4]
theorem storeE_0 {B : List Bf} {sc : List ByteArray} {s : St} (h : (exprT B sc (rdE s)).2 = 0) (h2 : ¬ ((bufD B s.Name).Use = 1 ∨ (s.Op = 3 ∧ (s.Fold < 1 ∨ 4 < s.Fold)))) (h3 : (exprT B sc s.E).2 = 0) (h4 : ¬ (isCond s.E = true ∨ ¬ (exprT B sc s.E).1 = (bufD B s.Name).T)) : storeE B sc s = 0 := by unfold storeE; rw [if_pos h, if_neg h2, if_pos h3, if_neg h4]
theorem loopE_7 {B : List Bf} {U : List ByteArray} {s : St} (h : isNameB s.Name = false) : loopE B U s = 7 := by unfold loopE; rw [if_neg (by rw [h]; simp)]
theorem loopE_8 {B : List Bf} {U : List ByteArray} {s : St} (h : isNameB s.Name = true) (h2 : hasBf B s.Name = true ∨ hasB U s.Name = true) : loopE B U s = 8 := by unfold loopE; rw [if_pos h, if_pos h2]
theorem loopE_1 {B : List Bf} {U : List ByteArray} {s : St} (h : isNameB s.Name = true) (h2 : ¬ (hasBf B s.Name = true ∨ hasB U s.Name = true)) (h3 : s.Many < 1 ∨ 65536 < s.Many ∨ s.Mark < 0 ∨ 3 < s.Mark) : loopE B U s = 1 := by unfold loopE; rw [if_pos h, if_neg h2, if_pos h3]
theorem loopE_0 {B : List Bf} {U : List ByteArray} {s : St} (h : isNameB s.Name = true) (h2 : ¬ (hasBf B s.Name = true ∨ hasB U s.Name = true)) (h3 : ¬ (s.Many < 1 ∨ 65536 < s.Many ∨ s.Mark < 0 ∨ 3 < s.Mark)) : loopE B U s = 0 := by unfold loopE; rw [if_pos h, if_neg h2, if_neg h3]
theorem ifE_x {B : List Bf} {sc : List ByteArray} {s : St} (h : ¬ (exprT B sc s.E).2 = 0) : ifE B sc s = (exprT B sc s.E).2 := by unfold ifE; rw [if_neg h]
theorem ifE_10 {B : List Bf} {sc : List ByteArray} {s : St} (h : (exprT B sc s.E).2 = 0) (h2 : isCond s.E = false) : ifE B sc s = 10 := by unfold ifE; rw [if_pos h, if_neg (by rw [h2]; simp)]
theorem ifE_0 {B : List Bf} {sc : List ByteArray} {s : St} (h : (exprT B sc s.E).2 = 0) (h2 : isCond s.E = true) : ifE B sc s = 0 := by unfold ifE; rw [if_pos h, if_pos h2]
theorem stE_5 {B : List Bf} {U sc : List ByteArray} {s : St} (h : synSt s = false) : stE B U sc s = 5 := by unfold stE; rw [if_neg (by rw [h]; simp)]
theorem stE_l {B : List Bf} {U sc : List ByteArray} {s : St} (h : synSt s = true) (h2 : s.Op = 1) : stE B U sc s = loopE B U s := by unfold stE; rw [if_pos h, if_pos h2]
theorem stE_i {B : List Bf} {U sc : List ByteArray} {s : St} (h : synSt s = true) (h2 : s.Op = 4) : stE B U sc s = ifE B sc s := by unfold stE; rw [if_pos h, if_neg (by omega), if_pos h2]
theorem stE_s {B : List Bf} {U sc : List ByteArray} {s : St} (h : synSt s = true) (h2 : ¬ s.Op = 1) (h3 : ¬ s.Op = 4) : stE B U sc s = storeE B sc s := by unfold stE; rw [if_pos h, if_neg h2, if_neg h3]
/-- The answer of Validate. -/
def validN (n : Ns) : List Int × Int :=
  if withinT 40 n.Body = true then (if 2000 < numB n.Body 2000 ∨ 128 < n.Bufs.length then ([], 2) else if bufsErr [] n.Bufs = 0 then ((chkL n.Bufs [] [] [] 0 n.Body).W, (chkL n.Bufs [] [] [] 0 n.Body).E) else ([], bufsErr [] n.Bufs)) else ([], 13)
theorem validN_13 {n : Ns} (h : withinT 40 n.Body = false) : validN n = ([], 13) := by unfold validN; rw [if_neg (by rw [h]; simp)]
theorem validN_2 {n : Ns} (h : withinT 40 n.Body = true) (h2 : 2000 < numB n.Body 2000 ∨ 128 < n.Bufs.length) : validN n = ([], 2) := by unfold validN; rw [if_pos h, if_pos h2]
theorem validN_b {n : Ns} (h : withinT 40 n.Body = true) (h2 : ¬ (2000 < numB n.Body 2000 ∨ 128 < n.Bufs.length)) (h3 : ¬ bufsErr [] n.Bufs = 0) : validN n = ([], bufsErr [] n.Bufs) := by unfold validN; rw [if_pos h, if_neg h2, if_neg h3]
theorem validN_c {n : Ns} (h : withinT 40 n.Body = true) (h2 : ¬ (2000 < numB n.Body 2000 ∨ 128 < n.Bufs.length)) (h3 : bufsErr [] n.Bufs = 0) : validN n = ((chkL n.Bufs [] [] [] 0 n.Body).W, (chkL n.Bufs [] [] [] 0 n.Body).E) := by unfold validN; rw [if_pos h, if_neg h2, if_pos h3]
/-- The lengths in a nest are small. -/
structure Ns.Ok (n : Ns) : Prop where
  bufs : n.Bufs.length ≤ 4294967296
  dims : ∀ b, b ∈ n.Bufs → b.Dims.length ≤ 17592186044416
  body : stsWt n.Body ≤ 536870912
end Go.Br
end
section
set_option linter.unusedSimpArgs false
set_option linter.unusedVariables false
namespace Go.Br
open Go Go.Eng Go.L41

/-- An expression that holds nothing but indices. -/
def idxE (i : List Ix) : Ex := .mk 0 (bs []) ⟨0, 0⟩ ⟨0, 0, 0, 0, 0⟩ ⟨0, []⟩ i []
theorem idxE_wt (i : List Ix) : (idxE i).wt = 1 + i.length + idxWt i := by
  rw [Ex.wt_eq]; simp only [idxE, Ex.Lin, Ex.Idx, Ex.Args, argsWt, List.length_nil]; omega
mutual
def weighS : St → Nat → Nat
  | .mk _ _ _ _ _ _ _ b, m => weighSs b m b.length
def weighSs : List St → Nat → Nat → Nat
  | [], _, n => n
  | s :: r, m, n => if n ≤ m then weighSs r m (n + weighE s.E m + weighE (idxE s.Idx) m + weighS s (m - n)) else n
end
def weighB (l : List St) (m : Nat) : Nat := weighSs l m l.length
theorem weighS_eq (s : St) (m : Nat) : weighS s m = weighB s.Body m := by cases s; rw [weighS]; rfl
theorem weighSs_ge : ∀ (l : List St) (m n : Nat), n ≤ weighSs l m n
  | [], m, n => by rw [weighSs]; omega
  | s :: r, m, n => by
    rw [weighSs]; split
    · have := weighSs_ge r m (n + weighE s.E m + weighE (idxE s.Idx) m + weighS s (m - n)); omega
    · omega
mutual
theorem weighS_wt : ∀ (s : St) (m : Nat), weighS s m ≤ m → stsWt s.Body ≤ weighS s m
  | .mk _ _ _ _ _ _ _ b, m, h => by
    rw [weighS] at h ⊢
    have := weighSs_wt b m _ h
    have := stsWt_len b
    simp only [St.Body]; omega
theorem weighSs_wt : ∀ (l : List St) (m n : Nat), weighSs l m n ≤ m → n + (stsWt l - l.length) ≤ weighSs l m n
  | [], m, n, h => by simp [weighSs, stsWt]
  | s :: r, m, n, h => by
    by_cases hn : n ≤ m
    · rw [weighSs, if_pos hn] at h ⊢
      have h1 := weighSs_ge r m (n + weighE s.E m + weighE (idxE s.Idx) m + weighS s (m - n))
      have h2 := weighSs_wt r m _ h
      have h3 := weighE_wt s.E m (by omega)
      have h4 := weighE_wt (idxE s.Idx) m (by omega)
      have h5 := weighS_wt s (m - n) (by omega)
      have h6 := stsWt_len r
      rw [idxE_wt] at h4
      rw [stsWt, List.length_cons, St.wt_eq]; omega
    · rw [weighSs, if_neg hn] at h; omega
end
theorem weighB_wt {l : List St} {m : Nat} (h : weighB l m ≤ m) : stsWt l ≤ weighB l m := by
  unfold weighB at *
  have := weighSs_wt l m _ h
  have := stsWt_len l
  omega
mutual
def St.fit : St → Prop
  | .mk _ _ _ _ _ i e b => i.length ≤ 140737488355328 ∧ (∀ x, x ∈ i → x.fit) ∧ e.fit ∧ b.length ≤ 140737488355328 ∧ fitS b
def fitS : List St → Prop
  | [] => True
  | s :: r => s.fit ∧ fitS r
end
theorem fitS_mem {l : List St} (h : fitS l) : ∀ a, a ∈ l → a.fit := by
  induction l with
  | nil => intro a ha; cases ha
  | cons x r ih =>
    intro a ha
    rw [fitS] at h
    rcases List.mem_cons.1 ha with rfl | ha
    · exact h.1
    · exact ih h.2 a ha
theorem fitS_of {l : List St} (h : ∀ a, a ∈ l → a.fit) : fitS l := by
  induction l with
  | nil => rw [fitS]; trivial
  | cons x r ih => rw [fitS]; exact ⟨h x (by simp), ih fun a ha => h a (by simp [ha])⟩
theorem St.fit_eq {s : St} (h : s.fit) : s.Idx.length ≤ 140737488355328 ∧ (∀ x, x ∈ s.Idx → x.fit) ∧ s.E.fit ∧ s.Body.length ≤ 140737488355328 ∧ fitS s.Body := by
  cases s with
  | mk o n m k f i e b => rw [St.fit] at h; exact h
theorem idxE_fit {i : List Ix} (h1 : i.length ≤ 140737488355328) (h2 : ∀ x, x ∈ i → x.fit) : (idxE i).fit := by
  unfold idxE; rw [Ex.fit]; exact ⟨by simp, h1, by simp, h2, trivial⟩
abbrev wB (m : Nat) : Nat := 140737488355328 + m * 1125899906857624
mutual
theorem weighS_le : ∀ (s : St) (m : Nat), s.fit → m ≤ 5000 → weighS s m ≤ wB m
  | .mk o nm k f mn i e b, m, h, hm => by
    rw [St.fit] at h
    obtain ⟨_, _, _, h1, h2⟩ := h
    rw [weighS]
    exact weighSs_le b m _ h2 hm (fun hb => by cases b; exact absurd rfl hb; simp) (by unfold wB; omega)
theorem weighSs_le : ∀ (l : List St) (m n : Nat), fitS l → m ≤ 5000 → (l ≠ [] → 1 ≤ n) → n ≤ wB m → weighSs l m n ≤ wB m
  | [], m, n, _, _, _, h => by rw [weighSs]; exact h
  | s :: r, m, n, hf, hm, h1, h => by
    rw [fitS] at hf
    rw [weighSs]
    have h1 := h1 (by simp)
    obtain ⟨f1, f2, f3, _, _⟩ := St.fit_eq hf.1
    split
    · rename_i hn
      have h3 := weighS_le s (m - n) hf.1 (by omega)
      have h4 := weighE_le s.E m f3
      have h5 := weighE_le (idxE s.Idx) m (idxE_fit f1 f2)
      refine weighSs_le r m _ hf.2 hm (fun _ => by omega) ?_
      unfold wB at *
      omega
    · exact h
end
theorem weighSs_end {m n k : Nat} {l : List St} {N : Nat} {x : Int} (hp : N = weighSs (l.drop k) m n) (hx : x = m) (h : l.length ≤ k ∨ x < n) : n = N := by
  rw [hp]
  by_cases hk : k < l.length
  · obtain ⟨a, ha⟩ := ex_get l k hk
    rw [drop_cons ha, weighSs, if_neg (by omega)]
  · rw [drop_end hk, weighSs]
theorem weighSs_next {m n k : Nat} {l : List St} {N : Nat} {s : St} (hs : l[k]? = some s) (hp : N = weighSs (l.drop k) m n) (h : n ≤ m) : N = weighSs (l.drop (k + 1)) m (n + weighE s.E m + weighE (idxE s.Idx) m + weighB s.Body (m - n)) := by
  rw [hp, drop_cons hs, weighSs, if_pos h, weighS_eq]
theorem weigh_lt {m n : Nat} {l : List St} {k : Nat} {s : St} (hs : l[k]? = some s) (hf : fitS l) (hm : m ≤ 5000) (hn : n ≤ m) (h1 : 1 ≤ n) : n + weighE s.E m + weighE (idxE s.Idx) m + weighB s.Body (m - n) ≤ wB m := by
  have hs' := fitS_mem hf s (mem_of_get hs)
  obtain ⟨f1, f2, f3, f4, f5⟩ := St.fit_eq hs'
  have h3 := weighS_le s (m - n) hs' (by omega)
  rw [weighS_eq] at h3
  have h4 := weighE_le s.E m f3
  have h5 := weighE_le (idxE s.Idx) m (idxE_fit f1 f2)
  unfold wB at *
  omega

/-! ## What the laws of layers 30, 36 and 41 take for small -/
mutual
def shortL : List St → Bool
  | [] => true
  | s :: r => shortT s && shortL r
def shortT : St → Bool
  | .mk o n m k f i e b => decide (n.size ≤ 100) && decide (i.length ≤ 20) && shortL b
end
theorem shortT_eq (s : St) : shortT s = (decide (s.Name.size ≤ 100) && decide (s.Idx.length ≤ 20) && shortL s.Body) := by cases s; rw [shortT]; rfl
theorem shortL_eq : ∀ l : List St, shortL l = l.all shortT
  | [] => by rw [shortL]; rfl
  | s :: r => by rw [shortL, shortL_eq r]; rfl
def fewS (l : List St) (m : Nat) : Bool := decide (weighB l m ≤ m) && shortL l
def fewBf (b : Bf) : Bool := decide (b.Dims.length ≤ 20) && decide (b.Name.size ≤ 100)
def fewN (n : Ns) (m : Nat) : Bool := decide (n.Bufs.length ≤ 150) && n.Bufs.all fewBf && fewS n.Body m
/-- The lists of a nest are of lengths that memory bears. -/
structure Ns.Fit (n : Ns) : Prop where
  bufs : n.Bufs.length ≤ 140737488355328
  dims : ∀ b, b ∈ n.Bufs → b.Dims.length ≤ 17592186044416
  len : n.Body.length ≤ 140737488355328
  body : fitS n.Body
theorem Ns.Fit.ok {n : Ns} (h : n.Fit) {m : Nat} (hm : m ≤ 5000) (hb : n.Bufs.length ≤ 150) (hw : weighB n.Body m ≤ m) : n.Ok :=
  ⟨by omega, h.dims, by have := weighB_wt hw; omega⟩
end Go.Br
end
section
set_option linter.unusedSimpArgs false
set_option linter.unusedVariables false
namespace Go.Br
open Go Go.Eng Go.L41
/-! ## For the reference's check -/
structure Bd where
  Name : ByteArray
  Val : Int
  deriving DecidableEq
def Bd.cells (x : Bd) : List C := [cS x.Name, cI x.Val]
end Go.Br
end
section
set_option linter.unusedSimpArgs false
set_option linter.unusedVariables false
namespace Go.Br
open Go Go.Eng Go.L41

def insW : List ByteArray → ByteArray → List ByteArray
  | [], s => [s]
  | x :: r, s => if strLt x s = true then x :: insW r s else if x = s then x :: r else s :: x :: r
def insWs (l : List ByteArray) (m : List ByteArray) : List ByteArray := m.foldl insW l
def below (s : ByteArray) (x : ByteArray) : Bool := strLt x s
theorem hasB_cons (x : ByteArray) (r : List ByteArray) (s : ByteArray) : hasB (x :: r) s = (decide (x = s) || hasB r s) := rfl
theorem insW_has (t : ByteArray) : ∀ (l : List ByteArray) (s : ByteArray), hasB (insW l s) t = (hasB l t || decide (s = t))
  | [], s => by simp [insW, hasB]
  | x :: r, s => by
    rw [insW]
    split
    · rw [hasB_cons, hasB_cons, insW_has t r s, Bool.or_assoc]
    · split
      · rename_i h; subst h; rw [hasB_cons]; cases decide (x = t) <;> simp
      · rw [hasB_cons s, Bool.or_comm]
theorem insWs_has (t : ByteArray) : ∀ (m l : List ByteArray), hasB (insWs l m) t = (hasB l t || hasB m t)
  | [], l => by simp [insWs, hasB]
  | x :: m, l => by
    have := insWs_has t m (insW l x)
    unfold insWs at *
    rw [List.foldl_cons, this, insW_has, hasB_cons, Bool.or_assoc]
theorem hasB_mem {l : List ByteArray} {s : ByteArray} : hasB l s = true ↔ s ∈ l := by
  unfold hasB; rw [List.any_eq_true]
  constructor
  · rintro ⟨x, hx, h⟩; rw [decide_eq_true_eq] at h; rw [← h]; exact hx
  · intro h; exact ⟨s, h, by simp⟩
theorem hasB_congr {a b : List ByteArray} {s : ByteArray} (h : s ∈ a ↔ s ∈ b) : hasB a s = hasB b s := by
  rw [Bool.eq_iff_iff, hasB_mem, hasB_mem]; exact h
end Go.Br
end
section
namespace Go.L41
open Go Go.Eng

structure Lifetime where
  Name : ByteArray
  From : Int
  To : Int
  Size : Int

def Lifetime.cells (x : Lifetime) : List C := [cS x.Name, cI x.From, cI x.To, cI x.Size]

abbrev vL (x : Lifetime) : V := .agg x.cells
def covers (p : Int) (y : Lifetime) : Bool := decide (y.From ≤ p) && decide (p ≤ y.To)
def cnt (l : List Lifetime) (p : Int) : Int := ((l.filter (covers p)).length : Int)
theorem cnt_le (l : List Lifetime) (p : Int) : 0 ≤ cnt l p ∧ cnt l p ≤ l.length := by
  unfold cnt
  have := List.length_filter_le (covers p) l
  omega
def check1 (prev : List Lifetime) (x : Lifetime) : Int :=
  if isNameB x.Name = false then 7
  else if (prev.any fun y => decide (y.Name = x.Name)) = true then 8
  else if x.From < 0 ∨ x.To < x.From ∨ x.Size < 1 ∨ 4096 < x.Size then 1 else 0

def validFrom (prev : List Lifetime) : List Lifetime → Int
  | [] => 0
  | x :: r => if check1 prev x = 0 then validFrom (prev ++ [x]) r else check1 prev x

def validateL (l : List Lifetime) : Int := validFrom [] l

theorem valid_step {l : List Lifetime} {k : Nat} {x : Lifetime} (h : l[k]? = some x) : validFrom (l.take k) (l.drop k) = if check1 (l.take k) x = 0 then validFrom (l.take (k + 1)) (l.drop (k + 1)) else check1 (l.take k) x := by
  have hlt := (List.getElem?_eq_some_iff.1 h).1
  rw [List.drop_eq_getElem_cons hlt, (List.getElem?_eq_some_iff.1 h).2, take_next h]
  rfl

theorem valid_ok {l : List Lifetime} {k : Nat} {x : Lifetime} (hv : validateL l = validFrom (l.take k) (l.drop k)) (h : l[k]? = some x) (hc : check1 (l.take k) x = 0) : validateL l = validFrom (l.take (k + 1)) (l.drop (k + 1)) := by
  rw [hv, valid_step h, hc, if_pos rfl]
theorem valid_end {l : List Lifetime} {k : Nat} (hv : validateL l = validFrom (l.take k) (l.drop k)) (h : ¬ k < l.length) : validateL l = 0 := by
  rw [hv, List.drop_of_length_le (by omega)]
  rfl

theorem check_ok {prev : List Lifetime} {x : Lifetime} (h : isNameB x.Name = true) (h2 : (prev.any fun y => decide (y.Name = x.Name)) = false) (h3 : ¬ (x.From < 0 ∨ x.To < x.From ∨ x.Size < 1 ∨ 4096 < x.Size)) : check1 prev x = 0 := by
  unfold check1; rw [if_neg (by simp [h]), if_neg (by simp [h2]), if_neg h3]

theorem mget_mput {α : Type} (m : List (ByteArray × α)) (k k' : ByteArray) (a : α) : mget (mput m k a) k' = if k = k' then some a else mget m k' := by
  induction m with
  | nil => simp [mput, mget]
  | cons p m ih =>
    obtain ⟨q, b⟩ := p
    simp only [mput]
    by_cases h : q = k
    · subst h
      rw [if_pos rfl]
      simp only [mget]
      by_cases h2 : q = k' <;> simp [h2]
    · rw [if_neg h]
      simp only [mget, ih]
      by_cases h2 : q = k'
      · subst h2
        rw [if_pos rfl, if_neg (fun e => h e.symm)]
        simp
      · rw [if_neg h2, if_neg h2]

end Go.L41
end
section
set_option linter.unusedSimpArgs false
set_option linter.unusedVariables false
namespace Go.Br
open Go Go.Eng Go.L41

theorem compact_mem {α : Type} [DecidableEq α] [Inhabited α] (d : Array α) (m : Nat) : ∀ i, i < m → d[i]! ∈ Lib.compactUpTo d m := by
  intro i
  induction i with
  | zero =>
    intro h
    unfold Lib.compactUpTo
    exact List.mem_map.2 ⟨0, List.mem_filter.2 ⟨List.mem_range.2 h, Lib.keeps_lt_one d 0 (by omega)⟩, rfl⟩
  | succ i ih =>
    intro h
    by_cases hk : d[i + 1]! = d[i + 1 - 1]!
    · rw [hk]; exact ih (by omega)
    · unfold Lib.compactUpTo
      exact List.mem_map.2 ⟨i + 1, List.mem_filter.2 ⟨List.mem_range.2 h, Lib.keeps_pos hk⟩, rfl⟩
theorem thin_mem {s : ByteArray} {l : List ByteArray} (h : s ∈ l) : s ∈ thinB l := by
  unfold thinB
  rw [mem_toB]
  rw [← mem_ofB] at h
  obtain ⟨i, hi, e⟩ := List.mem_iff_getElem.1 h
  have := compact_mem (ofB l).toArray (ofB l).length i hi
  rw [getElem!_pos _ i (by simpa using hi)] at this
  unfold Lib.compact
  rw [← e]; simpa using this
theorem readsT_has (e : Ex) (t : ByteArray) : hasB (readsT e) t = hasB (readsA (nodes e)) t :=
  hasB_congr ⟨fun h => mem_sortB.1 (mem_thinB h), fun h => thin_mem (mem_sortB.2 h)⟩
def accHd (s : St) (t : ByteArray) : Bool := (isSto s && decide (s.Name = t)) || (hasB (readsI s.Idx) t || hasB (readsA (nodes s.E)) t)
mutual
def accS (t : ByteArray) : St → Bool
  | .mk o nm mn mk fo i e b => accHd (.mk o nm mn mk fo i e b) t || accL t b
def accL (t : ByteArray) : List St → Bool
  | [] => false
  | s :: r => accS t s || accL t r
end
def tchHd (s : St) : List ByteArray := (if isSto s = true then [s.Name] else []) ++ readsI s.Idx ++ readsT s.E
mutual
def tchS : St → List ByteArray
  | .mk o nm mn mk fo i e b => tchHd (.mk o nm mn mk fo i e b) ++ tchL b
def tchL : List St → List ByteArray
  | [] => []
  | s :: r => tchS s ++ tchL r
end
theorem hasB_app (a b : List ByteArray) (s : ByteArray) : hasB (a ++ b) s = (hasB a s || hasB b s) := by simp [hasB, List.any_append]
theorem tchHd_has (s : St) (t : ByteArray) : hasB (tchHd s) t = accHd s t := by
  unfold tchHd accHd
  rw [hasB_app, hasB_app, readsT_has, Bool.or_assoc]
  congr 1
  cases isSto s <;> simp [hasB]
mutual
theorem tchS_has (t : ByteArray) : ∀ s : St, hasB (tchS s) t = accS t s
  | .mk o nm mn mk fo i e b => by rw [tchS, accS, hasB_app, tchHd_has, tchL_has t b]
theorem tchL_has (t : ByteArray) : ∀ l : List St, hasB (tchL l) t = accL t l
  | [] => by rw [tchL, accL]; rfl
  | s :: r => by rw [tchL, accL, hasB_app, tchS_has t s, tchL_has t r]
end

/-! ## Spans -/
structure Sp where
  From : Int
  To : Int
def vSp (x : Sp) : V := .agg [cI x.From, cI x.To]
abbrev SpM := List (ByteArray × Sp)
def putSp (k : Int) (m : SpM) (t : ByteArray) : SpM := mput m t ⟨match mget m t with | some x => x.From | none => k, k⟩
def spFrom (m : SpM) (i : Int) : List St → SpM
  | [] => m
  | s :: r => spFrom ((tchS s).foldl (putSp i) m) (i + 1) r
theorem spFrom_append : ∀ (a : List St) (m : SpM) (i : Int) (s : St), spFrom m i (a ++ [s]) = (tchS s).foldl (putSp (i + a.length)) (spFrom m i a)
  | [], m, i, s => by simp [spFrom]
  | x :: r, m, i, s => by
    rw [List.cons_append, spFrom, spFrom_append r, spFrom, List.length_cons]
    rw [show i + 1 + (r.length : Int) = i + ((r.length + 1 : Nat) : Int) by omega]
theorem sp_next {l : List St} {k : Nat} {s : St} (h : l[k]? = some s) : spFrom [] 0 (l.take (k + 1)) = (tchS s).foldl (putSp k) (spFrom [] 0 (l.take k)) := by
  have hk := (List.getElem?_eq_some_iff.1 h).1
  rw [take_next h, spFrom_append, List.length_take, Nat.min_eq_left (by omega), Int.zero_add]
theorem putSp_new {m : SpM} {t : ByteArray} {i : Int} (h : (mget m t).isSome = false) : mput m t (⟨i, i⟩ : Sp) = putSp i m t := by
  unfold putSp
  cases hx : mget m t with
  | none => rfl
  | some x => rw [hx] at h; cases h
theorem putSp_old {m : SpM} {t : ByteArray} {i : Int} (h : (mget m t).isSome = true) : mput m t (⟨((mget m t).getD ⟨0, 0⟩).From, i⟩ : Sp) = putSp i m t := by
  unfold putSp
  cases hx : mget m t with
  | none => rw [hx] at h; cases h
  | some x => rfl
theorem thin_len (l : List ByteArray) : (thinB l).length ≤ l.length := by
  unfold thinB toB
  rw [List.length_map]
  unfold Lib.compact Lib.compactUpTo
  rw [List.length_map]
  refine Nat.le_trans (List.length_filter_le _ _) ?_
  simp [ofB]
theorem putSp_get (k : Int) (m : SpM) (t u : ByteArray) : mget (putSp k m t) u = if t = u then some ⟨match mget m u with | some x => x.From | none => k, k⟩ else mget m u := by
  unfold putSp
  rw [mget_mput]
  by_cases h : t = u
  · subst h; rfl
  · rw [if_neg h, if_neg h]
theorem putSps_get (k : Int) (u : ByteArray) : ∀ (l : List ByteArray) (m : SpM), mget (l.foldl (putSp k) m) u = if hasB l u = true then some ⟨match mget m u with | some x => x.From | none => k, k⟩ else mget m u
  | [], m => by simp [hasB]
  | x :: r, m => by
    rw [List.foldl_cons, putSps_get k u r, putSp_get, hasB_cons]
    by_cases h : x = u
    · subst h
      simp only [decide_true, Bool.true_or, if_true]
      cases hasB r x <;> simp
    · simp only [h, decide_false, Bool.false_or, if_false]
/-- Whether any statement so far accesses the buffer, the first and the last that does. -/
def stepA (t : ByteArray) (x : Bool × Sp × Int) (s : St) : Bool × Sp × Int := if accS t s = true then (true, ⟨if x.1 = true then x.2.1.From else x.2.2, x.2.2⟩, x.2.2 + 1) else (x.1, x.2.1, x.2.2 + 1)
def foldA (t : ByteArray) (l : List St) : Bool × Sp × Int := l.foldl (stepA t) (false, ⟨0, 0⟩, 0)
theorem foldA_next {t : ByteArray} {l : List St} {k : Nat} {s : St} (h : l[k]? = some s) : foldA t (l.take (k + 1)) = stepA t (foldA t (l.take k)) s := by
  unfold foldA; rw [take_next h, List.foldl_append]; rfl
theorem foldA_k (t : ByteArray) : ∀ {l : List St} {k : Nat}, k ≤ l.length → (foldA t (l.take k)).2.2 = k
  | l, 0, _ => by simp [foldA]
  | l, k + 1, h => by
    obtain ⟨s, hs⟩ := ex_get l k (by omega)
    rw [foldA_next hs]
    have := foldA_k t (l := l) (k := k) (by omega)
    unfold stepA
    split <;> simp [this]
theorem spans_fold (t : ByteArray) : ∀ {l : List St} {k : Nat}, k ≤ l.length → mget (spFrom [] 0 (l.take k)) t = if (foldA t (l.take k)).1 = true then some (foldA t (l.take k)).2.1 else none
  | l, 0, _ => by simp [foldA, spFrom, mget]
  | l, k + 1, h => by
    obtain ⟨s, hs⟩ := ex_get l k (by omega)
    have ih := spans_fold t (l := l) (k := k) (by omega)
    have hk := foldA_k t (l := l) (k := k) (by omega)
    rw [sp_next hs, putSps_get, tchS_has, foldA_next hs, ih]
    unfold stepA
    rw [hk]
    by_cases h1 : accS t s = true
    · rw [if_pos h1, if_pos h1]
      by_cases h2 : (foldA t (l.take k)).1 = true
      · simp [h2]
      · simp [h2]
    · rw [if_neg h1, if_neg h1]
theorem foldA_zero (t : ByteArray) : ∀ {l : List St} {k : Nat}, k ≤ l.length → (foldA t (l.take k)).1 = false → (foldA t (l.take k)).2.1 = ⟨0, 0⟩
  | l, 0, _, _ => by simp [foldA]
  | l, k + 1, h, h1 => by
    obtain ⟨s, hs⟩ := ex_get l k (by omega)
    rw [foldA_next hs] at h1 ⊢
    unfold stepA at h1 ⊢
    split at h1
    · cases h1
    · rename_i hc
      rw [if_neg hc]
      exact foldA_zero t (by omega) h1
def spanOf (t : ByteArray) (l : List St) : Sp := (foldA t l).2.1
theorem span_get (t : ByteArray) (l : List St) : (mget (spFrom [] 0 l) t).getD ⟨0, 0⟩ = spanOf t l := by
  have h := spans_fold t (l := l) (k := l.length) (Nat.le_refl _)
  rw [List.take_length] at h
  rw [h, spanOf]
  by_cases c : (foldA t l).1 = true
  · rw [if_pos c]; rfl
  · rw [if_neg c]
    have := foldA_zero t (l := l) (k := l.length) (Nat.le_refl _) (by rw [List.take_length]; simpa using c)
    rw [List.take_length] at this
    rw [this]; rfl
/-- The lifetime of a buffer. -/
def lifeOf (l : List St) (b : Bf) : Lifetime :=
  ⟨b.Name, if b.Use = 1 then 0 else (spanOf b.Name l).From, if b.Use = 2 then max ((l.length : Int) - 1) 0 else (spanOf b.Name l).To, dimsSize b.Dims⟩
def lives (n : Ns) : List Lifetime := n.Bufs.map (lifeOf n.Body)
def analyzeT (n : Ns) : List Lifetime × Int := if (validN n).2 = 0 then (lives n, 0) else ([], (validN n).2)
theorem analyze_no {n : Ns} (h : ¬ (validN n).2 = 0) : analyzeT n = ([], (validN n).2) := by unfold analyzeT; rw [if_neg h]
theorem analyze_ok {n : Ns} (h : (validN n).2 = 0) : analyzeT n = (lives n, 0) := by unfold analyzeT; rw [if_pos h]
theorem lives_next {n : Ns} {k : Nat} {b : Bf} (h : n.Bufs[k]? = some b) : ((n.Bufs.take (k + 1)).map fun b => (lifeOf n.Body b).cells) = ((n.Bufs.take k).map fun b => (lifeOf n.Body b).cells) ++ [(lifeOf n.Body b).cells] := by
  rw [take_next h, List.map_append]; rfl

theorem small_t {n : Ns} (c : (!(decide ((n.Bufs.length : Int) ≤ 40) && decide ((weighB n.Body 400 : Int) ≤ 400))) = false) : n.Bufs.length ≤ 40 ∧ weighB n.Body 400 ≤ 400 := by
  rw [Bool.not_eq_false', Bool.and_eq_true, decide_eq_true_eq, decide_eq_true_eq] at c; omega
theorem lives_len (n : Ns) : (lives n).length = n.Bufs.length := by simp [lives]
theorem lives_get {n : Ns} {k : Nat} {y : Lifetime} {b : Bf} (h : (lives n)[k]? = some y) (hb : n.Bufs[k]? = some b) : y = lifeOf n.Body b := by
  unfold lives at h; rw [List.getElem?_map, hb] at h; simpa using h.symm
/-! ## The lifetimes cover the accesses (41.5) -/
theorem span_cover (t : ByteArray) : ∀ {l : List St} {k : Nat}, k ≤ l.length → (∀ (j : Nat) s, l[j]? = some s → j < k → accS t s = true → (foldA t (l.take k)).1 = true ∧ (foldA t (l.take k)).2.1.From ≤ j ∧ (j : Int) ≤ (foldA t (l.take k)).2.1.To) ∧
    0 ≤ (foldA t (l.take k)).2.1.From ∧ (foldA t (l.take k)).2.1.From ≤ (foldA t (l.take k)).2.1.To ∧ ((foldA t (l.take k)).2.1.To = 0 ∨ (foldA t (l.take k)).2.1.To < k)
  | l, 0, _ => ⟨fun j s _ h => by omega, by simp [foldA], by simp [foldA], by simp [foldA]⟩
  | l, k + 1, h => by
    obtain ⟨s, hs⟩ := ex_get l k (by omega)
    obtain ⟨ih, i1, i2, i3⟩ := span_cover t (l := l) (k := k) (by omega)
    have hk := foldA_k t (l := l) (k := k) (by omega)
    rw [foldA_next hs]
    unfold stepA
    rw [hk]
    by_cases c : accS t s = true
    · simp only [c, if_true]
      refine ⟨fun j s' hj hlt _ => ⟨trivial, ?_, by omega⟩, ?_, ?_, .inr (by omega)⟩
      · by_cases hjk : j = k
        · split
          · subst hjk
            rcases i3 with i3 | i3 <;> omega
          · omega
        · rename_i ha
          obtain ⟨q1, q2, q3⟩ := ih j s' hj (by omega) ha
          rw [if_pos q1]; exact q2
      · split <;> omega
      · split
        · rcases i3 with i3 | i3 <;> omega
        · omega
    · rw [if_neg c]
      refine ⟨fun j s' hj hlt ha => ?_, i1, i2, ?_⟩
      · have hjk : j ≠ k := by
          rintro rfl
          rw [hs] at hj
          cases hj
          exact c ha
        exact ih j s' hj (by omega) ha
      · rcases i3 with i3 | i3
        · exact .inl i3
        · refine .inr ?_
          dsimp only
          omega
theorem lifeOf_ok (l : List St) (b : Bf) : 0 ≤ (lifeOf l b).From ∧ (lifeOf l b).From ≤ (lifeOf l b).To ∧ ∀ (j : Nat) s, l[j]? = some s → accS b.Name s = true → (lifeOf l b).From ≤ j ∧ (j : Int) ≤ (lifeOf l b).To := by
  obtain ⟨h, h1, h2, h3⟩ := span_cover b.Name (l := l) (k := l.length) (Nat.le_refl _)
  rw [List.take_length] at h h1 h2 h3
  have hF : (lifeOf l b).From = if b.Use = 1 then 0 else (foldA b.Name l).2.1.From := rfl
  have hT : (lifeOf l b).To = if b.Use = 2 then max ((l.length : Int) - 1) 0 else (foldA b.Name l).2.1.To := rfl
  rw [hF, hT]
  refine ⟨by split <;> omega, ?_, fun j s hj ha => ?_⟩
  · split <;> split <;> omega
  · have hj' := (List.getElem?_eq_some_iff.1 hj).1
    obtain ⟨q1, q2, q3⟩ := h j s hj hj' ha
    refine ⟨by split <;> omega, ?_⟩
    split <;> omega
theorem cover_no {l : List St} {b : Bf} {j : Nat} {s : St} (h : l[j]? = some s) : (accS b.Name s && (decide ((j : Int) < (lifeOf l b).From) || decide ((lifeOf l b).To < (j : Int)))) = false := by
  cases c : accS b.Name s with
  | false => rfl
  | true =>
    obtain ⟨h1, h2⟩ := (lifeOf_ok l b).2.2 j s h c
    rw [decide_eq_false (by omega), decide_eq_false (by omega)]; rfl
theorem bufs_in : ∀ {l seen : List Bf}, bufsErr seen l = 0 → ∀ (k : Nat) b, l[k]? = some b → bfErr (seen ++ l.take k) b = 0
  | [], _, _, k, b, h => by simp at h
  | x :: r, seen, h, k, b, hb => by
    rw [bufsErr] at h
    by_cases c : bfErr seen x = 0
    · rw [if_pos c] at h
      cases k with
      | zero => simp at hb; subst hb; simpa using c
      | succ k =>
        have := bufs_in h k b (by simpa using hb)
        simpa using this
    · rw [if_neg c] at h; exact absurd h c
theorem bfErr_inv {seen : List Bf} {b : Bf} (h : bfErr seen b = 0) : isNameB b.Name = true ∧ hasBf seen b.Name = false ∧ dimsErr b.Dims = 0 := by
  unfold bfErr at h
  by_cases h1 : isNameB b.Name = true
  · rw [if_pos h1] at h
    by_cases h2 : hasBf seen b.Name = true
    · rw [if_pos h2] at h; cases h
    · rw [if_neg h2] at h
      by_cases h3 : tyOk b.T = true
      · rw [if_pos h3] at h
        by_cases h4 : dimsErr b.Dims = 0
        · exact ⟨h1, by simpa using h2, h4⟩
        · rw [if_neg h4] at h; exact absurd h h4
      · rw [if_neg h3] at h; cases h
  · rw [if_neg h1] at h; cases h
theorem valid_bufs {n : Ns} (h : (validN n).2 = 0) : bufsErr [] n.Bufs = 0 ∧ n.Bufs.length ≤ 128 ∧ withinT 40 n.Body = true ∧ numB n.Body 2000 ≤ 2000 ∧ (chkL n.Bufs [] [] [] 0 n.Body).E = 0 := by
  unfold validN at h
  by_cases h1 : withinT 40 n.Body = true
  · rw [if_pos h1] at h
    by_cases h2 : 2000 < numB n.Body 2000 ∨ 128 < n.Bufs.length
    · rw [if_pos h2] at h; cases h
    · rw [if_neg h2] at h
      by_cases h3 : bufsErr [] n.Bufs = 0
      · rw [if_pos h3] at h; exact ⟨h3, by omega, h1, by omega, h⟩
      · rw [if_neg h3] at h; exact absurd h h3
  · rw [if_neg h1] at h; cases h
theorem lives_valid {n : Ns} (h : (validN n).2 = 0) : validateL (lives n) = 0 := by
  have hb := (valid_bufs h).1
  have key : ∀ k, k ≤ n.Bufs.length → validateL (lives n) = validFrom ((lives n).take k) ((lives n).drop k) := by
    intro k
    induction k with
    | zero => intro _; rfl
    | succ k ih =>
      intro hk
      obtain ⟨b, hbk⟩ := ex_get n.Bufs k (by omega)
      have hl : (lives n)[k]? = some (lifeOf n.Body b) := by unfold lives; rw [List.getElem?_map, hbk]; rfl
      obtain ⟨q1, q2, q3⟩ := bfErr_inv (bufs_in hb k b hbk)
      obtain ⟨p1, p2, _⟩ := lifeOf_ok n.Body b
      refine valid_ok (ih (by omega)) hl (check_ok q1 ?_ ?_)
      · have e : ((lives n).take k) = (n.Bufs.take k).map (lifeOf n.Body) := by unfold lives; rw [List.map_take]
        rw [e, List.any_map]
        rw [List.nil_append] at q2
        exact q2
      · obtain ⟨_, _, s, hs, s1, s2⟩ := dimsErr_0 q3
        have hsz : (lifeOf n.Body b).Size = s := by show dimsSize b.Dims = s; exact dimsSize_ok q3 hs
        rw [hsz]; omega
  have := key n.Bufs.length (Nat.le_refl _)
  exact valid_end this (by unfold lives; simp)
end Go.Br
end
section
set_option linter.unusedSimpArgs false
set_option linter.unusedVariables false
namespace Go.Br
open Go Go.Eng Go.L41

/-! ## Statements in preorder, with their paths -/
mutual
def preS (here : List Int) : St → List (St × List Int)
  | .mk o nm mn mk fo i e b => (.mk o nm mn mk fo i e b, here) :: preL here 0 b
def preL (way : List Int) : Int → List St → List (St × List Int)
  | _, [] => []
  | i, s :: r => preS (way ++ [i]) s ++ preL way (i + 1) r
end
theorem preS_eq (here : List Int) (s : St) : preS here s = (s, here) :: preL here 0 s.Body := by cases s; rw [preS]; rfl
theorem preL_append (way : List Int) : ∀ (a b : List St) (i : Int), preL way i (a ++ b) = preL way i a ++ preL way (i + a.length) b
  | [], b, i => by simp [preL]
  | x :: r, b, i => by
    rw [List.cons_append, preL, preL, preL_append way r b, List.append_assoc, List.length_cons]
    rw [show i + 1 + (r.length : Int) = i + ((r.length + 1 : Nat) : Int) by omega]
theorem preL_next {way : List Int} {l : List St} {k : Nat} {s : St} (h : l[k]? = some s) : preL way 0 (l.take (k + 1)) = preL way 0 (l.take k) ++ preS (way ++ [(k : Int)]) s := by
  have hk := (List.getElem?_eq_some_iff.1 h).1
  rw [take_next h, preL_append, List.length_take, Nat.min_eq_left (by omega), Int.zero_add]
  simp [preL]
theorem preL_at {way : List Int} {l : List St} {k : Nat} {s : St} (h : l[k]? = some s) : preL way 0 l = preL way 0 (l.take k) ++ (preS (way ++ [(k : Int)]) s ++ preL way ((k : Int) + 1) (l.drop (k + 1))) := by
  have hk := (List.getElem?_eq_some_iff.1 h).1
  have e : l = l.take k ++ s :: l.drop (k + 1) := by rw [← drop_cons h, List.take_append_drop]
  have e2 := congrArg (preL way 0) e
  rw [preL_append, List.length_take, Nat.min_eq_left (by omega), Int.zero_add, preL] at e2
  exact e2
theorem pre_at1 {way : List Int} {l : List St} {k : Nat} {s : St} (h : l[k]? = some s) : preL way 0 l = preL way 0 (l.take k) ++ (s, way ++ [(k : Int)]) :: (preL (way ++ [(k : Int)]) 0 s.Body ++ preL way ((k : Int) + 1) (l.drop (k + 1))) := by
  rw [preL_at h, preS_eq]; rfl
theorem pre_at2 {way : List Int} {l : List St} {k : Nat} {s : St} {pre suf : List (St × List Int)} {x : St × List Int} (h : l[k]? = some s) (hx : preL (way ++ [(k : Int)]) 0 s.Body = pre ++ x :: suf) : preL way 0 l = (preL way 0 (l.take k) ++ (s, way ++ [(k : Int)]) :: pre) ++ x :: (suf ++ preL way ((k : Int) + 1) (l.drop (k + 1))) := by
  rw [pre_at1 h, hx]; simp
mutual
theorem preS_len (here : List Int) : ∀ s : St, (preS here s).length = stN s
  | .mk o nm mn mk fo i e b => by rw [preS, stN, List.length_cons, preL_len here b]; omega
theorem preL_len (way : List Int) : ∀ (l : List St) (i : Int), (preL way i l).length = stsN l
  | [], i => by rw [preL, stsN]; rfl
  | s :: r, i => by rw [preL, stsN, List.length_append, preS_len, preL_len way r]
end
theorem stsN_take {l : List St} {k : Nat} {s : St} (h : l[k]? = some s) : stsN (l.take k) + (1 + stsN s.Body) ≤ stsN l := by
  have h2 : stsN l = stsN (l.take k) + (stN s + stsN (l.drop (k + 1))) := by
    rw [← stsN, ← drop_cons h, ← stsN_append, List.take_append_drop]
  have := stN_eq s
  omega
/-- The names of loops. -/
def loopNm (s : St) : List ByteArray := if s.Op = 1 then [s.Name] else []
theorem loopNm_len (s : St) : (loopNm s).length ≤ 1 := by unfold loopNm; split <;> simp
/-- The path of the first loop with a name. -/
def isLoop (t : ByteArray) (s : St) : Bool := decide (s.Op = 1) && decide (s.Name = t)
def hitN (t : ByteArray) (x : St × List Int) : Bool := isLoop t x.1
def findA (t : ByteArray) (l : List (St × List Int)) : Option (List Int) := (l.find? (hitN t)).map (·.2)
def findN (l : List St) (t : ByteArray) : Option (List Int) := findA t (preL [] 0 l)
theorem findA_none {t : ByteArray} {l : List (St × List Int)} (h : l.any (hitN t) = false) : findA t l = none := by
  unfold findA
  rw [List.find?_eq_none.2 (fun x hx hh => by
    rw [List.any_eq_false] at h
    exact h x hx hh)]; rfl
theorem findA_some {t : ByteArray} {pre suf : List (St × List Int)} {x : St × List Int} (h : pre.any (hitN t) = false) (hx : hitN t x = true) : findA t (pre ++ x :: suf) = some x.2 := by
  unfold findA
  rw [List.find?_append, List.find?_eq_none.2 (fun y hy hh => by
    rw [List.any_eq_false] at h
    exact h y hy hh), List.find?_cons_of_pos hx]; rfl
theorem any_one {t : ByteArray} {pre : List (St × List Int)} {x : St × List Int} (h : pre.any (hitN t) = false) (hx : hitN t x = false) : (pre ++ [x]).any (hitN t) = false := by
  rw [List.any_append, h]; simp [hx]
mutual
def fndS (t : ByteArray) : St → Option (List Int)
  | .mk o nm mn mk fo i e b => if isLoop t (.mk o nm mn mk fo i e b) = true then some [] else fndL t 0 b
def fndL (t : ByteArray) : Int → List St → Option (List Int)
  | _, [] => none
  | i, s :: r => match fndS t s with | some w => some (i :: w) | none => fndL t (i + 1) r
end
theorem findA_append (t : ByteArray) (a b : List (St × List Int)) : findA t (a ++ b) = match findA t a with | some w => some w | none => findA t b := by
  unfold findA
  rw [List.find?_append]
  cases List.find? (hitN t) a <;> rfl
mutual
theorem fndS_find (t : ByteArray) : ∀ (s : St) (here : List Int), findA t (preS here s) = (fndS t s).map (here ++ ·)
  | .mk o nm mn mk fo i e b, here => by
    rw [preS, fndS]
    by_cases h : isLoop t (.mk o nm mn mk fo i e b) = true
    · rw [if_pos h, findA, List.find?_cons_of_pos (by exact h)]; simp
    · rw [if_neg h]
      have : findA t ((.mk o nm mn mk fo i e b, here) :: preL here 0 b) = findA t (preL here 0 b) := by
        unfold findA; rw [List.find?_cons_of_neg (by exact h)]
      rw [this, fndL_find t b here 0]
theorem fndL_find (t : ByteArray) : ∀ (l : List St) (way : List Int) (i : Int), findA t (preL way i l) = (fndL t i l).map (way ++ ·)
  | [], way, i => by rw [preL, fndL]; rfl
  | s :: r, way, i => by
    rw [preL, fndL, findA_append, fndS_find t s, fndL_find t r]
    cases fndS t s <;> simp
end
theorem findN_fnd (l : List St) (t : ByteArray) : findN l t = fndL t 0 l := by
  unfold findN; rw [fndL_find]; cases fndL t 0 l <;> simp
theorem fndL_ne (t : ByteArray) : ∀ (l : List St) (i : Int) (u : List Int), fndL t i l = some u → u ≠ []
  | [], i, u, h => by rw [fndL] at h; cases h
  | s :: r, i, u, h => by
    rw [fndL] at h
    cases c : fndS t s with
    | some w => rw [c] at h; simp only [Option.some.injEq] at h; rw [← h]; simp
    | none => rw [c] at h; exact fndL_ne t r (i + 1) u h
theorem findN_ne {t : ByteArray} {l : List St} {u : List Int} (h : findN l t = some u) : u ≠ [] := by rw [findN_fnd] at h; exact fndL_ne t l 0 u h
mutual
def mSt (f : Lf → Lf × Int) (g : ByteArray → ByteArray) : St → Except Int St
  | .mk o nm mn mk fo i e b => match mIxs f i with
    | .error y => .error y
    | .ok i' => match mEx f e with
      | .error y => .error y
      | .ok e' => match mSts f g b with
        | .error y => .error y
        | .ok b' => .ok (.mk o (if o = 1 then g nm else nm) mn mk fo i' e' b')
def mSts (f : Lf → Lf × Int) (g : ByteArray → ByteArray) : List St → Except Int (List St)
  | [] => .ok []
  | s :: r => match mSt f g s with
    | .error y => .error y
    | .ok s' => match mSts f g r with
      | .error y => .error y
      | .ok r' => .ok (s' :: r')
end
theorem mSt_eq (f : Lf → Lf × Int) (g : ByteArray → ByteArray) (s : St) : mSt f g s = match mIxs f s.Idx with
    | .error y => .error y
    | .ok i' => match mEx f s.E with
      | .error y => .error y
      | .ok e' => match mSts f g s.Body with
        | .error y => .error y
        | .ok b' => .ok (.mk s.Op (if s.Op = 1 then g s.Name else s.Name) s.Many s.Mark s.Fold i' e' b') := by cases s; rw [mSt]; rfl
theorem mSt_e1 {f : Lf → Lf × Int} {g : ByteArray → ByteArray} {s : St} {c : Int} (h : mIxs f s.Idx = .error c) : mSt f g s = .error c := by rw [mSt_eq, h]
theorem mSt_e2 {f : Lf → Lf × Int} {g : ByteArray → ByteArray} {s : St} {c : Int} {i : List Ix} (h : mIxs f s.Idx = .ok i) (h2 : mEx f s.E = .error c) : mSt f g s = .error c := by rw [mSt_eq, h]; simp only [h2]
theorem mSt_e3 {f : Lf → Lf × Int} {g : ByteArray → ByteArray} {s : St} {c : Int} {i : List Ix} {e : Ex} (h : mIxs f s.Idx = .ok i) (h2 : mEx f s.E = .ok e) (h3 : mSts f g s.Body = .error c) : mSt f g s = .error c := by rw [mSt_eq, h]; simp only [h2, h3]
theorem mSt_ok {f : Lf → Lf × Int} {g : ByteArray → ByteArray} {s : St} {i : List Ix} {e : Ex} {b : List St} (h : mIxs f s.Idx = .ok i) (h2 : mEx f s.E = .ok e) (h3 : mSts f g s.Body = .ok b) : mSt f g s = .ok (.mk s.Op (if s.Op = 1 then g s.Name else s.Name) s.Many s.Mark s.Fold i e b) := by rw [mSt_eq, h]; simp only [h2, h3]
mutual
theorem mSt_ne {f : Lf → Lf × Int} {g : ByteArray → ByteArray} : ∀ s : St, mSt f g s ≠ .error 0
  | .mk o nm mn mk fo i e b => by
    rw [mSt]
    cases h1 : mIxs f i with
    | error y => intro h; cases h; exact mIxs_ne h1
    | ok a =>
      cases h2 : mEx f e with
      | error y => intro h; simp only at h; cases h; exact mEx_ne e h2
      | ok a =>
        cases h3 : mSts f g b with
        | error y => intro h; simp only at h; cases h; exact mSts_ne b h3
        | ok a => simp
theorem mSts_ne {f : Lf → Lf × Int} {g : ByteArray → ByteArray} : ∀ l : List St, mSts f g l ≠ .error 0
  | [] => by simp [mSts]
  | x :: r => by
    rw [mSts]
    cases h1 : mSt f g x with
    | error y => intro h; cases h; exact mSt_ne x h1
    | ok a =>
      cases h2 : mSts f g r with
      | error y => intro h; simp only at h; cases h; exact mSts_ne r h2
      | ok a => simp
end
def outS : Except Int (List St) → List St
  | .ok l => l
  | .error _ => []
theorem mSts_next {f : Lf → Lf × Int} {g : ByteArray → ByteArray} {l : List St} {k : Nat} {x y : St} {done : List St} (h : l[k]? = some x) (hp : mSts f g l = mapRest done (mSts f g (l.drop k))) (hx : mSt f g x = .ok y) : mSts f g l = mapRest (done ++ [y]) (mSts f g (l.drop (k + 1))) := by
  rw [hp, drop_cons h, mSts, hx]
  cases mSts f g (l.drop (k + 1)) <;> simp [mapRest, andThenE]
theorem mSts_no {f : Lf → Lf × Int} {g : ByteArray → ByteArray} {l : List St} {k : Nat} {x : St} {done : List St} {c : Int} (h : l[k]? = some x) (hp : mSts f g l = mapRest done (mSts f g (l.drop k))) (hx : mSt f g x = .error c) : mSts f g l = .error c := by
  rw [hp, drop_cons h, mSts, hx]; rfl
theorem mSts_end {f : Lf → Lf × Int} {g : ByteArray → ByteArray} {l : List St} {k : Nat} {done : List St} (hp : mSts f g l = mapRest done (mSts f g (l.drop k))) (h : ¬ k < l.length) : mSts f g l = .ok done := by
  rw [hp, drop_end h]; simp [mSts, mapRest, andThenE]
mutual
theorem mSt_id : ∀ s : St, mSt idF (fun x => x) s = .ok s
  | .mk o nm mn mk fo i e b => by
    rw [mSt, mIxs_id, mEx_id]; simp only [mSts_id b]
    by_cases h : o = 1
    · rw [if_pos h]
    · rw [if_neg h]
theorem mSts_id : ∀ l : List St, mSts idF (fun x => x) l = .ok l
  | [] => by rw [mSts]
  | x :: r => by rw [mSts, mSt_id x, mSts_id r]
end
def ixsAll (P : Lf → Prop) (i : List Ix) : Prop := ∀ x, x ∈ i → P x.Lin ∧ ∀ l, l ∈ x.At → P l
mutual
def St.allF (P : Lf → Prop) : St → Prop
  | .mk _ _ _ _ _ i e b => ixsAll P i ∧ e.allF P ∧ allSs P b
def allSs (P : Lf → Prop) : List St → Prop
  | [] => True
  | s :: r => s.allF P ∧ allSs P r
end
theorem St.allF_eq {P : Lf → Prop} {s : St} (h : s.allF P) : ixsAll P s.Idx ∧ s.E.allF P ∧ allSs P s.Body := by cases s; rw [St.allF] at h; exact h
theorem allSs_mem {P : Lf → Prop} : ∀ {l : List St}, allSs P l → ∀ s, s ∈ l → s.allF P
  | [], _, s, hs => by cases hs
  | x :: r, h, s, hs => by
    rw [allSs] at h
    rcases List.mem_cons.1 hs with rfl | hs
    · exact h.1
    · exact allSs_mem h.2 s hs
end Go.Br
end
section
set_option linter.unusedSimpArgs false
set_option linter.unusedVariables false
namespace Go.Br
open Go Go.Eng Go.L41

def zSt : St := .mk 0 (bs []) 0 0 0 [] zEx []
/-- The statements on a path, outermost first; none if there is no such path. -/
def trl : List Int → List St → List St → List St
  | [], _, out => out
  | i :: r, l, out => if 0 ≤ i ∧ i < l.length then trl r (l.getD i.toNat zSt).Body (out ++ [l.getD i.toNat zSt]) else []
def trailT (l : List St) (way : List Int) : List St := trl way l []
theorem trl_next {way : List Int} {k : Nat} {i : Int} {l : List St} {out R : List St} (h : way[k]? = some i) (hp : R = trl (way.drop k) l out) (hi : 0 ≤ i ∧ i < l.length) : R = trl (way.drop (k + 1)) (l.getD i.toNat zSt).Body (out ++ [l.getD i.toNat zSt]) := by
  rw [hp, drop_cons h, trl, if_pos hi]
theorem trl_no {way : List Int} {k : Nat} {i : Int} {l : List St} {out R : List St} (h : way[k]? = some i) (hp : R = trl (way.drop k) l out) (hi : ¬ (0 ≤ i ∧ i < l.length)) : R = [] := by
  rw [hp, drop_cons h, trl, if_neg hi]
theorem trl_end {way : List Int} {k : Nat} {l : List St} {out R : List St} (hp : R = trl (way.drop k) l out) (h : ¬ k < way.length) : R = out := by
  rw [hp, drop_end h, trl]
theorem stD_get {l : List St} {i : Int} (h : 0 ≤ i ∧ i < l.length) : l[i.toNat]? = some (l.getD i.toNat zSt) := by
  have : i.toNat < l.length := by omega
  rw [List.getElem?_eq_getElem this, List.getD, List.getElem?_eq_getElem this]; rfl
theorem stD_mem {l : List St} {i : Int} (h : 0 ≤ i ∧ i < l.length) : l.getD i.toNat zSt ∈ l := mem_of_get (stD_get h)
/-- The reference's At. -/
def atF : List Int → List St → St → St × Bool
  | [], _, s => (s, true)
  | i :: r, l, _ => if 0 ≤ i ∧ i < l.length then atF r (l.getD i.toNat zSt).Body (l.getD i.toNat zSt) else (zSt, false)
def atT (l : List St) (way : List Int) : St × Bool := if way = [] then (zSt, false) else atF way l zSt
theorem atF_next {way : List Int} {k : Nat} {i : Int} {l : List St} {s : St} {R : St × Bool} (h : way[k]? = some i) (hp : R = atF (way.drop k) l s) (hi : 0 ≤ i ∧ i < l.length) : R = atF (way.drop (k + 1)) (l.getD i.toNat zSt).Body (l.getD i.toNat zSt) := by
  rw [hp, drop_cons h, atF, if_pos hi]
theorem atF_no {way : List Int} {k : Nat} {i : Int} {l : List St} {s : St} {R : St × Bool} (h : way[k]? = some i) (hp : R = atF (way.drop k) l s) (hi : ¬ (0 ≤ i ∧ i < l.length)) : R = (zSt, false) := by
  rw [hp, drop_cons h, atF, if_neg hi]
theorem atF_end {way : List Int} {k : Nat} {l : List St} {s : St} {R : St × Bool} (hp : R = atF (way.drop k) l s) (h : ¬ k < way.length) : R = (s, true) := by
  rw [hp, drop_end h, atF]
theorem trl_atF : ∀ (way : List Int) (l out : List St) (s : St), out ≠ [] → out.getLast? = some s → (trl way l out = [] ∧ (atF way l s).2 = false ∧ atF way l s = (zSt, false)) ∨ (trl way l out ≠ [] ∧ (trl way l out).getLast? = some (atF way l s).1 ∧ (atF way l s).2 = true)
  | [], l, out, s, h, h2 => .inr ⟨h, h2, rfl⟩
  | i :: r, l, out, s, h, h2 => by
    rw [trl, atF]
    by_cases hi : 0 ≤ i ∧ i < l.length
    · rw [if_pos hi, if_pos hi]
      exact trl_atF r _ _ _ (by simp) (by simp)
    · rw [if_neg hi, if_neg hi]; exact .inl ⟨rfl, rfl, rfl⟩
theorem trail_at (l : List St) (way : List Int) : (trailT l way = [] ∧ atT l way = (zSt, false)) ∨ (trailT l way ≠ [] ∧ (trailT l way).getLast? = some (atT l way).1 ∧ (atT l way).2 = true) := by
  unfold trailT atT
  cases way with
  | nil => exact .inl ⟨rfl, if_pos rfl⟩
  | cons i r =>
    rw [if_neg (by simp), trl, atF]
    by_cases hi : 0 ≤ i ∧ i < l.length
    · rw [if_pos hi, if_pos hi]
      rcases trl_atF r (l.getD i.toNat zSt).Body ([] ++ [l.getD i.toNat zSt]) (l.getD i.toNat zSt) (by simp) (by simp) with ⟨h1, h2, h3⟩ | h
      · exact .inl ⟨h1, h3⟩
      · exact .inr h
    · rw [if_neg hi, if_neg hi]; exact .inl ⟨rfl, rfl⟩
theorem trl_len : ∀ (way : List Int) (l out : List St), (trl way l out).length ≤ out.length + way.length
  | [], l, out => by simp [trl]
  | i :: r, l, out => by
    rw [trl]; split
    · have := trl_len r (l.getD i.toNat zSt).Body (out ++ [l.getD i.toNat zSt])
      simp only [List.length_append, List.length_cons, List.length_nil] at this ⊢; omega
    · simp
def bdNm (s : St) : List Bd := if s.Op = 1 then [⟨s.Name, s.Many⟩] else []
def enclT (l : List St) (way : List Int) : List Bd := (trailT l way).dropLast.flatMap bdNm
/-- A path leads somewhere. -/
def wayOk : List Int → List St → Prop
  | [], _ => True
  | i :: r, l => (0 ≤ i ∧ i < l.length) ∧ wayOk r (l.getD i.toNat zSt).Body
theorem way_at {l0 : List St} : ∀ {way : List Int} {l : List St} {s : St}, (atF way l s).2 = true → wayOk way l
  | [], _, _, _ => trivial
  | i :: r, l, s, h => by
    rw [atF] at h
    by_cases hi : 0 ≤ i ∧ i < l.length
    · rw [if_pos hi] at h; exact ⟨hi, way_at (l0 := l0) h⟩
    · rw [if_neg hi] at h; cases h
theorem way_of {l : List St} {way : List Int} (h : (atT l way).2 = true) : way ≠ [] ∧ wayOk way l := by
  unfold atT at h
  by_cases hw : way = []
  · rw [if_pos hw] at h; cases h
  · rw [if_neg hw] at h; exact ⟨hw, way_at (l0 := l) h⟩
theorem bdNm_yes {s : St} (h : s.Op = 1) : bdNm s = [⟨s.Name, s.Many⟩] := by unfold bdNm; rw [if_pos h]
theorem bdNm_no {s : St} (h : ¬ s.Op = 1) : bdNm s = [] := by unfold bdNm; rw [if_neg h]
theorem enc_step {l : List St} {way : List Int} {k : Nat} {s : St} (h : (trailT l way)[k]? = some s) : ((trailT l way).take (k + 1)).flatMap bdNm = ((trailT l way).take k).flatMap bdNm ++ bdNm s := by
  rw [take_next h, List.flatMap_append]; simp
theorem enc_all {l : List St} {way : List Int} {k : Nat} (h : k = (trailT l way).length - 1) : ((trailT l way).take k).flatMap bdNm = enclT l way := by
  unfold enclT; rw [List.dropLast_eq_take, h]
theorem bdNm_len (s : St) : (bdNm s).length ≤ 1 := by unfold bdNm; split <;> simp
theorem enc_len : ∀ (l : List St), (l.flatMap bdNm).length ≤ l.length
  | [] => by simp
  | x :: r => by rw [List.flatMap_cons, List.length_append, List.length_cons]; have := enc_len r; have := bdNm_len x; omega
theorem at_some {l : List St} {way : List Int} (h : trailT l way ≠ []) : (atT l way).2 = true := by
  rcases trail_at l way with ⟨h1, _⟩ | ⟨_, _, h1⟩
  · exact absurd h1 h
  · exact h1
theorem at_none {l : List St} {way : List Int} (h : trailT l way = []) : atT l way = (zSt, false) := by
  rcases trail_at l way with ⟨_, h1⟩ | ⟨h1, _⟩
  · exact h1
  · exact absurd h h1
theorem at_last {l : List St} {way : List Int} (h : trailT l way ≠ []) : (trailT l way).drop ((trailT l way).length - 1) = [(atT l way).1] := by
  rcases trail_at l way with ⟨h1, _⟩ | ⟨_, h2, _⟩
  · exact absurd h1 h
  · have hl : 0 < (trailT l way).length := List.length_pos_iff.2 h
    have hg : (trailT l way)[(trailT l way).length - 1]? = some (atT l way).1 := by rw [← List.getLast?_eq_getElem?]; exact h2
    rw [drop_cons hg, show (trailT l way).length - 1 + 1 = (trailT l way).length by omega, List.drop_length]
theorem atF_le : ∀ {way : List Int} {l : List St} {s : St} {B : Nat}, stsWt l ≤ B → s.wt ≤ B → (atF way l s).1.wt ≤ B + 2
  | [], l, s, B, _, h => by rw [atF]; show s.wt ≤ _; omega
  | i :: r, l, s, B, h, h2 => by
    rw [atF]
    split
    · rename_i hi
      have h1 := stsWt_mem (stD_mem hi)
      have h2 := St.body_wt (l.getD i.toNat zSt)
      exact atF_le (by omega) (by omega)
    · show zSt.wt ≤ _
      have : zSt.wt = 2 := by decide
      omega
theorem atF_le' {way : List Int} {l : List St} {B : Nat} (h : stsWt l ≤ B) : (atF way l zSt).1.wt ≤ B + 2 := by
  cases way with
  | nil => show zSt.wt ≤ _; have : zSt.wt = 2 := by decide
           omega
  | cons i r =>
    rw [atF]
    split
    · rename_i hi
      have h1 := stsWt_mem (stD_mem hi)
      have h2 := St.body_wt (l.getD i.toNat zSt)
      exact atF_le (by omega) (by omega)
    · show zSt.wt ≤ _
      have : zSt.wt = 2 := by decide
      omega
theorem zSt_wt : zSt.wt = 2 := by decide
theorem atT_wt {l : List St} {way : List Int} : (atT l way).1.wt ≤ stsWt l + 2 := by
  unfold atT
  split
  · show zSt.wt ≤ _; rw [zSt_wt]; omega
  · exact atF_le' (Nat.le_refl _)
end Go.Br
end
section
set_option linter.unusedSimpArgs false
set_option linter.unusedVariables false
namespace Go.Br
open Go Go.Eng Go.L41

/-! ## Numerals -/
def decB (n : Nat) : ByteArray := ⟨(Lib.decDigits n).toArray⟩
def valD (l : List UInt8) : Nat := l.foldl (fun a c => a * 10 + (c.toNat - 48)) 0
theorem byte_dig {n : Nat} (h : n < 10) : (UInt8.ofNat (48 + n)).toNat = 48 + n := by
  rw [UInt8.toNat_ofNat']; omega
theorem dec_big {u : Nat} (h : ¬ u < 10) : Lib.decDigits u = Lib.decDigits (u / 10) ++ [UInt8.ofNat (48 + u % 10)] := by rw [Lib.decDigits, dif_neg h]
theorem valD_dec (u : Nat) : valD (Lib.decDigits u) = u := by
  induction u using Nat.strongRecOn with
  | _ u ih =>
    by_cases h : u < 10
    · rw [Lib.decDigits_one h]
      unfold valD
      simp only [List.foldl_cons, List.foldl_nil]
      rw [byte_dig h]; omega
    · rw [dec_big h]
      unfold valD at *
      rw [List.foldl_append, ih (u / 10) (by omega)]
      simp only [List.foldl_cons, List.foldl_nil]
      rw [byte_dig (by omega)]; omega
theorem decB_inj {j k : Nat} (h : decB j = decB k) : j = k := by
  unfold decB at h
  have h := congrArg (fun b : ByteArray => valD b.data.toList) h
  have h : valD (Lib.decDigits j) = valD (Lib.decDigits k) := h
  rw [valD_dec, valD_dec] at h; exact h
theorem nDig_le : ∀ (k u : Nat), 1 ≤ k → u < 10 ^ k → Lib.nDigits u ≤ k
  | 0, u, h, _ => by omega
  | k + 1, u, _, h => by
    by_cases h1 : u < 10
    · rw [Lib.nDigits_small h1]; omega
    · rw [Lib.nDigits_big h1]
      by_cases hk : k = 0
      · subst hk; omega
      · have := nDig_le k (u / 10) (by omega) (by rw [Nat.pow_succ] at h; omega)
        omega
theorem decB_size {n : Nat} (h : n < 10 ^ 19) : (decB n).size ≤ 19 := by
  have : (decB n).size = (Lib.decDigits n).length := by unfold decB; simp [ByteArray.size]
  rw [this, Lib.decDigits_length]
  exact nDig_le 19 n (by omega) h
def nmK (base : ByteArray) (k : Nat) : ByteArray := if k = 0 then base else base ++ decB k
theorem app_left {a b c : ByteArray} (h : a ++ b = a ++ c) : b = c := by
  have := congrArg (fun x : ByteArray => x.data.toList) h
  simp only [ByteArray.data_append, Array.toList_append] at this
  have := List.append_cancel_left this
  apply ByteArray.ext
  exact Array.toList_inj.1 this
theorem decB_ne (k : Nat) : (decB k).size ≠ 0 := by
  have : (decB k).size = (Lib.decDigits k).length := by unfold decB; simp [ByteArray.size]
  rw [this, Lib.decDigits_length]
  have := Lib.nDigits_pos k; omega
theorem nmK_inj {base : ByteArray} {j k : Nat} (h : nmK base j = nmK base k) : j = k := by
  unfold nmK at h
  by_cases hj : j = 0
  · rw [if_pos hj] at h
    by_cases hk : k = 0
    · omega
    · rw [if_neg hk] at h
      have := congrArg ByteArray.size h
      rw [ByteArray.size_append] at this
      exact absurd (show (decB k).size = 0 by omega) (decB_ne k)
  · rw [if_neg hj] at h
    by_cases hk : k = 0
    · rw [if_pos hk] at h
      have := congrArg ByteArray.size h
      rw [ByteArray.size_append] at this
      exact absurd (show (decB j).size = 0 by omega) (decB_ne j)
    · rw [if_neg hk] at h
      exact decB_inj (app_left h)
theorem nodup_len {α : Type} [DecidableEq α] : ∀ {l L : List α}, l.Nodup → (∀ x, x ∈ l → x ∈ L) → l.length ≤ L.length
  | [], _, _, _ => by simp
  | x :: r, L, h, hs => by
    rw [List.nodup_cons] at h
    have hx := hs x (by simp)
    have := nodup_len (l := r) (L := L.erase x) h.2 fun y hy => by
      have hne : y ≠ x := fun e => h.1 (e ▸ hy)
      exact (List.mem_erase_of_ne hne).2 (hs y (by simp [hy]))
    rw [List.length_erase_of_mem hx] at this
    have := List.length_pos_of_mem hx
    rw [List.length_cons]; omega
theorem fresh_lt {L : List ByteArray} {base : ByteArray} {k : Nat} (h : ∀ j, j < k → hasB L (nmK base j) = true) : k ≤ L.length := by
  have := nodup_len (l := (List.range k).map (nmK base)) (L := L) ?_ ?_
  · simpa using this
  · exact List.Pairwise.map _ (fun a b hab h => hab (nmK_inj h)) List.nodup_range
  · intro x hx
    obtain ⟨j, hj, rfl⟩ := List.mem_map.1 hx
    exact hasB_mem.1 (h j (List.mem_range.1 hj))
def freshK (L : List ByteArray) (base : ByteArray) : Nat := ((List.range (L.length + 1)).find? fun k => !hasB L (nmK base k)).getD 0
def freshT (L : List ByteArray) (base : ByteArray) : ByteArray := nmK base (freshK L base)
theorem fresh_end {L : List ByteArray} {base : ByteArray} {k : Nat} (h : ∀ j, j < k → hasB L (nmK base j) = true) (hk : hasB L (nmK base k) = false) : freshT L base = nmK base k := by
  have hle := fresh_lt h
  unfold freshT freshK
  have : (List.range (L.length + 1)).find? (fun k => !hasB L (nmK base k)) = some k := by
    rw [List.find?_range_eq_some]
    exact ⟨by rw [hk]; rfl, List.mem_range.2 (by omega), fun j hj => by rw [h j hj]; rfl⟩
  rw [this]; rfl
theorem fresh_is (L : List ByteArray) (base : ByteArray) : (∀ j, j < freshK L base → hasB L (nmK base j) = true) ∧ hasB L (freshT L base) = false := by
  have hex : ∃ k, (∀ j, j < k → hasB L (nmK base j) = true) ∧ hasB L (nmK base k) = false := by
    apply Classical.byContradiction
    intro hn
    have hall : ∀ k, ∀ j, j < k → hasB L (nmK base j) = true := by
      intro k
      induction k with
      | zero => intro j hj; omega
      | succ k ih =>
        intro j hj
        by_cases h : j < k
        · exact ih j h
        · have : j = k := by omega
          subst this
          cases hh : hasB L (nmK base j) with
          | true => rfl
          | false => exact absurd ⟨j, ih, hh⟩ hn
    have := fresh_lt (hall (L.length + 1))
    omega
  obtain ⟨k, h1, h2⟩ := hex
  have e := fresh_end h1 h2
  have e2 : freshK L base = k := nmK_inj e
  rw [e, e2]
  exact ⟨h1, h2⟩
theorem fresh_congr {L M : List ByteArray} (h : ∀ t, hasB L t = hasB M t) (base : ByteArray) : freshT L base = freshT M base := by
  obtain ⟨h1, h2⟩ := fresh_is L base
  exact (fresh_end (fun j hj => by rw [← h]; exact h1 j hj) (by rw [← h]; exact h2)).symm
theorem fresh_next {L : List ByteArray} {base : ByteArray} {k : Nat} (h : ∀ j, j < k → hasB L (nmK base j) = true) (hk : hasB L (nmK base k) = true) : ∀ j, j < k + 1 → hasB L (nmK base j) = true := by
  intro j hj
  by_cases hjk : j < k
  · exact h j hjk
  · rw [show j = k by omega]; exact hk
theorem nmK_succ (base : ByteArray) (k : Nat) : base ++ decB (k + 1) = nmK base (k + 1) := by unfold nmK; rw [if_neg (by omega)]

/-! ## Sets of names -/
abbrev BM := List (ByteArray × Bool)
def putB (m : BM) (t : ByteArray) : BM := mput m t true
theorem putB_get (u : ByteArray) : ∀ (l : List ByteArray) (m : BM), mget (l.foldl putB m) u = if hasB l u = true then some true else mget m u
  | [], m => by simp [hasB]
  | t :: r, m => by
    rw [List.foldl_cons, putB_get u r, hasB_cons]
    unfold putB
    rw [mget_mput]
    by_cases h : t = u
    · subst h; simp
    · rw [if_neg h, decide_eq_false h, Bool.false_or]
theorem set_has (l : List ByteArray) (u : ByteArray) : (mget (l.foldl putB []) u).getD false = hasB l u := by
  rw [putB_get]
  by_cases h : hasB l u = true
  · rw [if_pos h, h]; rfl
  · rw [if_neg h]; simp only [mget, Option.getD_none]; simpa using h
theorem set_next (m : BM) (l : List ByteArray) (t : ByteArray) : putB (l.foldl putB m) t = (l ++ [t]).foldl putB m := by rw [List.foldl_append]; rfl

/-! ## Names in use -/
def indexW (e : Ex) : List ByteArray := insWs [] (namesA (nodes e))
theorem indexW_has (e : Ex) (t : ByteArray) : hasB (indexW e) t = hasB (namesA (nodes e)) t := by unfold indexW; rw [insWs_has]; simp [hasB]
theorem indexT_has (e : Ex) (t : ByteArray) : hasB (indexT e) t = hasB (namesA (nodes e)) t := hasB_congr ⟨fun h => mem_sortB.1 (mem_thinB h), fun h => thin_mem (mem_sortB.2 h)⟩
def namesI (i : List Ix) : List ByteArray := (i.flatMap ixF).flatMap namesF
def rdX (i : List Ix) : Ex := .mk 3 (bs []) ⟨0, 0⟩ ⟨0, 0, 0, 0, 0⟩ ⟨0, []⟩ i []
theorem rdX_names (i : List Ix) : namesA (nodes (rdX i)) = namesI i := by
  rw [nodes_eq]
  have : nodesL (rdX i).Args = [] := rfl
  rw [this]
  simp [namesA, namesN, formsL, rdX, Ex.Lin, Ex.Idx, namesF, namesI, ixF]
def takHd (s : St) : List ByteArray := loopNm s ++ indexW (rdX s.Idx) ++ indexW s.E
mutual
def takS : St → List ByteArray
  | .mk o nm mn mk fo i e b => takHd (.mk o nm mn mk fo i e b) ++ takL b
def takL : List St → List ByteArray
  | [] => []
  | s :: r => takS s ++ takL r
end
def markHd (s : St) : List ByteArray := loopNm s ++ indexT s.E ++ namesI s.Idx
def markA (l : List (St × List Int)) : List ByteArray := l.flatMap fun x => markHd x.1
theorem markA_append (a b : List (St × List Int)) : markA (a ++ b) = markA a ++ markA b := by unfold markA; rw [List.flatMap_append]
theorem markA_one (pre : List (St × List Int)) (x : St × List Int) : markA (pre ++ [x]) = markA pre ++ markHd x.1 := by rw [markA_append]; simp [markA]
theorem markHd_has (s : St) (t : ByteArray) : hasB (markHd s) t = hasB (takHd s) t := by
  unfold markHd takHd
  rw [hasB_app, hasB_app, hasB_app, hasB_app, indexT_has, indexW_has, indexW_has, rdX_names, Bool.or_assoc, Bool.or_assoc, Bool.or_comm (hasB (namesI s.Idx) t)]
mutual
theorem markS_has (t : ByteArray) : ∀ (s : St) (here : List Int), hasB (markA (preS here s)) t = hasB (takS s) t
  | .mk o nm mn mk fo i e b, here => by
    rw [preS, takS, hasB_app, ← markHd_has, ← markL_has t b here 0, ← hasB_app]; rfl
theorem markL_has (t : ByteArray) : ∀ (l : List St) (way : List Int) (i : Int), hasB (markA (preL way i l)) t = hasB (takL l) t
  | [], way, i => by rw [preL, takL]; rfl
  | s :: r, way, i => by rw [preL, takL, markA_append, hasB_app, hasB_app, markS_has t s, markL_has t r]
end
def usedT (n : Ns) : List ByteArray := takL n.Body ++ n.Bufs.map Bf.Name
def usedP (n : Ns) : List ByteArray := n.Bufs.map Bf.Name ++ markA (preL [] 0 n.Body)
theorem used_has (n : Ns) (t : ByteArray) : hasB (usedP n) t = hasB (usedT n) t := by
  unfold usedP usedT
  rw [hasB_app, hasB_app, markL_has, Bool.or_comm]
def freshN (n : Ns) (base : ByteArray) : ByteArray := freshT (usedT n) base
theorem freshP (n : Ns) (base : ByteArray) : freshT (usedP n) base = freshN n base := fresh_congr (used_has n) base

/-! ## Bounds and steps of the reference's lists -/
theorem linsP_len : ∀ (l : List Lf) (i : Nat), ((l.take i).flatMap namesF).length ≤ linsWt l
  | [], i => by simp
  | x :: r, 0 => by simp
  | x :: r, i + 1 => by
    rw [List.take_succ_cons, List.flatMap_cons, List.length_append, linsWt]
    have := linsP_len r i
    have : (namesF x).length = x.L.length := by unfold namesF; rw [List.length_map]
    omega
theorem idxP_len : ∀ (l : List Ix) (i : Nat), (((l.take i).flatMap ixF).flatMap namesF).length ≤ idxWt l
  | [], i => by simp
  | x :: r, 0 => by simp
  | x :: r, i + 1 => by
    rw [List.take_succ_cons, List.flatMap_cons, List.flatMap_append, List.length_append, idxWt]
    have h1 := idxP_len r i
    have h2 := linsP_len x.At x.At.length
    rw [List.take_length] at h2
    have h3 : (namesF x.Lin).length = x.Lin.L.length := by unfold namesF; rw [List.length_map]
    have h4 : ((ixF x).flatMap namesF).length = (namesF x.Lin).length + (x.At.flatMap namesF).length := by
      show ((x.Lin :: x.At).flatMap namesF).length = _
      rw [List.flatMap_cons, List.length_append]
    rw [Ix.wt]; omega
theorem short_t {s : St} (c : ((decide ((100 : Int) < s.Name.size) || decide ((20 : Int) < s.Idx.length)) || !shortL s.Body) = true) : shortT s = false := by
  rw [shortT_eq]
  rw [Bool.or_eq_true, Bool.or_eq_true, decide_eq_true_eq, decide_eq_true_eq] at c
  rcases c with (c | c) | c
  · rw [decide_eq_false (show ¬ s.Name.size ≤ 100 by omega)]; rfl
  · rw [decide_eq_false (show ¬ s.Idx.length ≤ 20 by omega), Bool.and_false]; rfl
  · have : shortL s.Body = false := by simpa using c
    rw [this, Bool.and_false]
theorem short_f {s : St} (c : ((decide ((100 : Int) < s.Name.size) || decide ((20 : Int) < s.Idx.length)) || !shortL s.Body) = false) : shortT s = true := by
  rw [shortT_eq]
  rw [Bool.or_eq_false_iff, Bool.or_eq_false_iff, decide_eq_false_iff_not, decide_eq_false_iff_not] at c
  rw [decide_eq_true (show s.Name.size ≤ 100 by omega), decide_eq_true (show s.Idx.length ≤ 20 by omega)]
  simpa using c.2
theorem fewB_t {b : Bf} (c : (decide ((20 : Int) < b.Dims.length) || decide ((100 : Int) < b.Name.size)) = true) : fewBf b = false := by
  unfold fewBf
  rw [Bool.or_eq_true, decide_eq_true_eq, decide_eq_true_eq] at c
  rcases c with c | c
  · rw [decide_eq_false (show ¬ b.Dims.length ≤ 20 by omega)]; rfl
  · rw [decide_eq_false (show ¬ b.Name.size ≤ 100 by omega), Bool.and_false]
theorem fewB_f {b : Bf} (c : (decide ((20 : Int) < b.Dims.length) || decide ((100 : Int) < b.Name.size)) = false) : fewBf b = true := by
  unfold fewBf
  rw [Bool.or_eq_false_iff, decide_eq_false_iff_not, decide_eq_false_iff_not] at c
  rw [decide_eq_true (show b.Dims.length ≤ 20 by omega), decide_eq_true (show b.Name.size ≤ 100 by omega)]; rfl
theorem few_1 {n : Ns} {m : Nat} (h : 150 < n.Bufs.length) : fewN n m = false := by unfold fewN; rw [decide_eq_false (by omega)]; rfl
theorem few_2 {n : Ns} {m k : Nat} {b : Bf} (h : n.Bufs[k]? = some b) (hb : fewBf b = false) : fewN n m = false := by unfold fewN; rw [all_no h hb, Bool.and_false]; rfl
theorem few_3 {n : Ns} {m : Nat} (h : n.Bufs.length ≤ 150) (hb : n.Bufs.all fewBf = true) : fewS n.Body m = fewN n m := by unfold fewN; rw [hb, decide_eq_true h]; rfl
theorem few_parts {n : Ns} {m : Nat} (h : fewN n m = true) : n.Bufs.length ≤ 150 ∧ n.Bufs.all fewBf = true ∧ weighB n.Body m ≤ m ∧ shortL n.Body = true := by
  unfold fewN fewS at h
  simp only [Bool.and_eq_true, decide_eq_true_eq] at h
  exact ⟨h.1.1, h.1.2, h.2.1, h.2.2⟩
/-- An expression with an index list and nothing else. -/
def rdZ (i : List Ix) : Ex := .mk 0 (bs []) ⟨0, 0⟩ ⟨0, 0, 0, 0, 0⟩ ⟨0, []⟩ i []
theorem rdZ_wt (i : List Ix) : (rdZ i).wt = 1 + i.length + idxWt i := by
  rw [Ex.wt_eq]; simp only [rdZ, Ex.Lin, Ex.Idx, Ex.Args, argsWt, List.length_nil]; omega
theorem markHd_len (s : St) : (markHd s).length + stsWt s.Body ≤ s.wt := by
  unfold markHd
  rw [List.length_append, List.length_append, St.wt_eq]
  have h1 := loopNm_len s
  have h2 : (indexT s.E).length ≤ s.E.wt := by
    unfold indexT
    have h1 := thin_len (sortB (namesA (nodes s.E)))
    have h2 := sortB_len (namesA (nodes s.E))
    have h3 := namesA_len s.E
    omega
  have h3 : (namesI s.Idx).length ≤ idxWt s.Idx := by
    have := idxP_len s.Idx s.Idx.length
    rw [List.take_length] at this; exact this
  omega
mutual
theorem markS_len : ∀ (s : St) (here : List Int), (markA (preS here s)).length ≤ s.wt
  | .mk o nm mn mk fo i e b, here => by
    have q : markA (preS here (.mk o nm mn mk fo i e b)) = markHd (.mk o nm mn mk fo i e b) ++ markA (preL here 0 b) := by rw [preS]; rfl
    rw [q, List.length_append]
    have h1 := markHd_len (.mk o nm mn mk fo i e b)
    have h2 := markL_len b here 0
    simp only [St.Body] at h1
    omega
theorem markL_len : ∀ (l : List St) (way : List Int) (i : Int), (markA (preL way i l)).length ≤ stsWt l
  | [], way, i => by rw [preL]; simp [markA]
  | s :: r, way, i => by rw [preL, stsWt, markA_append, List.length_append]; have := markS_len s (way ++ [i]); have := markL_len r way (i + 1); omega
end
theorem usedP_len (n : Ns) : (usedP n).length ≤ stsWt n.Body + n.Bufs.length := by
  unfold usedP
  rw [List.length_append, List.length_map]
  have := markL_len n.Body [] 0; omega
theorem mark_ix {i : List Ix} {k : Nat} {x : Ix} {m : BM} (h : i[k]? = some x) : (x.At.flatMap namesF).foldl putB ((namesF x.Lin).foldl putB ((((i.take k).flatMap ixF).flatMap namesF).foldl putB m)) = (((i.take (k + 1)).flatMap ixF).flatMap namesF).foldl putB m := by
  rw [take_next h, List.flatMap_append, List.flatMap_append, List.foldl_append, ← List.foldl_append]
  simp [ixF]
theorem mark_at {l : List Lf} {j : Nat} {x : Lf} {m : BM} (h : l[j]? = some x) : (namesF x).foldl putB (((l.take j).flatMap namesF).foldl putB m) = ((l.take (j + 1)).flatMap namesF).foldl putB m := by
  rw [take_next h, List.flatMap_append, List.foldl_append]
  simp
theorem set_at {A L : List ByteArray} {k : Nat} {t : ByteArray} {m : BM} (h : L[k]? = some t) : putB ((A ++ L.take k).foldl putB m) t = (A ++ L.take (k + 1)).foldl putB m := by
  rw [take_next h, ← List.append_assoc]; exact set_next m (A ++ L.take k) t
end Go.Br
end
section
set_option linter.unusedSimpArgs false
set_option linter.unusedVariables false
namespace Go.Br
open Go Go.Eng Go.L41

/-! ## One form: a name for a name -/
def outIs : Except Int (List Ix) → List Ix
  | .ok l => l
  | .error _ => []
theorem mIxs_0 {f : Lf → Lf × Int} {i : List Ix} (h : errE (mIxs f i) = 0) : ∃ a, mIxs f i = .ok a := errE_ok h mIxs_ne
theorem mEx_0 {f : Lf → Lf × Int} {e : Ex} (h : errE (mEx f e) = 0) : ∃ a, mEx f e = .ok a := errE_ok h (mEx_ne e)
theorem mSts_0 {f : Lf → Lf × Int} {g : ByteArray → ByteArray} {l : List St} (h : errE (mSts f g l) = 0) : ∃ a, mSts f g l = .ok a := errE_ok h (mSts_ne l)
theorem err_is {α : Type} {x : Except Int α} (h : ¬ errE x = 0) : x = .error (errE x) := by
  cases x with
  | ok a => exact absurd rfl h
  | error c => rfl
theorem mIxs_err {f : Lf → Lf × Int} {i : List Ix} (h : ¬ errE (mIxs f i) = 0) : mIxs f i = .error (errE (mIxs f i)) := err_is h
theorem mEx_err {f : Lf → Lf × Int} {e : Ex} (h : ¬ errE (mEx f e) = 0) : mEx f e = .error (errE (mEx f e)) := err_is h
theorem mSts_err {f : Lf → Lf × Int} {g : ByteArray → ByteArray} {l : List St} (h : ¬ errE (mSts f g l) = 0) : mSts f g l = .error (errE (mSts f g l)) := err_is h
theorem ixsAll_of {P : Lf → Prop} {e : Ex} (h : e.allF P) : ixsAll P e.Idx := fun x hx => ⟨Ex.allF_ix h hx, fun l hl => Ex.allF_at h hx hl⟩
theorem mid_getS {A : List (List C)} {l : List St} {k : Nat} {x : St} (hA : A.length = k) (h : l[k]? = some x) : (A ++ (l.drop k).map St.cells)[k]? = some x.cs := by
  rw [mid_get hA h, St.cells_eq]
mutual
theorem st_short {B : Nat} : ∀ s : St, s.wt ≤ B → s.allF (fun l => l.L.length ≤ B)
  | .mk o nm mn mk fo i e b, h => by
    rw [St.allF]
    rw [St.wt] at h
    refine ⟨fun x hx => ?_, fun x hx l hl => forms_wt (Nat.le_trans (node_mem_wt e x hx) (by omega)) hl, sts_shortL b (by omega)⟩
    have := idxWt_mem hx
    rw [Ix.wt] at this
    exact ⟨by omega, fun l hl => by have := linsWt_mem hl; omega⟩
theorem sts_shortL {B : Nat} : ∀ l : List St, stsWt l ≤ B → allSs (fun l => l.L.length ≤ B) l
  | [], _ => by rw [allSs]; trivial
  | s :: r, h => by
    rw [stsWt] at h
    rw [allSs]
    exact ⟨st_short s (by omega), sts_shortL r (by omega)⟩
end
theorem sts_short {l : List St} {B : Nat} (h : stsWt l ≤ B) : allSs (fun l => l.L.length ≤ B) l := sts_shortL l h

/-! ## What renaming keeps -/
end Go.Br
end
section
set_option linter.unusedSimpArgs false
set_option linter.unusedVariables false
set_option maxRecDepth 100000
namespace Go.Br
open Go Go.Eng Go.L41

def lvnI : Ix := ⟨⟨0, [⟨bs [105], 1⟩]⟩, bs [], []⟩
def lvnE : Ex := .mk 3 (bs [97]) ⟨0, 0⟩ ⟨0, 0, 0, 0, 0⟩ ⟨0, []⟩ [lvnI] []
def lvnS : St := .mk 2 (bs [99]) 0 0 0 [lvnI] lvnE []
def lvnF : St := .mk 1 (bs [105]) 2 0 0 [] zEx [lvnS]
def lvnT : Ty := ⟨1, 0, 0, 0, 0⟩
def lvN : Ns := ⟨[⟨bs [97], lvnT, [2], 1⟩, ⟨bs [99], lvnT, [2], 2⟩], [lvnF]⟩
def lvM : Ns := ⟨[⟨bs [97], lvnT, [2], 1⟩, ⟨bs [99], lvnT, [2], 1⟩], [lvnF]⟩
theorem lvN_wt : stsWt lvN.Body ≤ 100 ∧ stsWt lvM.Body ≤ 100 := by decide +kernel
theorem lvN_valid : validN lvN = ([], 0) ∧ validN lvM = ([0, 0], 1) := by decide +kernel
theorem lvN_find : findN lvN.Body (bs [105]) = some [0] := by decide +kernel
theorem lvN_encl : enclT lvN.Body [0, 0] = [⟨bs [105], 2⟩] := by rfl
theorem lvN_size : stsN lvN.Body = 2 := by decide +kernel
theorem lvN_fresh : freshN lvN (bs [105]) = bs [105, 49] := by
  have e : nmK (bs [105]) 1 = bs [105, 49] := by
    unfold nmK decB
    rw [if_neg (by omega), Lib.decDigits_one (by omega)]; rfl
  unfold freshN
  rw [← e]
  refine fresh_end (k := 1) (fun j hj => ?_) ?_
  · have : j = 0 := by omega
    subst this
    have : nmK (bs [105]) 0 = bs [105] := if_pos rfl
    rw [this]; decide +kernel
  · rw [e]; decide +kernel
theorem lvN_ok : lvN.Ok ∧ lvM.Ok := by
  refine ⟨⟨by decide, fun b hb => ?_, by have := lvN_wt; omega⟩, ⟨by decide, fun b hb => ?_, by have := lvN_wt; omega⟩⟩ <;>
  · simp only [lvN, lvM, List.mem_cons, List.not_mem_nil, or_false] at hb
    rcases hb with rfl | rfl <;> decide
noncomputable instance : DecidableEq St := fun _ _ => Classical.propDecidable _
noncomputable instance : DecidableEq Ns := fun _ _ => Classical.propDecidable _
theorem St.eq_iff {a b : St} : a = b ↔ a.Op = b.Op ∧ a.Name = b.Name ∧ a.Many = b.Many ∧ a.Mark = b.Mark ∧ a.Fold = b.Fold ∧ a.Idx = b.Idx ∧ a.E = b.E ∧ a.Body = b.Body := by
  constructor
  · rintro rfl; exact ⟨rfl, rfl, rfl, rfl, rfl, rfl, rfl, rfl⟩
  · rintro ⟨h1, h2, h3, h4, h5, h6, h7, h8⟩
    rw [St.eta a, St.eta b, h1, h2, h3, h4, h5, h6, h7, h8]
theorem st_eq (a b : St) : (((((((decide (a.Op = b.Op) && decide (a.Name = b.Name)) && decide (a.Many = b.Many)) && decide (a.Mark = b.Mark)) && decide (a.Fold = b.Fold)) && decide (a.Idx = b.Idx)) && decide (a.E = b.E)) && decide (a.Body = b.Body)) = decide (a = b) := by
  rw [Bool.eq_iff_iff]
  simp only [Bool.and_eq_true, decide_eq_true_eq, St.eq_iff]
  constructor
  · rintro ⟨⟨⟨⟨⟨⟨⟨h1, h2⟩, h3⟩, h4⟩, h5⟩, h6⟩, h7⟩, h8⟩; exact ⟨h1, h2, h3, h4, h5, h6, h7, h8⟩
  · rintro ⟨h1, h2, h3, h4, h5, h6, h7, h8⟩; exact ⟨⟨⟨⟨⟨⟨⟨h1, h2⟩, h3⟩, h4⟩, h5⟩, h6⟩, h7⟩, h8⟩
theorem bf_ne (x y : Bf) : (((!decide (x.Name = y.Name) || !litsEq [cI x.T.Kind, cI x.T.Bits, cI x.T.Frac, cI x.T.Round, cI x.T.Over] [cI y.T.Kind, cI y.T.Bits, cI y.T.Frac, cI y.T.Round, cI y.T.Over]) || !decide (x.Use = y.Use)) || !decide (x.Dims = y.Dims)) = !decide (x = y) := by
  rw [litsEq_ty, ← Bool.not_and, ← Bool.not_and, ← Bool.not_and]
  congr 1
  rw [Bool.eq_iff_iff]
  simp only [Bool.and_eq_true, decide_eq_true_eq]
  cases x; cases y; simp only [Bf.mk.injEq]
  constructor
  · rintro ⟨⟨⟨h1, h2⟩, h3⟩, h4⟩; exact ⟨h1, h2, h4, h3⟩
  · rintro ⟨h1, h2, h3, h4⟩; exact ⟨⟨⟨h1, h2⟩, h4⟩, h3⟩
theorem Ns.eq_iff {a b : Ns} : a = b ↔ a.Bufs = b.Bufs ∧ a.Body = b.Body := by
  constructor
  · rintro rfl; exact ⟨rfl, rfl⟩
  · rintro ⟨h1, h2⟩; cases a; cases b; simp_all
end Go.Br
end
section
set_option linter.unusedSimpArgs false
set_option linter.unusedVariables false
namespace Go.Br
open Go Go.Eng Go.L41

theorem sub_zero {s : ByteArray} {u : Lf} (h : linOk u = true ∧ isNameB s = true) : substR ⟨0, []⟩ s u = (⟨0, []⟩, 0) := by
  unfold substR; rw [if_pos ⟨rfl, h.1, h.2⟩]; rfl
theorem fewS_parts {l : List St} {m : Nat} (h : fewS l m = true) : weighB l m ≤ m ∧ shortL l = true := by
  unfold fewS at h
  simp only [Bool.and_eq_true, decide_eq_true_eq] at h
  exact h
end Go.Br
end
section
set_option linter.unusedSimpArgs false
set_option linter.unusedVariables false
namespace Go.Br
open Go Go.Eng Go.L41

def setB (s : St) (b : List St) : St := .mk s.Op s.Name s.Many s.Mark s.Fold s.Idx s.E b
theorem setB_self (s : St) : setB s s.Body = s := by cases s; rfl
theorem setB_n (s : St) (b : List St) : stN (setB s b) = 1 + stsN b := by rw [stN_eq]; rfl
def replL : List Int → List St → List St → List St
  | [], l, _ => l
  | i :: p, l, q => l.take i.toNat ++ (if p = [] then q else [setB (l.getD i.toNat zSt) (replL p (l.getD i.toNat zSt).Body q)]) ++ l.drop (i.toNat + 1)
theorem replL_one (i : Int) (l q : List St) : replL [i] l q = l.take i.toNat ++ q ++ l.drop (i.toNat + 1) := by rw [replL, if_pos rfl]
theorem replL_in {i : Int} {p : List Int} (h : p ≠ []) (l q : List St) : replL (i :: p) l q = l.take i.toNat ++ [setB (l.getD i.toNat zSt) (replL p (l.getD i.toNat zSt).Body q)] ++ l.drop (i.toNat + 1) := by rw [replL, if_neg h]
theorem cut_at {l : List St} {i : Int} (h : 0 ≤ i ∧ i < l.length) : l.take i.toNat ++ [l.getD i.toNat zSt] ++ l.drop (i.toNat + 1) = l := by
  have hg := stD_get h
  rw [List.append_assoc, List.singleton_append, ← drop_cons hg, List.take_append_drop]
theorem replL_self : ∀ {way : List Int} {l : List St} {s : St}, way ≠ [] → (atF way l s).2 = true → replL way l [(atF way l s).1] = l
  | [], _, _, h, _ => absurd rfl h
  | i :: p, l, s, _, h => by
    rw [atF] at h ⊢
    by_cases c : 0 ≤ i ∧ i < l.length
    · rw [if_pos c] at h ⊢
      by_cases hp : p = []
      · subst hp; rw [replL_one, atF]; exact cut_at c
      · rw [replL_in hp, replL_self hp h, setB_self]; exact cut_at c
    · rw [if_neg c] at h; cases h
theorem replL_n : ∀ {way : List Int} {l q : List St} {s : St}, way ≠ [] → (atF way l s).2 = true → stsN (replL way l q) + stN (atF way l s).1 = stsN l + stsN q
  | [], _, _, _, h, _ => absurd rfl h
  | i :: p, l, q, s, _, h => by
    rw [atF] at h ⊢
    by_cases c : 0 ≤ i ∧ i < l.length
    · rw [if_pos c] at h ⊢
      have hc := congrArg stsN (cut_at c)
      rw [stsN_append, stsN_append, stsN, stsN] at hc
      by_cases hp : p = []
      · subst hp; rw [replL_one, atF, stsN_append, stsN_append]; simp only; omega
      · have ih := replL_n (q := q) hp h
        rw [replL_in hp, stsN_append, stsN_append, stsN, stsN, setB_n]
        have := stN_eq (l.getD i.toNat zSt)
        omega
    · rw [if_neg c] at h; cases h
theorem wt_app : ∀ a b : List St, stsWt (a ++ b) = stsWt a + stsWt b
  | [], b => by simp [stsWt]
  | x :: r, b => by rw [List.cons_append, stsWt, stsWt, wt_app r b]; omega
theorem setB_wt (s : St) (b : List St) : (setB s b).wt + stsWt s.Body = s.wt + stsWt b := by
  have h1 := St.wt_eq s
  have h2 := St.wt_eq (setB s b)
  simp only [setB, St.Idx, St.E, St.Body] at h1 h2 ⊢
  omega
theorem replL_wt : ∀ {way : List Int} {l q : List St}, wayOk way l → stsWt (replL way l q) ≤ stsWt l + stsWt q
  | [], l, q, _ => by rw [replL]; omega
  | i :: p, l, q, h => by
    have hc := congrArg stsWt (cut_at h.1)
    rw [wt_app, wt_app, stsWt, stsWt] at hc
    by_cases hp : p = []
    · subst hp; rw [replL_one, wt_app, wt_app]; omega
    · have ih := replL_wt (q := q) h.2
      have hb := setB_wt (l.getD i.toNat zSt) (replL p (l.getD i.toNat zSt).Body q)
      rw [replL_in hp, wt_app, wt_app, stsWt, stsWt]
      omega
def replN (n : Ns) (way : List Int) (q : List St) : Ns := ⟨n.Bufs, replL way n.Body q⟩
def repR (n : Ns) (way : List Int) (q : List St) : Ns := if (atT n.Body way).2 = true then replN n way q else ⟨[], []⟩
end Go.Br
end
