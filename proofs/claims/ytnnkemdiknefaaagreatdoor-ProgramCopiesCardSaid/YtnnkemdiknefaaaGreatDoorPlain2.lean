/-
  Sums of linear forms, exactly, in plain Lean: numbers of 64 and of 128 bits, merges of ascending lists, substitution.
  The reference's substitution of forms, in plain Lean: the sum, and the mapping of all forms of an expression.
  What the substitution of a form keeps, in plain Lean: valid forms stay valid, the name is gone, the shape of an expression stays.
  The comparison of expressions is a total order, in plain Lean.
  Layer 14 in plain Lean: short names, replacing, the names in forms, the example that every statement checks.
  Layer 14 in plain Lean: what the statement on elimination asks of a substitution.
  Layer 14 in plain Lean: what the statement on walks asks; and four pieces of memory at once.
  Expressions that are spoiled: how many strings a walk over a tree makes longer; cells of a region.
  Programs that are spoiled: how many strings are made longer; strings of a program.
  Layer 22, the conjuncts of a condition, in plain Lean.
  Layer 22, the replacing of a reduction axis, in plain Lean.
  Conditions: none.
-/
import Derived.Test.YtnnkemdiknefaaaGreatDoorPlain
import Derived.Test.YtnnkemdiknefaaaGreatDoorEngZ
section
set_option linter.unusedSimpArgs false
set_option linter.unusedVariables false
namespace Go.Br
open Go Go.Eng Go.L41

/-! ## The order of names -/
def r64 (n : Int) : Prop := -9223372036854775808 ≤ n ∧ n ≤ 9223372036854775807
instance (n : Int) : Decidable (r64 n) := by unfold r64; infer_instance
def w64 (n : Int) : Int := IntKind.i64.wrap n
def hiN (a b : Nat) : Nat :=
  (a / 4294967296) * (b / 4294967296) + ((a / 4294967296) * (b % 4294967296) + ((a % 4294967296) * (b % 4294967296)) / 4294967296) / 4294967296 +
    ((a % 4294967296) * (b / 4294967296) + ((a / 4294967296) * (b % 4294967296) + ((a % 4294967296) * (b % 4294967296)) / 4294967296) % 4294967296) / 4294967296
/-- The product of two numbers, where it is one. -/
def timesT (x y : Int) : Int × Bool := if r64 (x * y) then (x * y, true) else (0, false)
def midN (a b : Nat) : Nat := (a % 4294967296) * (b % 4294967296) / 4294967296 + (a / 4294967296) * (b % 4294967296) % 4294967296 + (a % 4294967296) * (b / 4294967296) % 4294967296
def wHi (a b : Nat) : Nat := (a / 4294967296) * (b / 4294967296) + (a / 4294967296) * (b % 4294967296) / 4294967296 + (a % 4294967296) * (b / 4294967296) / 4294967296 + midN a b / 4294967296
def wLo (a b : Nat) : Nat := midN a b % 4294967296 * 4294967296 + (a % 4294967296) * (b % 4294967296) % 4294967296
abbrev Tr := ByteArray × Int × Int
def mergeN : Nat → List Mono → List Mono → List Tr
  | 0, _, _ => []
  | _ + 1, [], [] => []
  | n + 1, a :: ar, [] => (a.Name, a.By, 0) :: mergeN n ar []
  | n + 1, [], b :: bs => (b.Name, 0, b.By) :: mergeN n [] bs
  | n + 1, a :: ar, b :: bs =>
    bif strLt a.Name b.Name then (a.Name, a.By, 0) :: mergeN n ar (b :: bs)
    else bif strLt b.Name a.Name then (b.Name, 0, b.By) :: mergeN n (a :: ar) bs
    else (a.Name, a.By, b.By) :: mergeN n ar bs
def mergeL (a b : List Mono) : List Tr := mergeN (a.length + b.length) a b
def hdM (l : List Mono) : Mono := l.headD ⟨bs [], 0⟩
def mC2 (a b : List Mono) : Bool := decide ((b.length : Int) = 0) || (decide ((0 : Int) < a.length) && strLt (hdM a).Name (hdM b).Name)
def mC3 (a b : List Mono) : Bool := decide ((a.length : Int) = 0) || strLt (hdM b).Name (hdM a).Name
def trV (t : Tr) : Int := t.2.1 + t.2.2
def trOk (t : Tr) : Bool := decide (r64 (trV t))
/-- The monomials of a sum; the numbers as the machine has them. -/
def sumW (ts : List Tr) : List Mono := ts.filterMap fun t => if w64 (trV t) = 0 then none else some ⟨t.1, w64 (trV t)⟩
def okF (ok : Bool) (d : List Tr) : Bool := d.foldl (fun b t => b && decide (r64 (t.2.1 + t.2.2))) ok
def addT (k : Int) (ts : List Tr) : Lf × Int := if r64 k ∧ ts.all trOk = true then (⟨k, sumW ts⟩, 0) else (zL, 3)
def addL (a b : Lf) : Lf × Int := if linOk a = true ∧ linOk b = true then addT (a.K + b.K) (mergeL a.L b.L) else (zL, 1)
def scaleM (by_ : Int) (l : List Mono) : List Mono := l.map fun m => ⟨m.Name, m.By * by_⟩
def scaleOk (by_ : Int) (l : List Mono) : Bool := l.all fun m => decide (r64 (m.By * by_))
def scaleL (a : Lf) (by_ : Int) : Lf × Int := if linOk a = true then (if by_ = 0 then (zL, 0) else if r64 (a.K * by_) ∧ scaleOk by_ a.L = true then (⟨a.K * by_, scaleM by_ a.L⟩, 0) else (zL, 3)) else (zL, 1)
def restL (l : Lf) (s : ByteArray) : Lf := ⟨l.K, l.L.filter fun m => !decide (m.Name = s)⟩
def lastBy (l : List Mono) (s : ByteArray) : Int := l.foldl (fun by_ m => if m.Name = s then m.By else by_) 0
/-- The program's substitution. -/
def substP (l : Lf) (s : ByteArray) (to_ : Lf) : Lf × Int :=
  if linOk l = true ∧ isNameB s = true ∧ linOk to_ = true then (if (scaleL to_ (lastBy l.L s)).2 = 0 then addL (restL l s) (scaleL to_ (lastBy l.L s)).1 else (zL, (scaleL to_ (lastBy l.L s)).2)) else (zL, 1)
def mulT (by_ : Int) (ts : List Tr) : List Tr := ts.map fun t => (t.1, t.2.1, t.2.2 * by_)
/-- The reference's. -/
def substR (l : Lf) (s : ByteArray) (to_ : Lf) : Lf × Int :=
  if linOk l = true ∧ linOk to_ = true ∧ isNameB s = true then
    (if lastBy l.L s = 0 then (l, 0) else if r64 (to_.K * lastBy l.L s) ∧ scaleOk (lastBy l.L s) to_.L = true then addT (l.K + to_.K * lastBy l.L s) (mulT (lastBy l.L s) (mergeL (restL l s).L to_.L)) else (zL, 3))
  else (zL, 1)

def scaleW (by_ : Int) (l : List Mono) : List Mono := l.map fun m => ⟨m.Name, (timesT m.By by_).1⟩
def scaleB (by_ : Int) (l : List Mono) : Bool := l.all fun m => (timesT m.By by_).2
def Lf.rng (l : Lf) : Prop := r64 l.K ∧ ∀ m, m ∈ l.L → r64 m.By
end Go.Br
end
section
set_option linter.unusedSimpArgs false
set_option linter.unusedVariables false
namespace Go.Br
open Go Go.Eng Go.L41

def atM (l : List Mono) (k : Nat) : Mono := l.getD k ⟨bs [], 0⟩
def sC2 (a b : List Mono) (i n : Nat) : Bool := decide ((n : Int) = b.length) || (decide ((i : Int) < a.length) && (strLt (atM a i).Name (atM b n).Name || decide ((atM a i).Name = (atM b n).Name)))
def sC3 (b : List Mono) (n : Nat) (s : ByteArray) : Bool := decide ((n : Int) < b.length) && decide ((atM b n).Name = s)
def zI : Ix := ⟨zL, bs [], []⟩
def outI : Except Int Ix → Ix
  | .ok e => e
  | .error _ => zI
end Go.Br
end
section
set_option linter.unusedSimpArgs false
set_option linter.unusedVariables false
namespace Go.Br
open Go Go.Eng Go.L41

/-! ## Ascending triples -/
def trsOk : Option ByteArray → List Tr → Bool
  | _, [] => true
  | p, t :: r => isNameB t.1 && ltO p t.1 && trsOk (some t.1) r
def hasN (l : Lf) (s : ByteArray) : Prop := ∃ m, m ∈ l.L ∧ m.Name = s
def gIx (g : Lf → Lf) (x : Ix) : Ix := ⟨g x.Lin, x.From, x.At.map g⟩
mutual
def gEx (g : Lf → Lf) : Ex → Ex
  | .mk o n v t l i arg_ => .mk o n v t (g l) (i.map (gIx g)) (gExs g arg_)
def gExs (g : Lf → Lf) : List Ex → List Ex
  | [] => []
  | a :: r => gEx g a :: gExs g r
end
theorem gExs_map (g : Lf → Lf) (l : List Ex) : gExs g l = l.map (gEx g) := by
  induction l with
  | nil => rfl
  | cons a r ih => rw [gExs, ih]; rfl
theorem mLins_g {f : Lf → Lf × Int} : ∀ {l r : List Lf}, mLins f l = .ok r → r = l.map (fun x => (f x).1) ∧ ∀ x, x ∈ l → (f x).2 = 0
  | [], r, h => by rw [mLins] at h; injection h with h; subst h; exact ⟨rfl, fun x hx => by cases hx⟩
  | a :: t, r, h => by
    rw [mLins] at h
    by_cases c : (f a).2 = 0
    · rw [fE_ok c] at h
      cases hm : mLins f t with
      | error y => rw [hm] at h; cases h
      | ok u =>
        rw [hm] at h
        injection h with h
        subst h
        obtain ⟨h1, h2⟩ := mLins_g hm
        exact ⟨by rw [h1]; rfl, fun x hx => by rcases List.mem_cons.1 hx with rfl | hx; exact c; exact h2 x hx⟩
    · rw [fE_err c] at h; cases h
theorem mIx_g {f : Lf → Lf × Int} {x y : Ix} (h : mIx f x = .ok y) : y = gIx (fun l => (f l).1) x ∧ (f x.Lin).2 = 0 ∧ ∀ l, l ∈ x.At → (f l).2 = 0 := by
  rw [mIx] at h
  by_cases c : (f x.Lin).2 = 0
  · rw [fE_ok c] at h
    cases hm : mLins f x.At with
    | error y => rw [hm] at h; cases h
    | ok u =>
      rw [hm] at h
      injection h with h
      subst h
      obtain ⟨h1, h2⟩ := mLins_g hm
      exact ⟨by rw [h1]; rfl, c, h2⟩
  · rw [fE_err c] at h; cases h
theorem mIxs_g {f : Lf → Lf × Int} : ∀ {l r : List Ix}, mIxs f l = .ok r → r = l.map (gIx fun x => (f x).1) ∧ ∀ x, x ∈ l → (f x.Lin).2 = 0 ∧ ∀ y, y ∈ x.At → (f y).2 = 0
  | [], r, h => by rw [mIxs] at h; injection h with h; subst h; exact ⟨rfl, fun x hx => by cases hx⟩
  | a :: t, r, h => by
    rw [mIxs] at h
    cases h1 : mIx f a with
    | error y => rw [h1] at h; cases h
    | ok a' =>
      rw [h1] at h
      cases hm : mIxs f t with
      | error y => rw [hm] at h; cases h
      | ok u =>
        rw [hm] at h
        injection h with h
        subst h
        obtain ⟨k1, k2⟩ := mIx_g h1
        obtain ⟨k3, k4⟩ := mIxs_g hm
        exact ⟨by rw [k1, k3]; rfl, fun x hx => by rcases List.mem_cons.1 hx with rfl | hx; exact k2; exact k4 x hx⟩
theorem nodes_allF {P : Lf → Prop} {e : Ex} (h1 : ∀ l, l ∈ formsL e → P l) (h2 : ∀ a, a ∈ e.Args → a.allF P) : e.allF P := by
  intro x hx
  rw [nodes_eq] at hx
  rcases List.mem_cons.1 hx with rfl | hx
  · exact h1
  · have : ∀ l : List Ex, (∀ a, a ∈ l → a.allF P) → x ∈ nodesL l → ∀ y, y ∈ formsL x → P y := by
      intro l
      induction l with
      | nil => intro _ h; simp [nodesL] at h
      | cons a r ih =>
        intro h hm
        rw [nodesL] at hm
        rcases List.mem_append.1 hm with k | k
        · exact h a (by simp) x k
        · exact ih (fun b hb => h b (by simp [hb])) k
    exact this e.Args h2 hx
mutual
theorem mEx_g {f : Lf → Lf × Int} : ∀ {e e' : Ex}, mEx f e = .ok e' → e' = gEx (fun l => (f l).1) e ∧ e.allF fun l => (f l).2 = 0
  | .mk o n v t l i arg_, e', h => by
    rw [mEx] at h
    by_cases c : (f l).2 = 0
    · rw [fE_ok c] at h
      cases h1 : mIxs f i with
      | error y => rw [h1] at h; cases h
      | ok i' =>
        rw [h1] at h
        cases h2 : mExs f arg_ with
        | error y => rw [h2] at h; cases h
        | ok as' =>
          rw [h2] at h
          injection h with h
          subst h
          obtain ⟨k1, k2⟩ := mIxs_g h1
          obtain ⟨k3, k4⟩ := mExs_g h2
          refine ⟨by rw [gEx, k1, k3, gExs_map], nodes_allF ?_ k4⟩
          intro y hy
          unfold formsL at hy
          rcases List.mem_cons.1 hy with rfl | hy
          · exact c
          · obtain ⟨x, hx, hy⟩ := List.mem_flatMap.1 hy
            rcases List.mem_cons.1 hy with rfl | hy
            · exact (k2 x hx).1
            · exact (k2 x hx).2 y hy
    · rw [fE_err c] at h; cases h
theorem mExs_g {f : Lf → Lf × Int} : ∀ {l r : List Ex}, mExs f l = .ok r → r = l.map (gEx fun l => (f l).1) ∧ ∀ a, a ∈ l → a.allF fun l => (f l).2 = 0
  | [], r, h => by rw [mExs] at h; injection h with h; subst h; exact ⟨rfl, fun x hx => by cases hx⟩
  | a :: t, r, h => by
    rw [mExs] at h
    cases h1 : mEx f a with
    | error y => rw [h1] at h; cases h
    | ok a' =>
      rw [h1] at h
      cases hm : mExs f t with
      | error y => rw [hm] at h; cases h
      | ok u =>
        rw [hm] at h
        injection h with h
        subst h
        obtain ⟨k1, k2⟩ := mEx_g h1
        obtain ⟨k3, k4⟩ := mExs_g hm
        exact ⟨by rw [k1, k3]; rfl, fun x hx => by rcases List.mem_cons.1 hx with rfl | hx; exact k2; exact k4 x hx⟩
end
mutual
theorem nodes_g (g : Lf → Lf) : ∀ e : Ex, nodes (gEx g e) = (nodes e).map (gEx g)
  | .mk o n v t l i arg_ => by rw [gEx, nodes, nodes, nodesL_g g arg_, List.map_cons, gEx]
theorem nodesL_g (g : Lf → Lf) : ∀ l : List Ex, nodesL (gExs g l) = (nodesL l).map (gEx g)
  | [] => by rw [gExs, nodesL]; rfl
  | a :: r => by rw [gExs, nodesL, nodesL, nodes_g g a, nodesL_g g r, List.map_append]
end
end Go.Br
end
section
set_option linter.unusedSimpArgs false
set_option linter.unusedVariables false
namespace Go.Br
open Go Go.Eng Go.Proofs Go.L41

/-- What a comparison keeps at one of its arguments. -/
structure PO {α : Type} (f : α → α → Int) (a : α) : Prop where
  anti : ∀ b, f b a = - f a b
  rng : ∀ b, -1 ≤ f a b ∧ f a b ≤ 1
  cong : ∀ b, f a b = 0 → ∀ c, f a c = f b c
  cong' : ∀ b c, f b c = 0 → f a b = f a c
  trans : ∀ b c, f a b < 0 → f b c < 0 → f a c < 0

theorem PO.zero {α : Type} (a : α) : PO (fun _ _ => 0) a :=
  ⟨fun _ => rfl, fun _ => ⟨by show (-1 : Int) ≤ 0; omega, by show (0 : Int) ≤ 1; omega⟩, fun _ _ _ => rfl, fun _ _ _ => rfl, fun _ _ h _ => h⟩
end Go.Br
end
section
set_option linter.unusedSimpArgs false
set_option linter.unusedVariables false
namespace Go.Br
open Go Go.Eng Go.L41

/-! ## Short names -/
def shortI (x : Ix) : Bool := !decide ((100 : Int) < x.From.size)
mutual
def shortE : Ex → Bool
  | .mk o n v t l i r => !(decide ((100 : Int) < n.size) || decide ((20 : Int) < i.length)) && (i.all shortI && shortEs r)
def shortEs : List Ex → Bool
  | [] => true
  | a :: r => shortE a && shortEs r
end
def fewE (e : Ex) (m : Nat) : Bool := decide (weighE e m ≤ m) && shortE e
mutual
def replE (f t : Ex) : Ex → Ex
  | .mk o n v y l i r => if .mk o n v y l i r = f then t else .mk o n v y l i (replEs f t r)
def replEs (f t : Ex) : List Ex → List Ex
  | [] => []
  | a :: r => replE f t a :: replEs f t r
end
def namesF (l : Lf) : List ByteArray := l.L.map Mono.Name
def namesN (x : Ex) : List ByteArray := (formsL x).flatMap namesF
def namesA (l : List Ex) : List ByteArray := l.flatMap namesN
def indexT (e : Ex) : List ByteArray := thinB (sortB (namesA (nodes e)))
def lvA : Ex := .mk 3 (bs [97]) ⟨0, 0⟩ ⟨0, 0, 0, 0, 0⟩ ⟨0, []⟩ [⟨⟨0, [⟨bs [105], 1⟩]⟩, bs [], []⟩, ⟨⟨2, []⟩, bs [], []⟩] []
def lvT : Ex := .mk 1 (bs []) ⟨3, 1⟩ ⟨3, 0, 0, 0, 0⟩ ⟨0, []⟩ [] []
def lvE : Ex := .mk 4 (bs []) ⟨0, 0⟩ ⟨0, 0, 0, 0, 0⟩ ⟨0, []⟩ [] [lvA, lvT]
def lvI : Ex := .mk 11 (bs []) ⟨0, 0⟩ ⟨0, 0, 0, 0, 0⟩ ⟨0, []⟩ [] [lvA, lvA, lvA]
def lvU : Lf := ⟨1, [⟨bs [106], 1⟩]⟩
def lvB : Ex := .mk 3 (bs [97]) ⟨0, 0⟩ ⟨0, 0, 0, 0, 0⟩ ⟨0, []⟩ [⟨⟨1, [⟨bs [106], 1⟩]⟩, bs [], []⟩, ⟨⟨2, []⟩, bs [], []⟩] []
def lvX : Ex := .mk 4 (bs []) ⟨0, 0⟩ ⟨0, 0, 0, 0, 0⟩ ⟨0, []⟩ [] [lvB, lvT]
end Go.Br
end
section
set_option linter.unusedSimpArgs false
set_option linter.unusedVariables false
namespace Go.Br
open Go Go.Eng Go.L41

abbrev SR (s : ByteArray) (u : Lf) (l : Lf) : Lf × Int := substR l s u
end Go.Br
end
section
set_option linter.unusedSimpArgs false
set_option linter.unusedVariables false
namespace Go.Br
open Go Go.Eng Go.L41

theorem mem4_eq {e1 e2 : E} {sv : Value} {t u : TypeId} {n b : Nat} {rows rows' : List (List C)} {cs : List C} {bμ : List E} (h : rows = rows') : e1 :: e2 :: E.vec sv t n rows :: E.row b u cs :: bμ = [e1, e2, E.vec sv t n rows', E.row b u cs] ++ bμ := by rw [h]; rfl
end Go.Br
end
section
namespace Go.Br
open Go Go.Eng Go.L41

mutual
def Ex.ixc : Ex → Nat
  | .mk _ _ _ _ _ i l => i.length + ixcL l
def ixcL : List Ex → Nat
  | [] => 0
  | e :: r => e.ixc + ixcL r
end
/-- Strings that may grow. -/
def Ex.short (S : Nat) (e : Ex) : Prop := ∀ x, x ∈ nodes e → ∀ i, i ∈ x.Idx → i.From.size ≤ S
abbrev vG (w0 : World) (bs : List Nat) (m : Nat) (e : Ex) : V := .agg (e.cs.map (Gc w0 bs m))
/-- Thirteen values. -/
structure P13 where
  (a0 a1 a2 a3 a4 a5 a6 a7 a8 a9 a10 a11 a12 : Value)
def P13.vals (p : P13) : List Value := [p.a0, p.a1, p.a2, p.a3, p.a4, p.a5, p.a6, p.a7, p.a8, p.a9, p.a10, p.a11, p.a12]
abbrev P13.v (p : P13) : V := .agg [.lit p.a0, .lit p.a1, .lit p.a2, .lit p.a3, .lit p.a4, .lit p.a5, .lit p.a6, .lit p.a7, .lit p.a8, .lit p.a9, .lit p.a10, .lit p.a11, .lit p.a12]
end Go.Br
end
section
namespace Go.Br
open Go Go.Eng Go.L41

def dcL : List Df → Nat
  | [] => 0
  | d :: r => (d.Dims.length + d.Body.Idx.length) + dcL r
theorem dcL_append (a b : List Df) : dcL (a ++ b) = dcL a + dcL b := by
  induction a with
  | nil => simp [dcL]
  | cons x r ih => rw [List.cons_append, dcL, dcL, ih]; omega
theorem dcL_next {l : List Df} {k : Nat} {d : Df} (h : l[k]? = some d) : dcL (l.take (k + 1)) = dcL (l.take k) + (d.Dims.length + d.Body.Idx.length) := by
  rw [take_next h, dcL_append]; simp [dcL]
theorem dcL_le {l : List Df} {k : Nat} {d : Df} (h : l[k]? = some d) : dcL (l.take k) + (d.Dims.length + d.Body.Idx.length) ≤ dcL l := by
  have := dcL_append (l.take (k + 1)) (l.drop (k + 1))
  rw [List.take_append_drop, dcL_next h] at this
  omega
/-- The strings that may be made longer. -/
structure Pg.Str (B : Nat) (p : Pg) : Prop where
  sizes : ∀ s, s ∈ p.Sizes → s.size ≤ B
  ps : ∀ x, x ∈ p.Params → x.Name.size ≤ B
  dims : ∀ d, d ∈ p.Defs → ∀ a, a ∈ d.Dims → a.Name.size ≤ B
  idx : ∀ d, d ∈ p.Defs → ∀ i, i ∈ d.Body.Idx → i.From.size ≤ B
  outs : ∀ s, s ∈ p.Outs → s.size ≤ B
structure P5 where
  (a0 a1 a2 a3 a4 : Value)
def P5.vals (p : P5) : List Value := [p.a0, p.a1, p.a2, p.a3, p.a4]
abbrev P5.v (p : P5) : V := .agg [.lit p.a0, .lit p.a1, .lit p.a2, .lit p.a3, .lit p.a4]
theorem list5 {vs : List Value} (h : vs.length = 5) : ∃ p : P5, vs = p.vals := by
  match vs, h with
  | [a0, a1, a2, a3, a4], _ => exact ⟨⟨a0, a1, a2, a3, a4⟩, rfl⟩
abbrev vGp (w0 : World) (bs : List Nat) (m : Nat) (p : Pg) : V := .agg (p.cells.map (Gc w0 bs m))
end Go.Br
end
section
set_option linter.unusedSimpArgs false
set_option linter.unusedVariables false
namespace Go.Br
open Go Go.Eng Go.L41

mutual
def conjE : Ex → List Ex
  | .mk o n v t l i arg_ => bif decide (o = 16) then conjL arg_ else [.mk o n v t l i arg_]
def conjL : List Ex → List Ex
  | [] => []
  | a :: r => conjE a ++ conjL r
end
theorem argsWt_append (a b : List Ex) : argsWt (a ++ b) = argsWt a + argsWt b := by
  induction a with
  | nil => rw [List.nil_append, argsWt]; omega
  | cons x r ih => rw [List.cons_append, argsWt, argsWt, ih]; omega
mutual
theorem conj_wt : ∀ e : Ex, argsWt (conjE e) ≤ e.wt
  | .mk o n v t l i arg_ => by
    have h := conjL_wt arg_
    rw [conjE]
    cases decide (o = 16)
    · rw [cond_false, argsWt, argsWt]; omega
    · rw [cond_true, Ex.wt]; omega
theorem conjL_wt : ∀ l : List Ex, argsWt (conjL l) ≤ argsWt l
  | [] => by rw [conjL]; exact Nat.le_refl _
  | a :: r => by
    have h1 := conj_wt a
    have h2 := conjL_wt r
    rw [conjL, argsWt_append, argsWt]; omega
end
structure Gd where
  conds : List Ex
  val : Ex
  ok : Bool
def zG : Gd := ⟨[], zEx, false⟩
def guardA (a b z : Ex) : Gd := bif decide (z.Op = 1) && decide (z.Val = zeroV z.Ty) then ⟨conjE a, b, true⟩ else zG
def guardT (e : Ex) : Gd := bif decide (validE e = 0) && decide (e.Op = 11) then guardA (argN e 0) (argN e 1) (argN e 2) else zG
end Go.Br
end
section
set_option linter.unusedSimpArgs false
set_option linter.unusedVariables false
namespace Go.Br
open Go Go.Eng Go.L41

def nodeE (op : Int) (l : List Ex) : Ex := .mk op (bs []) ⟨0, 0⟩ ⟨0, 0, 0, 0, 0⟩ ⟨0, []⟩ [] l
def idxE (f : Lf) : Ex := .mk 2 (bs []) ⟨0, 0⟩ ⟨0, 0, 0, 0, 0⟩ f [] []
def zeroE : Ex := .mk 1 (bs []) ⟨0, 1⟩ ⟨3, 0, 0, 0, 0⟩ ⟨0, []⟩ [] []
def insideE (g n : Lf) : Ex := nodeE 16 [nodeE 14 [zeroE, idxE g], nodeE 13 [idxE g, idxE n]]
def freeL (f : Lf) (l : List Ax) : Bool := l.all fun a => !hasVar f.L a.Name
def axN (s : ByteArray) (l : List Ax) : Int := idxOf (fun a => decide (a.Name = s)) l
def selB (d : Df) (n : Nat) (s : ByteArray) (c : Ex) : Bool := (solveT c s).2 && freeL (solveT c s).1 (d.Red.drop (n + 1))
/-- What a copy asks of a definition, and of a program. -/
def Df.okC (d : Df) : Prop := d.Dims.length ≤ 1073741824 ∧ d.Red.length ≤ 1073741824 ∧ (∀ a, a ∈ d.Dims → a.Size.L.length ≤ 5864062014805) ∧ (∀ a, a ∈ d.Red → a.Size.L.length ≤ 5864062014805) ∧ d.Body.allF (fun l => l.L.length ≤ 5864062014805) ∧ d.Body.cnt ≤ 4294967296
structure Pg.OkC (p : Pg) : Prop where
  sizes : p.Sizes.length ≤ 4294967296
  wh : p.Where.length ≤ 4294967296
  params : p.Params.length ≤ 4294967296
  defs : p.Defs.length ≤ 4294967296
  outs : p.Outs.length ≤ 4294967296
  whs : ∀ c, c ∈ p.Where → c.Lin.L.length ≤ 5864062014805
  ps : ∀ x, x ∈ p.Params → x.Dims.length ≤ 4294967296 ∧ ∀ l, l ∈ x.Dims → l.L.length ≤ 5864062014805
  ds : ∀ d, d ∈ p.Defs → d.okC
end Go.Br
end
