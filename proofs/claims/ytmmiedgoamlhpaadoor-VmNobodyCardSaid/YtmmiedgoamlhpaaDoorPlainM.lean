/-
  The machine in plain Lean: instructions, when they are well formed, what a step does.
  The machine in plain Lean, as the walks meet it: tables, validity.
  The machine's memory: one row of cells, and a slice.
  The machine in plain Lean, as the reference meets it.
  What the law gets: units of code, and actions. What it answers, in plain Lean.
  Three machines that the law runs always.
  Conditions: none.
-/
import Derived.Test.YtmmiedgoamlhpaaDoorPlain
import Derived.Test.YtmmiedgoamlhpaaDoorCfg
import Derived.Test.YtmmiedgoamlhpaaDoorEngZ
section
set_option linter.unusedSimpArgs false
set_option linter.unusedVariables false
namespace Go.Br
open Go Go.Eng Go.L41

structure In where
  Op : Int
  A : Int
  B : Int
  C : Int
  Val : Vl
  Ty : Ty
  deriving DecidableEq

def In.cells (x : In) : List Eng.C := [cI x.Op, cI x.A, cI x.B, cI x.C, cI x.Val.N, cI x.Val.D, cI x.Ty.Kind, cI x.Ty.Bits, cI x.Ty.Frac, cI x.Ty.Round, cI x.Ty.Over]
def Ty.cells (t : Ty) : List Eng.C := [cI t.Kind, cI t.Bits, cI t.Frac, cI t.Round, cI t.Over]
abbrev vIn (x : In) : V := .agg x.cells
abbrev vIns (l : List In) : V := .c (.sl 11 (l.map In.cells))
abbrev vTys (l : List Ty) : V := .c (.sl 5 (l.map Ty.cells))
abbrev vVals (l : List Vl) : V := .c (.sl 2 (l.map Vl.cells))
abbrev vIs (l : List Int) : V := .c (.sl 1 (l.map fun n => [cI n]))

/-! ## Well formed instructions -/
def opTab : List ByteArray := [bs [45, 45, 45], bs [120, 110, 45], bs [120, 120, 45], bs [120, 120, 120], bs [120, 120, 110], bs [120, 120, 120], bs [120, 120, 120], bs [116, 45, 45], bs [116, 120, 120], bs [114, 45, 45], bs [114, 120, 99], bs [114, 120, 99], bs [114, 114, 114], bs [114, 114, 45], bs [116, 114, 114], bs [120, 114, 109], bs [114, 120, 45]]
def fldB (k n : Int) : Bool :=
  bif decide (k = 45) then decide (n = 0) else bif decide (k = 120) || decide (k = 114) then decide (0 ≤ n) && decide (n ≤ 255) else
  bif decide (k = 116) then decide (0 ≤ n) && decide (n < 65536) else bif decide (k = 110) then num31 n else
  bif decide (k = 99) then decide (0 ≤ n) && decide (n ≤ 1048576) else decide (1 ≤ n) && decide (n ≤ 4096)
def numB (v : Vl) (a b : Int) : Bool := decide (v.D = 1) && decide (a ≤ v.N) && decide (v.N ≤ b)
def vaB (x : In) : Bool :=
  bif decide (x.Op = 9) then frOk x.Val else bif decide (x.Op = 10) || decide (x.Op = 11) then numB x.Val 0 x.C else
  bif decide (x.Op = 12) then numB x.Val 4 10 && (!decide (x.Val.N = 8) || decide (x.C = 0)) else bif decide (x.Op = 13) then numB x.Val 0 255 else
  bif decide (x.Op = 14) then numB x.Val 13 15 else val0 x.Val
def typedB (op : Int) : Bool := decide (op = 12) || decide (op = 13) || decide (op = 14)
def opAt (op : Int) (k : Nat) : Int := byteAt (opTab.getD op.toNat (bs [])) k
def knownB (op : Int) : Bool := decide (0 ≤ op) && decide (op < 17)
def fmd (x : In) : Bool :=
  knownB x.Op && (fldB (opAt x.Op 0) x.A && fldB (opAt x.Op 1) x.B && fldB (opAt x.Op 2) x.C && vaB x) && (bif typedB x.Op then tyOk x.Ty else ty0 x.Ty)
def jmpB (op : Int) : Bool := decide (op = 7) || decide (op = 8) || decide (op = 14)
def inOk (many types words : Int) (x : In) : Bool :=
  fmd x && !(jmpB x.Op && decide (many ≤ x.A)) && !((decide (x.Op = 10) || decide (x.Op = 11)) && decide (words < x.C)) && !(decide (x.Op = 13) && decide (types ≤ x.Val.N))

/-! The program's tables. -/
def skipK (x : In) (k : Int) : Bool := decide (k = 0) || (decide (k = 6) && decide (x.Op = 12) && decide (x.Val.N = 8))
def kinds (x : In) : List Int := (kTab.getD x.Op.toNat []).filter fun k => !skipK x k
def withinB (n a b : Int) : Bool := decide (a ≤ n) && decide (n ≤ b)
def fitsB (x : In) (k : Int) : Bool :=
  bif decide (k = 1) || decide (k = 4) then withinB x.A 0 255 else bif decide (k = 2) || decide (k = 5) then withinB x.B 0 255 else bif decide (k = 3) || decide (k = 6) then withinB x.C 0 255 else
  bif decide (k = 7) then withinB x.A 0 65535 else bif decide (k = 8) then withinB x.B (-2147483647) 2147483647 else bif decide (k = 9) then withinB x.C (-2147483647) 2147483647 else
  bif decide (k = 10) then withinB x.Val.N 0 x.C else bif decide (k = 11) then withinB x.C 0 1048576 else bif decide (k = 12) then withinB x.Val.N 0 255 else bif decide (k = 13) then withinB x.C 1 4096 else
  bif decide (k = 14) then frOk x.Val else bif decide (k = 15) then withinB x.Val.N 4 10 else bif decide (k = 16) then withinB x.Val.N 13 15 else tyOk x.Ty
def keepK (u x : In) (k : Int) : In :=
  bif decide (k = 1) || (decide (k = 4) || decide (k = 7)) then { u with A := x.A } else bif decide (k = 2) || (decide (k = 5) || decide (k = 8)) then { u with B := x.B } else
  bif decide (k = 3) || (decide (k = 6) || (decide (k = 9) || (decide (k = 11) || decide (k = 13)))) then { u with C := x.C } else
  bif decide (k = 10) || (decide (k = 12) || (decide (k = 15) || decide (k = 16))) then { u with Val := ⟨x.Val.N, 1⟩ } else bif decide (k = 14) then { u with Val := x.Val } else
  bif decide (k = 17) then { u with Ty := x.Ty } else u
def in0 (op : Int) : In := ⟨op, 0, 0, 0, ⟨0, 0⟩, ⟨0, 0, 0, 0, 0⟩⟩
def wfP (x : In) : Bool := knownB x.Op && ((kinds x).all (fitsB x) && decide ((kinds x).foldl (fun u k => keepK u x k) (in0 x.Op) = x))

theorem in_eq (a b : In) : (a = b) ↔ (a.Op = b.Op ∧ a.A = b.A ∧ a.B = b.B ∧ a.C = b.C ∧ (a.Val.N = b.Val.N ∧ a.Val.D = b.Val.D) ∧ (a.Ty.Kind = b.Ty.Kind ∧ a.Ty.Bits = b.Ty.Bits ∧ a.Ty.Frac = b.Ty.Frac ∧ a.Ty.Round = b.Ty.Round ∧ a.Ty.Over = b.Ty.Over)) := by
  obtain ⟨o, a1, b1, c1, ⟨n1, d1⟩, ⟨k1, k2, k3, k4, k5⟩⟩ := a
  obtain ⟨o', a1', b1', c1', ⟨n1', d1'⟩, ⟨k1', k2', k3', k4', k5'⟩⟩ := b
  simp only [In.mk.injEq, Vl.mk.injEq, Ty.mk.injEq]
theorem val0_iff (v : Vl) : val0 v = true ↔ v.N = 0 ∧ v.D = 0 := by simp [val0, litsEq, cEq]
theorem ty0_iff (t : Ty) : ty0 t = true ↔ t.Kind = 0 ∧ t.Bits = 0 ∧ t.Frac = 0 ∧ t.Round = 0 ∧ t.Over = 0 := by simp [ty0, litsEq, cEq]

theorem wf_fmd (x : In) : wfP x = fmd x := by
  unfold wfP fmd
  cases hk : knownB x.Op with
  | false => rfl
  | true =>
    simp only [knownB, Bool.and_eq_true, decide_eq_true_eq] at hk
    obtain ⟨o, a, b, c, ⟨n, d⟩, t⟩ := x
    have hc : o = 0 ∨ o = 1 ∨ o = 2 ∨ o = 3 ∨ o = 4 ∨ o = 5 ∨ o = 6 ∨ o = 7 ∨ o = 8 ∨ o = 9 ∨ o = 10 ∨ o = 11 ∨ o = 12 ∨ o = 13 ∨ o = 14 ∨ o = 15 ∨ o = 16 := by
      have := hk.1; have := hk.2; dsimp only at *; omega
    have hty : ∀ t' : Ty, (t = t') ↔ (t.Kind = t'.Kind ∧ t.Bits = t'.Bits ∧ t.Frac = t'.Frac ∧ t.Round = t'.Round ∧ t.Over = t'.Over) := by
      intro t'; cases t; cases t'; simp only [Ty.mk.injEq]
    rw [Bool.eq_iff_iff]
    have e8 : n = 8 ∨ ¬ n = 8 := Classical.em _
    rcases hc with rfl | rfl | rfl | rfl | rfl | rfl | rfl | rfl | rfl | rfl | rfl | rfl | rfl | rfl | rfl | rfl | rfl
    case inr.inr.inr.inr.inr.inr.inr.inr.inr.inr.inr.inr.inl =>
      rcases e8 with rfl | h8
      · simp [kinds, kTab, skipK, fitsB, keepK, in0, in_eq, opAt, opTab, byteAt, fldB, vaB, typedB, withinB, numB, num31, val0_iff, ty0_iff, -Bool.not_eq_true]
        try first | omega | (generalize tyOk t = p; cases p <;> first | (simp; done) | (simp; omega) | omega)
      · simp [kinds, kTab, skipK, fitsB, keepK, in0, in_eq, opAt, opTab, byteAt, fldB, vaB, typedB, withinB, numB, num31, val0_iff, ty0_iff, h8, -Bool.not_eq_true]
        try first | omega | (generalize tyOk t = p; cases p <;> first | (simp; done) | (simp; omega) | omega)
    all_goals
      simp [kinds, kTab, skipK, fitsB, keepK, in0, in_eq, opAt, opTab, byteAt, fldB, vaB, typedB, withinB, numB, num31, val0_iff, ty0_iff, -Bool.not_eq_true]
      try first | omega | (generalize tyOk t = p; cases p <;> first | (simp; done) | (simp; omega) | omega) | (generalize frOk ⟨n, d⟩ = q; cases q <;> first | (simp; done) | (simp; omega) | omega)

/-! ## Programs -/
def firstBad {α : Type} (p : α → Bool) (l : List α) : Int × Int := bif decide (idxOf p l = -1) then (0, 0) else (idxOf p l, 25)
def vld (code : List In) (tys : List Ty) (words : Int) : Int × Int :=
  bif decide ((65536 : Int) < code.length) then (0, 2) else bif !withinB words 0 1048576 then (0, 1) else bif tys.any (fun t => !tyOk t) then (0, 10) else
  firstBad (fun x => !inOk code.length tys.length words x) code

/-! ## The machine -/
structure Mc where
  code : List In
  tys : List Ty
  pc : Int
  X : List Int
  R : List Vl
  M : List Vl
  hl : Bool

namespace Mc
def gX (s : Mc) (i : Int) : Int := s.X.getD i.toNat 0
def gR (s : Mc) (i : Int) : Vl := s.R.getD i.toNat ⟨0, 0⟩
def gM (s : Mc) (i : Int) : Vl := s.M.getD i.toNat ⟨0, 0⟩
def sX (s : Mc) (i n : Int) : Mc := { s with X := s.X.set i.toNat n }
def sR (s : Mc) (i : Int) (v : Vl) : Mc := { s with R := s.R.set i.toNat v }
def sM (s : Mc) (i : Int) (v : Vl) : Mc := { s with M := s.M.set i.toNat v }
end Mc
def intV (s : Mc) (x : In) : Int :=
  bif decide (x.Op = 1) then x.B else bif decide (x.Op = 2) then s.gX x.B else bif decide (x.Op = 3) then IntKind.i64.wrap (s.gX x.B + s.gX x.C) else
  bif decide (x.Op = 4) then IntKind.i64.wrap (s.gX x.B * x.C) else bif decide (x.Op = 5) then min (s.gX x.B) (s.gX x.C) else
  bif decide (x.Op = 6) then max (s.gX x.B) (s.gX x.C) else max 0 (min (s.gR x.B).N (x.C - 1))
def memV (s : Mc) (x : In) : Mc × Int :=
  bif decide (s.gX x.B < x.Val.N) || decide (x.C ≤ s.gX x.B) then (s, 12) else
  bif decide (x.Op = 10) then (s.sR x.A (s.gM (s.gX x.B)), 0) else (s.sM (s.gX x.B) (s.gR x.A), 0)
def cptV (s : Mc) (x : In) : Vl × Int :=
  bif decide (x.Op = 9) then (x.Val, 0) else bif decide (x.Op = 12) then aplV x.Val.N x.Ty (s.gR x.B) (s.gR x.C) else
  bif decide (x.Op = 13) then cstV (s.tys.getD x.Val.N.toNat ⟨0, 0, 0, 0, 0⟩) x.Ty (s.gR x.B) else
  bif decide (2147483647 < s.gX x.B) || decide (s.gX x.B < -2147483647) then (⟨0, 0⟩, 3) else (⟨s.gX x.B, 1⟩, 0)
def cptM (s : Mc) (x : In) : Mc × Int := bif decide ((cptV s x).2 = 0) then (s.sR x.A (cptV s x).1, 0) else (s, (cptV s x).2)
/-- Is a jump taken? -/
def jmpV (s : Mc) (x : In) : Bool × Int :=
  bif decide (x.Op = 7) then (true, 0) else bif decide (x.Op = 8) then (decide (s.gX x.B < s.gX x.C), 0) else
  bif !(tyOk x.Ty && valOk x.Ty (s.gR x.B)) || !(tyOk x.Ty && valOk x.Ty (s.gR x.C)) then (false, 1) else
  (!((decide (cmpV x.Ty (s.gR x.B) (s.gR x.C) < 0) && !decide (x.Val.N = 15)) || (decide (cmpV x.Ty (s.gR x.B) (s.gR x.C) = 0) && !decide (x.Val.N = 13))), 0)
def zIn : In := in0 0
def Mc.ins (s : Mc) : In := s.code.getD s.pc.toNat zIn
def memB (op : Int) : Bool := decide (op = 10) || decide (op = 11)
def cptB (op : Int) : Bool := decide (op = 9) || decide (op = 12) || decide (op = 13) || decide (op = 16)
/-- What an instruction other than halt does: the machine but for its counter, and the error. -/
def doM (s : Mc) (x : In) : Mc × Int :=
  bif jmpB x.Op then (s, (jmpV s x).2) else bif memB x.Op then memV s x else bif cptB x.Op then cptM s x else (s.sX x.A (intV s x), 0)
def nextM (s : Mc) (x : In) : Int := bif jmpB x.Op && (jmpV s x).1 then x.A else s.pc + 1
def stepM (s : Mc) : Mc × Bool × Int :=
  bif s.hl then (s, false, 0) else bif decide ((s.code.length : Int) ≤ s.pc) then (s, false, 25) else
  bif decide (s.ins.Op = 0) then ({ s with hl := true }, false, 0) else
  bif decide ((doM s s.ins).2 = 0) then ({ (doM s s.ins).1 with pc := nextM s s.ins }, true, 0) else (s, false, (doM s s.ins).2)
def runM : Nat → Mc → Int → Mc × Int × Int
  | 0, s, n => bif s.hl then (s, n, 0) else (s, 0, 14)
  | k + 1, s, n => bif s.hl then (s, n, 0) else bif decide ((stepM s).2.2 = 0) then runM k (stepM s).1 (n + 1) else (s, 0, (stepM s).2.2)

/-- What every machine keeps. -/
structure Mc.Ok (s : Mc) (words : Int) : Prop where
  hc : ∀ x, x ∈ s.code → inOk s.code.length s.tys.length words x = true
  hp : 0 ≤ s.pc
  hn : s.code.length ≤ 65536
  hX : s.X.length = 256
  hR : s.R.length = 256
  hM : (s.M.length : Int) = words
  hw : words ≤ 1048576
  ht : ∀ t, t ∈ s.tys → tyOk t = true

theorem Mc.Ok.insOk {s : Mc} {w : Int} (h : s.Ok w) (hp : s.pc < s.code.length) : s.code[s.pc.toNat]? = some s.ins ∧ inOk s.code.length s.tys.length w s.ins = true := by
  have := h.hp
  have hl : s.pc.toNat < s.code.length := by omega
  have e : s.code[s.pc.toNat]? = some s.ins := by simp [Mc.ins, List.getD, List.getElem?_eq_getElem hl]
  exact ⟨e, h.hc _ (List.mem_of_getElem? e)⟩

theorem Mc.Ok.setX {s : Mc} {w : Int} (h : s.Ok w) (i n : Int) : (s.sX i n).Ok w := ⟨h.hc, h.hp, h.hn, by simp [Mc.sX, h.hX], h.hR, h.hM, h.hw, h.ht⟩
theorem Mc.Ok.setR {s : Mc} {w : Int} (h : s.Ok w) (i : Int) (v : Vl) : (s.sR i v).Ok w := ⟨h.hc, h.hp, h.hn, h.hX, by simp [Mc.sR, h.hR], h.hM, h.hw, h.ht⟩
theorem Mc.Ok.setM {s : Mc} {w : Int} (h : s.Ok w) (i : Int) (v : Vl) : (s.sM i v).Ok w := ⟨h.hc, h.hp, h.hn, h.hX, h.hR, by simp [Mc.sM, h.hM], h.hw, h.ht⟩
theorem Mc.Ok.setPC {s : Mc} {w : Int} (h : s.Ok w) {n : Int} (hn : 0 ≤ n) : Mc.Ok { s with pc := n } w := ⟨h.hc, hn, h.hn, h.hX, h.hR, h.hM, h.hw, h.ht⟩
theorem Mc.Ok.halt {s : Mc} {w : Int} (h : s.Ok w) : Mc.Ok { s with hl := true } w := ⟨h.hc, h.hp, h.hn, h.hX, h.hR, h.hM, h.hw, h.ht⟩

theorem doM_ok {s : Mc} {w : Int} (h : s.Ok w) (x : In) : (doM s x).1.Ok w := by
  unfold doM
  cases jmpB x.Op with
  | true => exact h
  | false =>
    cases memB x.Op with
    | true =>
      show (memV s x).1.Ok w
      unfold memV
      cases (decide (s.gX x.B < x.Val.N) || decide (x.C ≤ s.gX x.B)) with
      | true => exact h
      | false => cases decide (x.Op = 10) with | true => exact h.setR _ _ | false => exact h.setM _ _
    | false =>
      cases cptB x.Op with
      | true =>
        show (cptM s x).1.Ok w
        unfold cptM
        cases decide ((cptV s x).2 = 0) with | true => exact h.setR _ _ | false => exact h
      | false => exact h.setX _ _

/-- The fields of an instruction of a valid program. -/
theorem fmd_parts {x : In} (h : fmd x = true) : 0 ≤ x.Op ∧ x.Op ≤ 16 ∧ (fldB (opAt x.Op 0) x.A = true ∧ fldB (opAt x.Op 1) x.B = true ∧ fldB (opAt x.Op 2) x.C = true) ∧ vaB x = true ∧ (typedB x.Op = true → tyOk x.Ty = true) := by
  simp only [fmd, knownB, Bool.and_eq_true, decide_eq_true_eq] at h
  obtain ⟨⟨h1, ⟨⟨h2, h3⟩, h4⟩, h5⟩, h6⟩ := h
  refine ⟨h1.1, by omega, ⟨h2, h3, h4⟩, h5, fun ht => ?_⟩
  rw [ht] at h6
  exact h6
theorem inOk_fmd {m t w : Int} {x : In} (h : inOk m t w x = true) : fmd x = true ∧ (jmpB x.Op = true → x.A < m) ∧ (memB x.Op = true → x.C ≤ w) ∧ (x.Op = 13 → x.Val.N < t) := by
  simp only [inOk, Bool.and_eq_true, Bool.not_eq_true', Bool.and_eq_false_iff, decide_eq_false_iff_not] at h
  obtain ⟨⟨⟨h1, h2⟩, h3⟩, h4⟩ := h
  refine ⟨h1, fun hj => ?_, fun hm => ?_, fun ho => ?_⟩
  · rcases h2 with h2 | h2
    · rw [hj] at h2; cases h2
    · omega
  · rcases h3 with h3 | h3
    · unfold memB at hm; rw [hm] at h3; cases h3
    · omega
  · rcases h4 with h4 | h4
    · exact absurd ho h4
    · omega
/-- The fields, kind by kind. -/
theorem fld_ops {x : In} (h : fmd x = true) :
    (jmpB x.Op = true → 0 ≤ x.A ∧ x.A < 65536) ∧
    (jmpB x.Op = false → x.Op ≠ 0 → 0 ≤ x.A ∧ x.A ≤ 255) ∧
    (x.Op ≠ 0 → x.Op ≠ 1 → x.Op ≠ 7 → x.Op ≠ 9 → 0 ≤ x.B ∧ x.B ≤ 255) ∧
    (x.Op = 3 ∨ x.Op = 5 ∨ x.Op = 6 ∨ x.Op = 8 ∨ x.Op = 12 ∨ x.Op = 14 → 0 ≤ x.C ∧ x.C ≤ 255) ∧
    (memB x.Op = true → 0 ≤ x.C ∧ x.C ≤ 1048576 ∧ 0 ≤ x.Val.N ∧ x.Val.N ≤ x.C) ∧
    (x.Op = 12 → 4 ≤ x.Val.N ∧ x.Val.N ≤ 10) ∧ (x.Op = 13 → 0 ≤ x.Val.N ∧ x.Val.N ≤ 255) ∧ (x.Op = 14 → 13 ≤ x.Val.N ∧ x.Val.N ≤ 15) ∧
    (x.Op = 15 → 1 ≤ x.C ∧ x.C ≤ 4096) ∧ (x.Op = 1 → -2147483647 ≤ x.B ∧ x.B ≤ 2147483647) ∧ (x.Op = 4 → -2147483647 ≤ x.C ∧ x.C ≤ 2147483647) ∧ (x.Op = 9 → frOk x.Val = true) := by
  obtain ⟨h1, h2, ⟨ha, hb, hc⟩, hv, _⟩ := fmd_parts h
  obtain ⟨o, a, b, c, ⟨n, d⟩, t⟩ := x
  dsimp only at *
  have hcs : o = 0 ∨ o = 1 ∨ o = 2 ∨ o = 3 ∨ o = 4 ∨ o = 5 ∨ o = 6 ∨ o = 7 ∨ o = 8 ∨ o = 9 ∨ o = 10 ∨ o = 11 ∨ o = 12 ∨ o = 13 ∨ o = 14 ∨ o = 15 ∨ o = 16 := by omega
  rcases hcs with rfl | rfl | rfl | rfl | rfl | rfl | rfl | rfl | rfl | rfl | rfl | rfl | rfl | rfl | rfl | rfl | rfl
  all_goals
    simp [opAt, opTab, byteAt, fldB, vaB, numB, num31, jmpB, memB] at ha hb hc hv ⊢
    try first | omega | exact ⟨ha, hv⟩
theorem stepM_ok {s : Mc} {w : Int} (h : s.Ok w) : (stepM s).1.Ok w := by
  unfold stepM
  cases s.hl with
  | true => exact h
  | false =>
    by_cases hp : (s.code.length : Int) ≤ s.pc
    · rw [decide_eq_true hp]; exact h
    · rw [dec_false hp]
      cases decide (s.ins.Op = 0) with
      | true => exact h.halt
      | false =>
        cases decide ((doM s s.ins).2 = 0) with
        | true =>
          refine (doM_ok h s.ins).setPC ?_
          unfold nextM
          have hA := fld_ops (inOk_fmd (h.insOk (by omega)).2).1
          have := h.hp
          cases hj : jmpB s.ins.Op with
          | true => have := hA.1 hj; cases (jmpV s s.ins).1 <;> simp <;> omega
          | false => simp; omega
        | false => exact h
theorem runM_ok : ∀ (k : Nat) {s : Mc} {w : Int} (n : Int), s.Ok w → (runM k s n).1.Ok w
  | 0, s, w, n, h => by unfold runM; cases s.hl <;> exact h
  | k + 1, s, w, n, h => by
    unfold runM
    cases s.hl with
    | true => exact h
    | false =>
      cases decide ((stepM s).2.2 = 0) with
      | true => exact runM_ok k (n + 1) (stepM_ok h)
      | false => exact h

/-! ## Calls from outside -/
def hold (s : Mc) (at_ many : Int) : Bool := decide (0 ≤ at_) && decide (0 ≤ many) && decide (at_ ≤ s.M.length) && decide (many ≤ s.M.length - at_)
def runX (s : Mc) (fuel : Int) : Mc × Int × Int := bif decide (fuel < 0) || decide (16777216 < fuel) then (s, 0, 1) else runM fuel.toNat s 0
theorem runX_ok {s : Mc} {w : Int} (h : s.Ok w) (f : Int) : (runX s f).1.Ok w := by
  unfold runX
  cases (decide (f < 0) || decide (16777216 < f)) with
  | true => exact h
  | false => exact runM_ok _ _ h
def newM (code : List In) (tys : List Ty) (words : Int) : Mc := ⟨code, tys, 0, List.replicate 256 0, List.replicate 256 ⟨0, 1⟩, List.replicate words.toNat ⟨0, 1⟩, false⟩
end Go.Br
end
section
set_option linter.unusedSimpArgs false
set_option linter.unusedVariables false
namespace Go.Br
open Go Go.Eng Go.L41

abbrev kRow (op : Int) : List Int := kTab.getD op.toNat []
theorem known_in {op : Int} (h : knownB op = true) : 0 ≤ op ∧ op < 17 := by simpa [knownB] using h
theorem kRow_len {op : Int} (h0 : 0 ≤ op) (h : op < 17) : (kRow op).length = 5 := tab_len _ (by omega)
theorem kRow_at {op : Int} {k : Nat} {x : Int} (h : (kRow op)[k]? = some x) : (List.map C.lit ((kRow op).map fun n => Value.int .i64 n))[((k : Int)).toNat]? = some (cI x) := by
  show (List.map C.lit ((kRow op).map fun n => Value.int .i64 n))[k]? = _
  rw [List.getElem?_map, List.getElem?_map, h]; rfl
theorem filt_no {α : Type} {p : α → Bool} {l : List α} {k : Nat} {x : α} (h : l[k]? = some x) (hp : p x = false) : (l.take (k + 1)).filter p = (l.take k).filter p := by
  rw [take_next h, List.filter_append]; simp [hp]
theorem filt_yes {α : Type} {p : α → Bool} {l : List α} {k : Nat} {x : α} (h : l[k]? = some x) (hp : p x = true) : (l.take (k + 1)).filter p = (l.take k).filter p ++ [x] := by
  rw [take_next h, List.filter_append]; simp [hp]
theorem kinds_all {x : In} {k : Nat} (h : ¬ k < (kRow x.Op).length) : ((kRow x.Op).take k).filter (fun k => !skipK x k) = kinds x := by
  rw [take_all h]; rfl
theorem ty_dec (t : Ty) : decide (tyErr t = 0) = tyOk t := by
  unfold tyErr
  cases tyOk t <;> rfl
theorem skip_eq {x : In} {q : Int} : (decide (q = 0) || ((decide (q = 6) && decide (x.Op = 12)) && decide (x.Val.N = 8))) = skipK x q := rfl
theorem jmp_tab {op : Int} (h0 : 0 ≤ op) (h : op < 17) : (kRow op).any (fun k => decide (k = 7)) = jmpB op := by
  rcases (show op = 0 ∨ op = 1 ∨ op = 2 ∨ op = 3 ∨ op = 4 ∨ op = 5 ∨ op = 6 ∨ op = 7 ∨ op = 8 ∨ op = 9 ∨ op = 10 ∨ op = 11 ∨ op = 12 ∨ op = 13 ∨ op = 14 ∨ op = 15 ∨ op = 16 by omega) with rfl | rfl | rfl | rfl | rfl | rfl | rfl | rfl | rfl | rfl | rfl | rfl | rfl | rfl | rfl | rfl | rfl <;> rfl
theorem jmp_out {op : Int} (h : knownB op = false) : jmpB op = false := by
  simp only [knownB, Bool.and_eq_false_iff, decide_eq_false_iff_not] at h
  simp [jmpB]; omega
theorem in_lits (a b : In) : litsEq a.cells b.cells = decide (a = b) := by
  rw [Bool.eq_iff_iff, decide_eq_true_eq, in_eq]
  simp [litsEq, cEq, In.cells, and_assoc]
theorem wf_yes {x : In} (hk : knownB x.Op = true) (h1 : (kinds x).all (fitsB x) = true) : decide ((kinds x).foldl (fun u k => keepK u x k) (in0 x.Op) = x) = wfP x := by rw [wfP, hk, h1]; rfl
theorem wf_no {x : In} {k : Nat} {q : Int} (hx : (kinds x)[k]? = some q) (h : fitsB x q = false) : wfP x = false := by
  rw [wfP, show (kinds x).all (fitsB x) = false from List.all_eq_false.2 ⟨q, mem_of_get hx, by simp [h]⟩]; simp
theorem all_next {α : Type} {p : α → Bool} {l : List α} {k : Nat} {x : α} (h : l[k]? = some x) (hn : (l.take k).all p = true) (hp : p x = true) : (l.take (k + 1)).all p = true := by
  rw [take_next h, List.all_append, hn]; simp [hp]

/-! ## Validity -/
theorem val1 {x : In} {m t w : Int} (h : wfP x = false) : inOk m t w x = false := by rw [inOk, ← wf_fmd, h]; rfl
theorem val2 {x : In} {m t w : Int} (h : wfP x = true) (hj : jmpB x.Op = true) : decide (x.A < m) = inOk m t w x := by
  rw [inOk, ← wf_fmd, h, hj]
  simp only [jmpB, Bool.or_eq_true, decide_eq_true_eq] at hj
  rw [Bool.eq_iff_iff]
  simp; omega
theorem val3 {x : In} {m t w : Int} (h : wfP x = true) (hj : jmpB x.Op = false) (h3 : x.Op = 10 ∨ x.Op = 11) : decide (x.C ≤ w) = inOk m t w x := by
  rw [inOk, ← wf_fmd, h, hj]
  rw [Bool.eq_iff_iff]
  simp; omega
theorem val4 {x : In} {m t w : Int} (h : wfP x = true) (hj : jmpB x.Op = false) (h4 : x.Op = 13) : decide (x.Val.N < t) = inOk m t w x := by
  rw [inOk, ← wf_fmd, h, hj]
  rw [Bool.eq_iff_iff]
  simp; omega
theorem val5 {x : In} {m t w : Int} (h : wfP x = true) (hj : jmpB x.Op = false) (h3 : ¬ (x.Op = 10 ∨ x.Op = 11)) (h4 : ¬ x.Op = 13) : inOk m t w x = true := by
  rw [inOk, ← wf_fmd, h, hj]
  simp; omega
theorem vld1 {code : List In} {tys : List Ty} {w : Int} (h : (65536 : Int) < code.length) : vld code tys w = (0, 2) := by rw [vld, decide_eq_true h]; rfl
theorem vld2 {code : List In} {tys : List Ty} {w : Int} (h : ¬ (65536 : Int) < code.length) (h2 : withinB w 0 1048576 = false) : vld code tys w = (0, 1) := by rw [vld, dec_false h, h2]; rfl
theorem vld3 {code : List In} {tys : List Ty} {w : Int} (h : ¬ (65536 : Int) < code.length) (h2 : withinB w 0 1048576 = true) {t : Ty} {k : Nat} (ht : tys[k]? = some t) (h3 : tyOk t = false) : vld code tys w = (0, 10) := by
  rw [vld, dec_false h, h2, show tys.any (fun t => !tyOk t) = true from List.any_eq_true.2 ⟨t, mem_of_get ht, by simp [h3]⟩]; rfl
theorem vldF {code : List In} {tys : List Ty} {w : Int} (h : ¬ (65536 : Int) < code.length) (h2 : withinB w 0 1048576 = true) (h3 : tys.any (fun t => !tyOk t) = false) : vld code tys w = firstBad (fun x => !inOk code.length tys.length w x) code := by rw [vld, dec_false h, h2, h3]; rfl
theorem firstBad_at {α : Type} {p : α → Bool} {l : List α} {k : Nat} {x : α} (h : l[k]? = some x) (hp : p x = true) (hn : (l.take k).any p = false) : firstBad p l = ((k : Int), 25) := by
  rw [firstBad, idxOf_at h hp hn, dec_false (by omega)]; rfl
theorem firstBad_no {α : Type} {p : α → Bool} {l : List α} {k : Nat} (hk : ¬ k < l.length) (hn : (l.take k).any p = false) : firstBad p l = (0, 0) := by
  rw [take_all hk] at hn
  rw [firstBad, idxOf_none hn]; rfl
theorem vld_ok {code : List In} {tys : List Ty} {w : Int} (h : (vld code tys w).2 = 0) : code.length ≤ 65536 ∧ 0 ≤ w ∧ w ≤ 1048576 ∧ (∀ t, t ∈ tys → tyOk t = true) ∧ ∀ x, x ∈ code → inOk code.length tys.length w x = true := by
  by_cases h1 : (65536 : Int) < code.length
  · rw [vld1 h1] at h; cases h
  · cases h2 : withinB w 0 1048576 with
    | false => rw [vld2 h1 h2] at h; cases h
    | true =>
      cases h3 : tys.any (fun t => !tyOk t) with
      | true => rw [vld, dec_false h1, h2, h3] at h; cases h
      | false =>
        rw [vldF h1 h2 h3, firstBad] at h
        have h4 : code.any (fun x => !inOk code.length tys.length w x) = false := by
          rw [← idxOf_any]
          have := idxOf_ge (fun x => !inOk code.length tys.length w x) code
          by_cases h5 : idxOf (fun x => !inOk code.length tys.length w x) code = -1
          · rw [h5]; rfl
          · rw [dec_false h5] at h; cases h
        simp only [withinB, Bool.and_eq_true, decide_eq_true_eq] at h2
        rw [List.any_eq_false] at h3 h4
        exact ⟨by omega, h2.1, h2.2, fun t ht => by simpa using h3 t ht, fun x hx => by simpa using h4 x hx⟩

/-! ## The reference's tables -/
end Go.Br
end
section
set_option linter.unusedSimpArgs false
set_option linter.unusedVariables false
namespace Go.Br
open Go Go.Eng Go.L41

def xsC (l : List Int) : List Eng.C := l.map cI
def rsC (l : List Vl) : List Eng.C := (l.map Vl.cells).flatten
def mcC (sv : Value) (s : Mc) : List Eng.C := .lit (.bool true) :: .sl 11 (s.code.map In.cells) :: .sl 5 (s.tys.map Ty.cells) :: .lit sv :: (xsC s.X ++ (rsC s.R ++ [cI s.pc, .lit (.bool s.hl)]))
abbrev mcE (b : Nat) (sv : Value) (s : Mc) : List E := [.row b 36 (mcC sv s), .vec sv 33 2 (s.M.map Vl.cells)]
abbrev vPt (b : Nat) : V := .c (.lit (.pointer (some ⟨b, 0, none⟩)))
theorem rsC_len (l : List Vl) : (rsC l).length = l.length * 2 := by
  unfold rsC
  induction l with
  | nil => rfl
  | cons v l ih => rw [List.map_cons, List.flatten_cons, List.length_append, ih]; simp [Vl.cells]; omega
theorem xsC_len (l : List Int) : (xsC l).length = l.length := by simp [xsC]
theorem rsC_at0 : ∀ {l : List Vl} {i : Nat} {v : Vl}, l[i]? = some v → (rsC l)[i * 2]? = some (cI v.N) ∧ (rsC l)[i * 2 + 1]? = some (cI v.D)
  | [], i, v, h => by simp at h
  | x :: l, 0, v, h => by
    simp only [List.getElem?_cons_zero, Option.some.injEq] at h
    subst h
    exact ⟨rfl, rfl⟩
  | x :: l, i + 1, v, h => by
    have ih := rsC_at0 (l := l) (i := i) (v := v) (by simpa using h)
    have e : rsC (x :: l) = cI x.N :: cI x.D :: rsC l := rfl
    rw [e, show (i + 1) * 2 = i * 2 + 1 + 1 by omega]
    exact ⟨by simpa using ih.1, by simpa using ih.2⟩
theorem gX_at {s : Mc} {i : Int} (h : i.toNat < s.X.length) : s.X[i.toNat]? = some (s.gX i) := by
  simp [Mc.gX, List.getD, List.getElem?_eq_getElem h]
theorem gR_at {s : Mc} {i : Int} (h : i.toNat < s.R.length) : s.R[i.toNat]? = some (s.gR i) := by
  simp [Mc.gR, List.getD, List.getElem?_eq_getElem h]
theorem gM_at {s : Mc} {i : Int} (h : i.toNat < s.M.length) : s.M[i.toNat]? = some (s.gM i) := by
  simp [Mc.gM, List.getD, List.getElem?_eq_getElem h]
theorem mc_len {sv : Value} {s : Mc} {w : Int} (hs : s.Ok w) : (mcC sv s).length = 774 := by
  simp [mcC, xsC_len, rsC_len, hs.hX, hs.hR]
theorem mc_X {sv : Value} {s : Mc} {w : Int} (hs : s.Ok w) {i : Int} (h0 : 0 ≤ i) (h : i < 256) : (mcC sv s).drop (4 + i.toNat * 1) = cI (s.gX i) :: (mcC sv s).drop (4 + i.toNat * 1 + 1) := by
  refine drop_cons ?_
  have e : (mcC sv s)[4 + i.toNat * 1]? = (xsC s.X ++ (rsC s.R ++ [cI s.pc, .lit (.bool s.hl)]))[i.toNat]? := by
    rw [show 4 + i.toNat * 1 = i.toNat + 1 + 1 + 1 + 1 by omega]; rfl
  have hl : i.toNat < s.X.length := by rw [hs.hX]; omega
  rw [e, List.getElem?_append_left (by rw [xsC_len]; exact hl), xsC, List.getElem?_map, gX_at hl]; rfl
theorem mc_Rk {sv : Value} {s : Mc} {w : Int} (hs : s.Ok w) (k : Nat) (hk : k < 512) : (mcC sv s)[260 + k]? = (rsC s.R)[k]? := by
  have e : (mcC sv s)[260 + k]? = (xsC s.X ++ (rsC s.R ++ [cI s.pc, .lit (.bool s.hl)]))[256 + k]? := by
    rw [show 260 + k = 256 + k + 1 + 1 + 1 + 1 by omega]; rfl
  rw [e, List.getElem?_append_right (by rw [xsC_len, hs.hX]; omega), xsC_len, hs.hX, Nat.add_sub_cancel_left, List.getElem?_append_left (by rw [rsC_len, hs.hR]; omega)]
theorem mc_R {sv : Value} {s : Mc} {w : Int} (hs : s.Ok w) {i : Int} (h0 : 0 ≤ i) (h : i < 256) : (mcC sv s).drop (260 + i.toNat * 2) = (s.gR i).cells ++ (mcC sv s).drop (260 + i.toNat * 2 + 1 + 1) := by
  have hl : i.toNat < s.R.length := by rw [hs.hR]; omega
  obtain ⟨a0, a1⟩ := rsC_at0 (gR_at hl)
  rw [drop_cons (x := cI (s.gR i).N) (by rw [mc_Rk hs _ (by omega)]; exact a0), drop_cons (l := mcC sv s) (k := 260 + i.toNat * 2 + 1) (x := cI (s.gR i).D) (by rw [Nat.add_assoc, mc_Rk hs _ (by omega)]; exact a1)]
  rfl
theorem mc_RN {sv : Value} {s : Mc} {w : Int} (hs : s.Ok w) {i : Int} (h0 : 0 ≤ i) (h : i < 256) : (mcC sv s).drop (260 + i.toNat * 2 + 0) = cI (s.gR i).N :: (cI (s.gR i).D :: (mcC sv s).drop (260 + i.toNat * 2 + 1 + 1)) := by
  rw [Nat.add_zero, mc_R hs h0 h]; rfl
theorem mc_tail {sv : Value} {s : Mc} {w : Int} (hs : s.Ok w) : (mcC sv s).drop 772 = [cI s.pc, .lit (.bool s.hl)] := by
  have e : mcC sv s = (.lit (.bool true) :: .sl 11 (s.code.map In.cells) :: .sl 5 (s.tys.map Ty.cells) :: .lit sv :: (xsC s.X ++ rsC s.R)) ++ [cI s.pc, .lit (.bool s.hl)] := by simp [mcC]
  rw [e]
  refine List.drop_left' ?_
  simp [xsC_len, rsC_len, hs.hX, hs.hR]
theorem mc_pc {sv : Value} {s : Mc} {w : Int} (hs : s.Ok w) : (mcC sv s).drop (0 + 772) = cI s.pc :: [.lit (.bool s.hl)] := mc_tail hs
theorem mc_hl {sv : Value} {s : Mc} {w : Int} (hs : s.Ok w) : (mcC sv s).drop (0 + 773) = .lit (.bool s.hl) :: [] := by
  rw [show 0 + 773 = 772 + 1 from rfl, ← List.drop_drop, mc_tail hs]; rfl
/-! ## Writing -/
theorem spl_app : ∀ (A B new : List Eng.C) (o : Nat), spl (A ++ B) (A.length + o) new = A ++ spl B o new
  | [], B, new, o => by simp
  | a :: A, B, new, o => by
    rw [List.length_cons, List.cons_append, show A.length + 1 + o = (A.length + o) + 1 by omega, spl, spl_app A B new o]; rfl
theorem spl_pre : ∀ (B D new : List Eng.C) (o : Nat), o + new.length ≤ B.length → spl (B ++ D) o new = spl B o new ++ D
  | B, D, new, 0, h => by
    cases B <;> simp only [spl, List.nil_append, List.cons_append] <;> (try rw [← List.cons_append]) <;> simp only [List.append_assoc] <;> congr 1
    · simp at h; subst h; simp
    · rw [List.drop_append_of_le_length (by simpa using h)]
  | [], D, new, o + 1, h => by simp at h
  | b :: B, D, new, o + 1, h => by
    rw [List.cons_append, spl, spl, spl_pre B D new o (by simp at h; omega)]; rfl
theorem spl_xs : ∀ (l : List Int) (i : Nat) (n : Int), i < l.length → spl (xsC l) i [cI n] = xsC (l.set i n)
  | [], i, n, h => by simp at h
  | x :: l, 0, n, _ => by simp [xsC, spl]
  | x :: l, i + 1, n, h => by
    have := spl_xs l i n (by simpa using h)
    simp only [xsC, List.map_cons, spl, List.set_cons_succ] at this ⊢
    rw [this]
theorem spl_rs : ∀ (l : List Vl) (i : Nat) (v : Vl), i < l.length → spl (rsC l) (i * 2) v.cells = rsC (l.set i v)
  | [], i, v, h => by simp at h
  | x :: l, 0, v, _ => rfl
  | x :: l, i + 1, v, h => by
    have ih := spl_rs l i v (by simpa using h)
    have e : rsC (x :: l) = [cI x.N, cI x.D] ++ rsC l := rfl
    have e2 : rsC ((x :: l).set (i + 1) v) = [cI x.N, cI x.D] ++ rsC (l.set i v) := rfl
    rw [e, e2, show (i + 1) * 2 = [cI x.N, cI x.D].length + i * 2 by simp; omega, spl_app, ih]
theorem mc_sX {sv : Value} {s : Mc} {w : Int} (hs : s.Ok w) {i : Int} (n : Int) (h0 : 0 ≤ i) (h : i < 256) : spl (mcC sv s) (0 + 4 + i.toNat * 1) [cI n] = mcC sv (s.sX i n) := by
  have hl : i.toNat < s.X.length := by rw [hs.hX]; omega
  rw [show 0 + 4 + i.toNat * 1 = i.toNat + 1 + 1 + 1 + 1 by omega]
  simp only [mcC, spl]
  rw [spl_pre _ _ _ _ (by rw [xsC_len]; simp; omega), spl_xs _ _ _ hl]; rfl
theorem mc_sR {sv : Value} {s : Mc} {w : Int} (hs : s.Ok w) {i : Int} (v : Vl) (h0 : 0 ≤ i) (h : i < 256) : spl (mcC sv s) (0 + 260 + i.toNat * 2) [cI v.N, cI v.D] = mcC sv (s.sR i v) := by
  have hl : i.toNat < s.R.length := by rw [hs.hR]; omega
  rw [show 0 + 260 + i.toNat * 2 = ((xsC s.X).length + i.toNat * 2) + 1 + 1 + 1 + 1 by rw [xsC_len, hs.hX]; omega]
  simp only [mcC, spl]
  rw [spl_app, spl_pre _ _ _ _ (by rw [rsC_len]; simp; omega), show [cI v.N, cI v.D] = v.cells from rfl, spl_rs _ _ _ hl]; rfl
theorem mc_st {sv : Value} {s : Mc} {w : Int} (hs : s.Ok w) (o : Nat) (new : List Eng.C) : spl (mcC sv s) (772 + o) new = (.lit (.bool true) :: .sl 11 (s.code.map In.cells) :: .sl 5 (s.tys.map Ty.cells) :: .lit sv :: (xsC s.X ++ (rsC s.R ++ spl [cI s.pc, .lit (.bool s.hl)] o new))) := by
  rw [show 772 + o = ((xsC s.X).length + ((rsC s.R).length + o)) + 1 + 1 + 1 + 1 by rw [xsC_len, hs.hX, rsC_len, hs.hR]; omega]
  simp only [mcC, spl]
  rw [spl_app, spl_app]
theorem mc_sPC {sv : Value} {s : Mc} {w : Int} (hs : s.Ok w) (n : Int) : spl (mcC sv s) (0 + 772) [cI n] = mcC sv { s with pc := n } := by
  rw [show 0 + 772 = 772 + 0 from rfl, mc_st hs]; rfl
theorem mc_sHL {sv : Value} {s : Mc} {w : Int} (hs : s.Ok w) : spl (mcC sv s) (0 + 773) [.lit (.bool true)] = mcC sv { s with hl := true } := by
  rw [show 0 + 773 = 772 + 1 from rfl, mc_st hs]; rfl
theorem mc_arr {sv : Value} {s : Mc} {w : Int} (hs : s.Ok w) : (mcC sv s).drop (0 + 4) = xsC s.X ++ (rsC s.R ++ [cI s.pc, .lit (.bool s.hl)]) := rfl
theorem xs_rows (l : List Int) : ((xsC l).map fun c => [c]) = l.map fun n => [cI n] := by simp [xsC]
theorem rows_lit (l : List Int) : (l.map fun n => [cI n]).all (fun r => r.all litC) = true := by
  rw [List.all_map, List.all_eq_true]; intro x _; rfl
theorem set_row {l : List Vl} {i : Nat} {x v : Vl} : (l.map Vl.cells).set i (spl x.cells 0 [cI v.N, cI v.D]) = (l.set i v).map Vl.cells := by
  rw [List.map_set]; rfl
/-! ## What kinds of instructions need -/
theorem int_facts {x : In} (hx : fmd x = true) (ho : jmpB x.Op = false ∧ memB x.Op = false ∧ cptB x.Op = false ∧ x.Op ≠ 0) :
    (0 ≤ x.A ∧ x.A ≤ 255) ∧ (x.Op ≠ 1 → 0 ≤ x.B ∧ x.B ≤ 255) ∧ (x.Op = 3 ∨ x.Op = 5 ∨ x.Op = 6 → 0 ≤ x.C ∧ x.C ≤ 255) ∧ (x.Op = 15 → 1 ≤ x.C ∧ x.C ≤ 4096) ∧ (x.Op = 1 ∨ x.Op = 2 ∨ x.Op = 3 ∨ x.Op = 4 ∨ x.Op = 5 ∨ x.Op = 6 ∨ x.Op = 15) := by
  obtain ⟨f1, f2, f3, f4, f5, f6, f7, f8, f9, f10, f11, f12⟩ := fld_ops hx
  obtain ⟨h1, h2, h3, h4⟩ := ho
  have hr := fmd_parts hx
  have a := f2 h1 h4
  simp only [jmpB, memB, cptB, Bool.or_eq_false_iff, decide_eq_false_iff_not] at h1 h2 h3
  exact ⟨a, fun h => f3 h4 h (by omega) (by omega), fun h => f4 (by omega), f9, by omega⟩
theorem mem_facts {x : In} (hx : fmd x = true) (ho : memB x.Op = true) : (0 ≤ x.A ∧ x.A ≤ 255) ∧ (0 ≤ x.B ∧ x.B ≤ 255) ∧ (0 ≤ x.C ∧ x.C ≤ 1048576 ∧ 0 ≤ x.Val.N ∧ x.Val.N ≤ x.C) ∧ (x.Op = 10 ∨ x.Op = 11) := by
  obtain ⟨f1, f2, f3, f4, f5, f6, f7, f8, f9, f10, f11, f12⟩ := fld_ops hx
  have h5 := f5 ho
  have h : x.Op = 10 ∨ x.Op = 11 := by simpa [memB] using ho
  exact ⟨f2 (by simp [jmpB]; omega) (by omega), f3 (by omega) (by omega) (by omega) (by omega), h5, h⟩
theorem cpt_facts {x : In} (hx : fmd x = true) (ho : cptB x.Op = true) : (0 ≤ x.A ∧ x.A ≤ 255) ∧ (x.Op ≠ 9 → 0 ≤ x.B ∧ x.B ≤ 255) ∧ (x.Op = 12 → 0 ≤ x.C ∧ x.C ≤ 255) ∧ (x.Op = 13 → 0 ≤ x.Val.N ∧ x.Val.N ≤ 255) ∧ (x.Op = 9 ∨ x.Op = 12 ∨ x.Op = 13 ∨ x.Op = 16) := by
  obtain ⟨f1, f2, f3, f4, f5, f6, f7, f8, f9, f10, f11, f12⟩ := fld_ops hx
  have h : x.Op = 9 ∨ x.Op = 12 ∨ x.Op = 13 ∨ x.Op = 16 := by simp [cptB] at ho; omega
  exact ⟨f2 (by simp [jmpB]; omega) (by omega), fun h9 => f3 (by omega) (by omega) (by omega) h9, fun h => f4 (by omega), f7, h⟩
theorem jmp_facts {x : In} (hx : fmd x = true) (ho : jmpB x.Op = true) : (0 ≤ x.A ∧ x.A < 65536) ∧ (x.Op ≠ 7 → (0 ≤ x.B ∧ x.B ≤ 255) ∧ 0 ≤ x.C ∧ x.C ≤ 255) ∧ (x.Op = 14 → 13 ≤ x.Val.N ∧ x.Val.N ≤ 15) ∧ (x.Op = 7 ∨ x.Op = 8 ∨ x.Op = 14) := by
  obtain ⟨f1, f2, f3, f4, f5, f6, f7, f8, f9, f10, f11, f12⟩ := fld_ops hx
  have h : x.Op = 7 ∨ x.Op = 8 ∨ x.Op = 14 := by simp [jmpB] at ho; omega
  exact ⟨f1 ho, fun h7 => ⟨f3 (by omega) (by omega) (by omega) (by omega), f4 (by omega)⟩, f8, h⟩
theorem low8_eq {b : Int} (h0 : 0 ≤ b) (h : b ≤ 255) : low8 b = b := (and255 b).2.2 h0 h
theorem low8_0 (b : Int) : 0 ≤ low8 b := (and255 b).1
theorem low8_1 (b : Int) : low8 b < ((256 : Nat) : Int) := (and255 b).2.1
theorem intv1 {s : Mc} {x : In} (h : x.Op = 1) : intV s x = x.B := by unfold intV; rw [h]; rfl
theorem intv2 {s : Mc} {x : In} (h : x.Op = 2) (hB : low8 x.B = x.B) : intV s x = s.gX (low8 x.B) := by unfold intV; rw [h, hB]; rfl
theorem intv3 {s : Mc} {x : In} (h : x.Op = 3) (hB : low8 x.B = x.B) (hC : low8 x.C = x.C) : intV s x = IntKind.i64.wrap (s.gX (low8 x.B) + s.gX (low8 x.C)) := by unfold intV; rw [h, hB, hC]; rfl
theorem intv4 {s : Mc} {x : In} (h : x.Op = 4) (hB : low8 x.B = x.B) : intV s x = IntKind.i64.wrap (s.gX (low8 x.B) * x.C) := by unfold intV; rw [h, hB]; rfl
theorem intv5 {s : Mc} {x : In} (h : x.Op = 5) (hB : low8 x.B = x.B) (hC : low8 x.C = x.C) : intV s x = min (s.gX (low8 x.B)) (s.gX (low8 x.C)) := by unfold intV; rw [h, hB, hC]; rfl
theorem intv6 {s : Mc} {x : In} (h : x.Op = 6) (hB : low8 x.B = x.B) (hC : low8 x.C = x.C) : intV s x = max (s.gX (low8 x.B)) (s.gX (low8 x.C)) := by unfold intV; rw [h, hB, hC]; rfl
theorem intv7 {s : Mc} {x : In} (h : x.Op = 15) : intV s x = max 0 (min (s.gR x.B).N (x.C - 1)) := by unfold intV; rw [h]; rfl
theorem memv1 {s : Mc} {x : In} (h : (decide (s.gX x.B < x.Val.N) || decide (x.C ≤ s.gX x.B)) = true) : memV s x = (s, 12) := by unfold memV; rw [h]; rfl
theorem memv2 {s : Mc} {x : In} (h : (decide (s.gX x.B < x.Val.N) || decide (x.C ≤ s.gX x.B)) = false) (h2 : x.Op = 10) : memV s x = (s.sR x.A (s.gM (s.gX x.B)), 0) := by unfold memV; rw [h, decide_eq_true h2]; rfl
theorem memv3 {s : Mc} {x : In} (h : (decide (s.gX x.B < x.Val.N) || decide (x.C ≤ s.gX x.B)) = false) (h2 : ¬ x.Op = 10) : memV s x = (s.sM (s.gX x.B) (s.gR x.A), 0) := by unfold memV; rw [h, dec_false h2]; rfl
theorem mem_rng {s : Mc} {x : In} (h : (decide (s.gX x.B < x.Val.N) || decide (x.C ≤ s.gX x.B)) = false) : x.Val.N ≤ s.gX x.B ∧ s.gX x.B < x.C := by
  simp only [Bool.or_eq_false_iff, decide_eq_false_iff_not] at h; omega
theorem cptv1 {s : Mc} {x : In} (h : x.Op = 9) : cptV s x = (x.Val, 0) := by unfold cptV; rw [h]; rfl
theorem cptv2 {s : Mc} {x : In} (h : x.Op = 12) : cptV s x = aplV x.Val.N x.Ty (s.gR x.B) (s.gR x.C) := by unfold cptV; rw [h]; rfl
theorem cptv3 {s : Mc} {x : In} (h : x.Op = 13) : cptV s x = cstV (s.tys.getD x.Val.N.toNat ⟨0, 0, 0, 0, 0⟩) x.Ty (s.gR x.B) := by unfold cptV; rw [h]; rfl
theorem cptv4 {s : Mc} {x : In} (h : x.Op = 16) (hr : (decide (2147483647 < s.gX x.B) || decide (s.gX x.B < -2147483647)) = true) : cptV s x = (⟨0, 0⟩, 3) := by unfold cptV; rw [h, hr]; rfl
theorem cptv5 {s : Mc} {x : In} (h : x.Op = 16) (hr : (decide (2147483647 < s.gX x.B) || decide (s.gX x.B < -2147483647)) = false) : cptV s x = (⟨s.gX x.B, 1⟩, 0) := by unfold cptV; rw [h, hr]; rfl
theorem cptm1 {s : Mc} {x : In} (h : (cptV s x).2 = 0) : cptM s x = (s.sR x.A (cptV s x).1, 0) := by unfold cptM; rw [decide_eq_true h]; rfl
theorem cptm2 {s : Mc} {x : In} (h : ¬ (cptV s x).2 = 0) : cptM s x = (s, (cptV s x).2) := by unfold cptM; rw [dec_false h]; rfl
theorem ty_at {s : Mc} {i : Int} (h : i.toNat < s.tys.length) : s.tys[i.toNat]? = some (s.tys.getD i.toNat ⟨0, 0, 0, 0, 0⟩) := by
  simp [List.getD, List.getElem?_eq_getElem h]
theorem jmpv1 {s : Mc} {x : In} (h : x.Op = 7) : jmpV s x = (true, 0) := by unfold jmpV; rw [h]; rfl
theorem jmpv2 {s : Mc} {x : In} (h : x.Op = 8) : jmpV s x = (decide (s.gX x.B < s.gX x.C), 0) := by unfold jmpV; rw [h]; rfl
theorem jmpv3 {s : Mc} {x : In} (h : x.Op = 14) (hv : (!(tyOk x.Ty && valOk x.Ty (s.gR x.B)) || !(tyOk x.Ty && valOk x.Ty (s.gR x.C))) = true) : jmpV s x = (false, 1) := by unfold jmpV; rw [h, hv]; rfl
theorem jmpv4 {s : Mc} {x : In} (h : x.Op = 14) (hv : (!(tyOk x.Ty && valOk x.Ty (s.gR x.B)) || !(tyOk x.Ty && valOk x.Ty (s.gR x.C))) = false) : jmpV s x = (!((decide (cmpV x.Ty (s.gR x.B) (s.gR x.C) < 0) && !decide (x.Val.N = 15)) || (decide (cmpV x.Ty (s.gR x.B) (s.gR x.C) = 0) && !decide (x.Val.N = 13))), 0) := by unfold jmpV; rw [h, hv]; rfl
theorem stepM1 {s : Mc} (h : s.hl = true) : stepM s = (s, false, 0) := by unfold stepM; rw [h]; rfl
theorem stepM2 {s : Mc} (h : s.hl = false) (h2 : (s.code.length : Int) ≤ s.pc) : stepM s = (s, false, 25) := by unfold stepM; rw [h, decide_eq_true h2]; rfl
theorem stepM3 {s : Mc} (h : s.hl = false) (h2 : ¬ (s.code.length : Int) ≤ s.pc) (h0 : s.ins.Op = 0) : stepM s = ({ s with hl := true }, false, 0) := by unfold stepM; rw [h, dec_false h2, decide_eq_true h0]; rfl
theorem stepM4 {s : Mc} (h : s.hl = false) (h2 : ¬ (s.code.length : Int) ≤ s.pc) (h0 : ¬ s.ins.Op = 0) {t : Mc} {n : Int} (hd : doM s s.ins = (t, 0)) (hn : nextM s s.ins = n) : stepM s = ({ t with pc := n }, true, 0) := by unfold stepM; rw [h, dec_false h2, dec_false h0, hd, hn]; rfl
theorem stepM5 {s : Mc} (h : s.hl = false) (h2 : ¬ (s.code.length : Int) ≤ s.pc) (h0 : ¬ s.ins.Op = 0) {t : Mc} {e : Int} (hd : doM s s.ins = (t, e)) (he : ¬ e = 0) : stepM s = (s, false, e) := by unfold stepM; rw [h, dec_false h2, dec_false h0, hd, dec_false he]; rfl
theorem doM1 {s : Mc} {x : In} (h : jmpB x.Op = true) : doM s x = (s, (jmpV s x).2) := by unfold doM; rw [h]; rfl
theorem doM2 {s : Mc} {x : In} (h : jmpB x.Op = false) (h2 : memB x.Op = true) : doM s x = memV s x := by unfold doM; rw [h, h2]; rfl
theorem doM3 {s : Mc} {x : In} (h : jmpB x.Op = false) (h2 : memB x.Op = false) (h3 : cptB x.Op = true) : doM s x = cptM s x := by unfold doM; rw [h, h2, h3]; rfl
theorem doM4 {s : Mc} {x : In} (h : jmpB x.Op = false) (h2 : memB x.Op = false) (h3 : cptB x.Op = false) : doM s x = (s.sX x.A (intV s x), 0) := by unfold doM; rw [h, h2, h3]; rfl
theorem next1 {s : Mc} {x : In} (h : jmpB x.Op = true) (h2 : (jmpV s x).1 = true) : nextM s x = x.A := by unfold nextM; rw [h, h2]; rfl
theorem next2 {s : Mc} {x : In} (h : (jmpV s x).1 = false) : nextM s x = s.pc + 1 := by unfold nextM; rw [h, Bool.and_false]; rfl
theorem next3 {s : Mc} {x : In} (h : jmpB x.Op = false) : nextM s x = s.pc + 1 := by unfold nextM; rw [h]; rfl
theorem pair0 {α : Type} {p : α × Int} (h : p.2 = 0) : p = (p.1, 0) := by rw [← h]
theorem memV_err {s : Mc} {x : In} (h : ¬ (memV s x).2 = 0) : (memV s x).1 = s := by
  unfold memV at h ⊢
  cases hb : (decide (s.gX x.B < x.Val.N) || decide (x.C ≤ s.gX x.B)) with
  | true => rfl
  | false => rw [hb] at h; cases hc : decide (x.Op = 10) <;> (rw [hc] at h; exact absurd rfl h)
theorem cptM_err {s : Mc} {x : In} (h : ¬ (cptM s x).2 = 0) : (cptM s x).1 = s := by
  unfold cptM at h ⊢
  cases hb : decide ((cptV s x).2 = 0) with
  | true => rw [hb] at h; exact absurd rfl h
  | false => rfl
theorem stepM_err {s : Mc} (h : ¬ (stepM s).2.2 = 0) : (stepM s).1 = s := by
  unfold stepM at h ⊢
  cases h1 : s.hl with
  | true => rfl
  | false =>
    rw [h1] at h
    cases h2 : decide ((s.code.length : Int) ≤ s.pc) with
    | true => rfl
    | false =>
      rw [h2] at h
      cases h3 : decide (s.ins.Op = 0) with
      | true => rw [h3] at h; exact absurd rfl h
      | false =>
        rw [h3] at h
        cases h4 : decide ((doM s s.ins).2 = 0) with
        | true => rw [h4] at h; exact absurd rfl h
        | false => rfl
theorem runM_hl {k : Nat} {t : Mc} {n : Int} (h : t.hl = true) : runM k t n = (t, n, 0) := by cases k <;> (unfold runM; rw [h]; rfl)
theorem runM_0 {t : Mc} {n : Int} (h : t.hl = false) : runM 0 t n = (t, 0, 14) := by unfold runM; rw [h]; rfl
theorem runM_e {k : Nat} {t : Mc} {n : Int} (h : t.hl = false) (he : ¬ (stepM t).2.2 = 0) : runM (k + 1) t n = (t, 0, (stepM t).2.2) := by rw [runM, h, dec_false he]; rfl
theorem runM_s {k : Nat} {t : Mc} {n : Int} (h : t.hl = false) (he : (stepM t).2.2 = 0) : runM (k + 1) t n = runM k (stepM t).1 (n + 1) := by rw [runM, h, decide_eq_true he]; rfl
theorem runX_no {s : Mc} {f : Int} (h : f < 0 ∨ 16777216 < f) : runX s f = (s, 0, 1) := by
  unfold runX; rw [show (decide (f < 0) || decide (16777216 < f)) = true by simpa using h]; rfl
theorem runX_yes {s : Mc} {f : Int} (h : ¬ (f < 0 ∨ 16777216 < f)) : runX s f = runM f.toNat s 0 := by
  unfold runX; rw [show (decide (f < 0) || decide (16777216 < f)) = false by simp; omega]; rfl
theorem rep_init {v : Vl} {n : Nat} (z : List Eng.C) : (List.replicate n z).take 0 ++ ([v].map Vl.cells).take n ++ (List.replicate n z).drop (0 + min ([v].map Vl.cells).length n) = (List.replicate (min 1 n) v).map Vl.cells ++ List.replicate (n - min 1 n) z := by
  cases n with
  | zero => rfl
  | succ n => rw [show min 1 (n + 1) = 1 by omega, show 0 + min ([v].map Vl.cells).length (n + 1) = 1 by simp]; simp
theorem rep_rows {v : Vl} {n j : Nat} (h1 : 1 ≤ j) (h2 : j ≤ n) (z : List Eng.C) : (((List.replicate j v).map Vl.cells ++ List.replicate (n - j) z).take j ++ ((List.replicate j v).map Vl.cells ++ List.replicate (n - j) z).take (min j (n - j)) ++ ((List.replicate j v).map Vl.cells ++ List.replicate (n - j) z).drop (j + min j (n - j))) = (List.replicate (j + min j (n - j)) v).map Vl.cells ++ List.replicate (n - (j + min j (n - j))) z := by
  simp only [List.map_replicate, List.take_append, List.drop_append, List.length_replicate, List.take_replicate, List.drop_replicate, Nat.sub_self]
  rw [show min j j = j by omega, show min 0 (n - j) = 0 by omega, show min (min j (n - j)) j = min j (n - j) by omega, show min (min j (n - j) - j) (n - j) = 0 by omega, show j - (j + min j (n - j)) = 0 by omega, show n - j - (j + min j (n - j) - j) = n - (j + min j (n - j)) by omega]
  simp only [List.replicate_zero, List.append_nil, List.nil_append, ← List.append_assoc, List.replicate_append_replicate]
theorem jmp13 {c n : Int} (h : n = 13) : decide (0 ≤ c) = !((decide (c < 0) && !decide (n = 15)) || (decide (c = 0) && !decide (n = 13))) := by
  subst h; rw [Bool.eq_iff_iff]; simp
theorem jmp14 {c n : Int} (h : n = 14) : decide (0 < c) = !((decide (c < 0) && !decide (n = 15)) || (decide (c = 0) && !decide (n = 13))) := by
  subst h; rw [Bool.eq_iff_iff]; simp; omega
theorem jmp15 {c n : Int} (h : n = 15) : (!decide (c = 0)) = !((decide (c < 0) && !decide (n = 15)) || (decide (c = 0) && !decide (n = 13))) := by
  subst h; rw [Bool.eq_iff_iff]; simp
end Go.Br
end
section
set_option linter.unusedSimpArgs false
set_option linter.unusedVariables false
namespace Go.Br
open Go Go.Eng Go.L41

theorem newM_ok {code : List In} {tys : List Ty} {w : Int} (h : (vld code tys w).2 = 0) : (newM code tys w).Ok w := by
  obtain ⟨h1, h2, h3, h4, h5⟩ := vld_ok h
  exact ⟨h5, Int.le_refl 0, h1, List.length_replicate, List.length_replicate, by show ((List.replicate w.toNat _).length : Int) = w; rw [List.length_replicate]; omega, h3, h4⟩
end Go.Br
end
section
set_option linter.unusedSimpArgs false
set_option linter.unusedVariables false
namespace Go.Br
open Go Go.Eng Go.L41

structure St0 where
  Name : ByteArray
  At : Int
  Len : Int
def St0.cells (x : St0) : List Eng.C := [cS x.Name, cI x.At, cI x.Len]
structure Un0 where
  code : List In
  tys : List Ty
  slots : List St0
  words : Int
structure Ac where
  Kind : Int
  At : Int
  Many : Int
  Vals : List Vl
def Ac.cells (x : Ac) : List Eng.C := [cI x.Kind, cI x.At, cI x.Many, .sl 2 (x.Vals.map Vl.cells)]
abbrev vU0 (u : Un0) : V := .agg [.sl 11 (u.code.map In.cells), .sl 5 (u.tys.map Ty.cells), .sl 3 (u.slots.map St0.cells), cI u.words]
abbrev vAc (x : Ac) : V := .agg x.cells
abbrev vAcs (l : List Ac) : V := .c (.sl 4 (l.map Ac.cells))
/-- Lengths that fit in an int. -/
structure Un0.Fit (u : Un0) : Prop where
  hc : u.code.length ≤ 140737488355328
  ht : u.tys.length ≤ 140737488355328
  hs : u.slots.length ≤ 140737488355328
def Ac.bad (x : Ac) : Bool := decide ((100 : Int) < (x.Vals.length : Int)) || (decide (500 < x.Many) && decide (x.Many ≤ 16777216))
def fewAs (l : List Ac) : Bool := !l.any Ac.bad && decide ((l.length : Int) ≤ 40)
theorem fewAs_yes {l : List Ac} {k : Nat} (hk : ¬ k < l.length) (h : (l.take k).any Ac.bad = false) : fewAs l = decide ((l.length : Int) ≤ 40) := by
  rw [take_all hk] at h
  rw [fewAs, h]; rfl
theorem fewAs_no {l : List Ac} {k : Nat} {x : Ac} (hx : l[k]? = some x) (h : x.bad = true) : fewAs l = false := by
  rw [fewAs, show l.any Ac.bad = true from List.any_eq_true.2 ⟨x, mem_of_get hx, h⟩]; rfl
def zM : List Value := .bool false :: .slice none 0 0 :: .slice none 0 0 :: .slice none 0 0 :: (List.replicate 256 (.int .i64 0) ++ ((List.replicate 256 [.int .i64 0, .int .i64 0]).flatten ++ [.int .i64 0, .bool false]))
def newK (code : List In) (tys : List Ty) (w : Int) (k : Nat) : Mc := ⟨code, tys, 0, List.replicate 256 0, List.replicate k ⟨0, 1⟩ ++ List.replicate (256 - k) ⟨0, 0⟩, List.replicate w.toNat ⟨0, 1⟩, false⟩
theorem newK_ok {code : List In} {tys : List Ty} {w : Int} (h : (vld code tys w).2 = 0) {k : Nat} (hk : k ≤ 256) : (newK code tys w k).Ok w := by
  obtain ⟨h1, h2, h3, h4, h5⟩ := vld_ok h
  exact ⟨h5, Int.le_refl 0, h1, List.length_replicate, by show (List.replicate k _ ++ List.replicate (256 - k) _).length = 256; rw [List.length_append, List.length_replicate, List.length_replicate]; omega, by show ((List.replicate w.toNat _).length : Int) = w; rw [List.length_replicate]; omega, h3, h4⟩
theorem newK_next {code : List In} {tys : List Ty} {w : Int} {k : Nat} (hk : k < 256) : (newK code tys w k).sR (k : Int) (⟨0, 1⟩ : Vl) = newK code tys w (k + 1) := by
  have e : (List.replicate k (⟨0, 1⟩ : Vl) ++ List.replicate (256 - k) (⟨0, 0⟩ : Vl)).set k (⟨0, 1⟩ : Vl) = List.replicate (k + 1) (⟨0, 1⟩ : Vl) ++ List.replicate (256 - (k + 1)) (⟨0, 0⟩ : Vl) := by
    rw [List.set_append_right _ _ (by rw [List.length_replicate]; exact Nat.le_refl _), List.length_replicate, Nat.sub_self, show 256 - k = (256 - (k + 1)) + 1 by omega, List.replicate_succ, List.set_cons_zero, List.replicate_succ', List.append_assoc]; rfl
  show (⟨code, tys, 0, _, (List.replicate k (⟨0, 1⟩ : Vl) ++ List.replicate (256 - k) (⟨0, 0⟩ : Vl)).set (k : Int).toNat (⟨0, 1⟩ : Vl), _, false⟩ : Mc) = _
  rw [Int.toNat_natCast, e]; rfl
theorem newK_all {code : List In} {tys : List Ty} {w : Int} : newK code tys w 256 = newM code tys w := by
  unfold newK newM
  rw [Nat.sub_self, List.replicate_zero, List.append_nil]
end Go.Br
end
section
set_option linter.unusedSimpArgs false
set_option linter.unusedVariables false
namespace Go.Br
open Go Go.Eng Go.L41

def u1 : Un0 := ⟨[⟨1, 0, 3, 0, ⟨0, 0⟩, ⟨0, 0, 0, 0, 0⟩⟩, ⟨0, 0, 0, 0, ⟨0, 0⟩, ⟨0, 0, 0, 0, 0⟩⟩], [], [], 0⟩
def u2 : Un0 := ⟨[⟨1, 0, 2, 0, ⟨0, 0⟩, ⟨0, 0, 0, 0, 0⟩⟩, ⟨10, 0, 0, 2, ⟨0, 1⟩, ⟨0, 0, 0, 0, 0⟩⟩], [], [], 2⟩
def u3 : Un0 := ⟨[⟨7, 0, 0, 0, ⟨0, 0⟩, ⟨0, 0, 0, 0, 0⟩⟩], [], [], 0⟩
abbrev m1 : Mc := newM u1.code u1.tys u1.words
abbrev m2 : Mc := newM u2.code u2.tys u2.words
abbrev m3 : Mc := newM u3.code u3.tys u3.words
theorem v1 : (vld u1.code u1.tys u1.words).2 = 0 := by decide +kernel
theorem v2 : (vld u2.code u2.tys u2.words).2 = 0 := by decide +kernel
theorem v3 : (vld u3.code u3.tys u3.words).2 = 0 := by decide +kernel
theorem r1n : (runX m1 10).2.1 = 2 := by decide +kernel
theorem r1e : (runX m1 10).2.2 = 0 := by decide +kernel
theorem r1p : (runX m1 10).1.pc = 1 := by decide +kernel
theorem r1x : (runX m1 10).1.X[(0 : Int).toNat]? = some 3 := by decide +kernel
theorem r2e : (runX m2 10).2.2 = 12 := by decide +kernel
theorem r3e : (runX m3 10).2.2 = 14 := by decide +kernel
end Go.Br
end
