/-
  Layer 17: programs of many empty parts; small numbers as arguments.
  Conditions: none.
-/
import Derived.Test.YticdknfcoinbaaaGreatDoorPlain
import Derived.Test.YticdknfcoinbaaaGreatDoorWR
import Derived.Test.YticdknfcoinbaaaGreatDoorOpen17
set_option maxRecDepth 100000
set_option linter.unusedSimpArgs false
set_option linter.unusedVariables false
namespace Go.Br
open Go Go.Eng Go.RowKit Go.Proofs Go.L41 Go.W

def zCn : Cn := ⟨⟨0, []⟩, false⟩
def zPm : Pm := ⟨bs [], zTy, []⟩
def zDf : Df := ⟨bs [], zTy, [], [], 0, zEx⟩
theorem manyS (k : Nat) (h : k ≤ 400) : (⟨List.replicate k (bs []), [], [], [], []⟩ : Pg).Ok :=
  ⟨by simp; omega, by simp, by simp, by simp, by simp, fun c hc => by simp at hc, fun x hx => by simp at hx, fun d hd => by simp at hd⟩
theorem manyO (k : Nat) (h : k ≤ 400) : (⟨[], [], [], [], List.replicate k (bs [])⟩ : Pg).Ok :=
  ⟨by simp, by simp, by simp, by simp, by simp; omega, fun c hc => by simp at hc, fun x hx => by simp at hx, fun d hd => by simp at hd⟩
theorem manyW (k : Nat) (h : k ≤ 400) : (⟨[], List.replicate k zCn, [], [], []⟩ : Pg).Ok :=
  ⟨by simp, by simp; omega, by simp, by simp, by simp, fun c hc => by rw [List.eq_of_mem_replicate hc]; simp [zCn], fun x hx => by simp at hx, fun d hd => by simp at hd⟩
theorem manyP (k : Nat) (h : k ≤ 400) : (⟨[], [], List.replicate k zPm, [], []⟩ : Pg).Ok :=
  ⟨by simp, by simp, by simp; omega, by simp, by simp, fun c hc => by simp at hc, fun x hx => by rw [List.eq_of_mem_replicate hx]; exact ⟨by simp [zPm], fun l hl => by simp [zPm] at hl⟩, fun d hd => by simp at hd⟩
theorem manyD (k : Nat) (h : k ≤ 400) : (⟨[], [], [], List.replicate k zDf, []⟩ : Pg).Ok :=
  ⟨by simp, by simp, by simp, by simp; omega, by simp, fun c hc => by simp at hc, fun x hx => by simp at hx, fun d hd => by
    rw [List.eq_of_mem_replicate hd]; exact ⟨by simp [zDf], by simp [zDf], fun a ha => by simp [zDf] at ha, fun a ha => by simp [zDf] at ha, by decide +kernel⟩⟩
theorem many0 : (⟨[], [], [], [], []⟩ : Pg).Ok := manyS 0 (by omega)
theorem limV {c : List C} (p : Pg) (hp : p.Ok) (h : c = p.cells) : Pur cfg 13 [.agg c] (.tup [vI (validM p).1, vI (validM p).2]) := h ▸ program_Validate p hp
theorem limR {c : List C} (p : Pg) (hp : p.Ok) (h : c = p.cells) : Pur cfg 14 [.agg c] (.tup [vI (validM p).1, vI (validM p).2]) := by rw [validM_R]; exact h ▸ ref17_Validate p hp
theorem sh_u16 {f : Nat} {l : List C} (h : Sh Tryz.prog f 34 l) : ∃ n : Nat, l = [.lit (.int .u16 n)] ∧ n < 65536 := by
  cases f with
  | zero => exact h.elim
  | succ f =>
    obtain ⟨n, h1, h2⟩ := Sh.int Tryz.underlying34 h
    simp [Lit.wf, IntKind.min, IntKind.max, IntKind.signed, IntKind.bits] at h2
    exact ⟨n.toNat, by rw [h1, Int.toNat_of_nonneg h2.1], by omega⟩
theorem sh_u8 {f : Nat} {l : List C} (h : Sh Tryz.prog f 5 l) : ∃ n : Nat, l = [.lit (.int .u8 n)] ∧ n < 256 := by
  cases f with
  | zero => exact h.elim
  | succ f =>
    obtain ⟨n, h1, h2⟩ := Sh.int Tryz.underlying5 h
    simp [Lit.wf, IntKind.min, IntKind.max, IntKind.signed, IntKind.bits] at h2
    exact ⟨n.toNat, by rw [h1, Int.toNat_of_nonneg h2.1], by omega⟩
end Go.Br
