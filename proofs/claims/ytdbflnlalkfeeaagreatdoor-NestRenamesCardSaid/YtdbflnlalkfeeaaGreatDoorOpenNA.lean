/-
  What an argument of this seat is: two names.
  Conditions: none.
-/
import Derived.Test.YtdbflnlalkfeeaaGreatDoorOpenNR
set_option maxRecDepth 100000
namespace Go.Br
open Go Go.Eng Go.RowKit Go.Proofs Go.L41
abbrev typesA : List TypeId := 83 :: typesN
theorem okTypesA : typesA.all (okT Tryz.prog typesA) = true:= by kernel_rfl
theorem sh_names {f : Nat} {l : List C} (h : Sh Tryz.prog f 83 l) : ∃ a b : ByteArray,l = [cS a,cS b]:= by
  cases f with
  | zero => exact h.elim
  | succ f =>
    unfold Sh at h
    rw [show (Tryz.prog).underlying 83 = some (.array 2 9) by kernel_rfl] at h
    obtain ⟨hl,hf⟩ := h
    rw [show (Tryz.prog).cellsOf 83 = 2 by kernel_rfl] at hl
    match l,hl with
    | [a0,a1],_ =>
      have h0 := hf 0 (by omega)
      have h1 := hf 1 (by omega)
      rw [show (Tryz.prog).cellsOf 9 = 1 by kernel_rfl] at h0 h1
      obtain ⟨a,e0⟩ := zDl (show Sh Tryz.prog f 9 [a0] from h0)
      obtain ⟨b,e1⟩ := zDl (show Sh Tryz.prog f 9 [a1] from h1)
      cases e0; cases e1
      exact ⟨a,b,rfl⟩
end Go.Br
