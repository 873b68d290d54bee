/-
  What an argument of this seat is: the numbers in the forms of statements are in range.
  Conditions: none.
-/
import Derived.Test.YtdbflnlalkfeeaaGreatDoorOpenN
import Derived.Test.YtdbflnlalkfeeaaGreatDoorOpenR
import Derived.Test.YtdbflnlalkfeeaaGreatDoorPlain2
set_option maxRecDepth 100000
namespace Go.Br
open Go Go.Eng Go.RowKit Go.Proofs Go.L41
theorem rng_st : ∀ {f : Nat} {s : St},Sh Tryz.prog f 54 s.cells → s.allF Lf.rng
  | 0,_,h => h.elim
  | f + 1,s,h => by
    obtain ⟨_,hf⟩ := Sh.struct Tryz.underlying54 h
    rw [St.cells_eq] at hf
    simp only [St.cs,List.mem_cons,List.not_mem_nil,or_false,forall_eq_or_imp,forall_eq,cStr,cInt,zNh,cExpr,cSts,List.drop_zero,List.drop_succ_cons,List.take_succ_cons,List.take_zero] at hf
    obtain ⟨_,_,_,_,_,h5,h6,h7⟩ := hf
    have hI : ixsAll Lf.rng s.Idx:= by
      intro x hx
      match f,h5 with
      | 0,h => exact h.elim
      | f + 1,h => exact rng_index (zEg (Q := Ix.cells) Tryz.underlying44 h x hx)
    have hE : s.E.allF Lf.rng := rng_expr (f := f) (by rw [Ex.cells_eq]; exact h6)
    have hB : allSs Lf.rng s.Body:= by
      match f,h7 with
      | 0,h => exact h.elim
      | f + 1,h => exact allSs_of fun a ha => rng_st (f := f) (zEg (Q := St.cells) Tryz.underlying23 h a ha)
    cases s
    rw [St.allF]
    exact ⟨hI,hE,hB⟩
theorem rng_sts {f : Nat} {l : List St} (h : Sh Tryz.prog f 23 [.sl 20 (l.map St.cells)]) : allSs Lf.rng l:= by
  match f,h with
  | 0,h => exact h.elim
  | f + 1,h => exact allSs_of fun a ha => rng_st (zEg (Q := St.cells) Tryz.underlying23 h a ha)
theorem sh_stsR {f : Nat} {l : List C} (h : Sh Tryz.prog f 23 l) : ∃ x : List St,l = [.sl 20 (x.map St.cells)] ∧ x.length ≤ 140737488355328 ∧ fitS x ∧ allSs Lf.rng x:= by
  obtain ⟨x,h1,h2,h3⟩ := sh_sts h
  subst h1
  exact ⟨x,rfl,h2,h3,rng_sts h⟩
abbrev typesM : List TypeId := 5 :: typesN
end Go.Br
