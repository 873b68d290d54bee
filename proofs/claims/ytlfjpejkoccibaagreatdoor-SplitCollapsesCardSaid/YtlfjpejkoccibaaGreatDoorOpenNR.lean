/-
  What an argument of this seat is: the numbers in the forms of statements are in range.
  Conditions: none.
-/
import Derived.Test.YtlfjpejkoccibaaGreatDoorOpenN
import Derived.Test.YtlfjpejkoccibaaGreatDoorOpenR
import Derived.Test.YtlfjpejkoccibaaGreatDoorPlain2
set_option linter.unusedSimpArgs false
set_option linter.unusedVariables false
set_option maxRecDepth 100000
namespace Go.Br
open Go Go.Eng Go.RowKit Go.Proofs Go.L41
theorem rng_st:∀{f:Nat} {s:St},Sh Tryz.prog f 46 s.cells->s.allF Lf.rng
 |0,_,h=>h.elim
 |f+1,s,h=>by
  obtain ⟨_,hf⟩:=Sh.struct Tryz.underlying46 h
  rw [St.cells_eq] at hf
  simp only [St.cs,List.mem_cons,List.not_mem_nil,or_false,forall_eq_or_imp,forall_eq,cStr,cInt,zTb,cExpr,cSts,List.drop_zero,List.drop_succ_cons,List.take_succ_cons,List.take_zero] at hf
  obtain ⟨_,_,_,_,_,h5,h6,h7⟩:=hf
  have hI:gN Lf.rng s.Idx:=by
   intro x hx
   match f,h5 with
   |0,h=>exact h.elim
   |f+1,h=>exact rng_index (zHv (Q:=Ix.cells) Tryz.underlying34 h x hx)
  have hE:s.E.allF Lf.rng:=rng_expr (f:=f) (by rw [Ex.cells_eq];exact h6)
  have hB:bH Lf.rng s.Body:=by
   match f,h7 with
   |0,h=>exact h.elim
   |f+1,h=>exact zPj fun a ha=>rng_st (f:=f) (zHv (Q:=St.cells) Tryz.underlying23 h a ha)
  cases s
  rw [St.allF]
  exact ⟨hI,hE,hB⟩
theorem rng_sts {f:Nat} {l:List St} (h:Sh Tryz.prog f 23 [.sl 20 (l.map St.cells)]):bH Lf.rng l:=by
 match f,h with
 |0,h=>exact h.elim
 |f+1,h=>exact zPj fun a ha=>rng_st (zHv (Q:=St.cells) Tryz.underlying23 h a ha)
theorem sh_nestR {f:Nat} {l:List C} (h:Sh Tryz.prog f 25 l):∃x:Ns,l=x.cells/\x.Fit/\bH Lf.rng x.Body:=by
 obtain ⟨x,h1,h2⟩:=sh_nest h
 subst h1
 refine ⟨x,rfl,h2,?_⟩
 match f,h with
 |0,h=>exact h.elim
 |f+1,h=>
  obtain ⟨_,hf⟩:=Sh.struct Tryz.underlying25 h
  simp only [Ns.cells,List.mem_cons,List.not_mem_nil,or_false,forall_eq_or_imp,forall_eq,cBfs,cSts,List.drop_zero,List.drop_succ_cons,List.take_succ_cons,List.take_zero] at hf
  exact rng_sts hf.2
end Go.Br
