/-
  What an argument of this seat is: a definition; how long its forms can be,and that their numbers are in range.
  Conditions: none.
-/
import Derived.Test.YtkijgodlhljgdaaGreatDoorOpen17
import Derived.Test.YtkijgodlhljgdaaGreatDoorOpenR
set_option linter.unusedSimpArgs false
set_option linter.unusedVariables false
set_option maxRecDepth 100000
namespace Go.Br
open Go Go.Eng Go.RowKit Go.Proofs Go.L41
theorem len_lin {f:Nat} {x:Lf} (h:Sh Tryz.prog f 34 x.cells):x.L.length<=5864062014805:=by
 match f,h with
 |0,h=>exact h.elim
 |f+1,h=>
  obtain ⟨_,hf⟩:=Sh.struct Tryz.underlying34 h
  simp only [Lf.cells,List.mem_cons,List.not_mem_nil,or_false,forall_eq_or_imp,forall_eq,cMonos,cInt64,List.drop_zero,List.drop_succ_cons,List.take_succ_cons,List.take_zero] at hf
  match f,hf.2 with
  |0,h=>exact h.elim
  |f+1,h=>
   obtain ⟨rows,e,⟨_,hb⟩,_⟩:=Sh.slice Tryz.underlying32 h
   injection e with e1
   injection e1 with _ e1
   rw [bMono,zCc,←e1,List.length_map] at hb
   omega
theorem len_ax {f:Nat} {x:Ax} (h:Sh Tryz.prog f 105 x.cells):x.Size.L.length<=5864062014805:=by
 match f,h with
 |0,h=>exact h.elim
 |f+1,h=>
  obtain ⟨_,hf⟩:=Sh.struct Tryz.underlying105 h
  simp only [Ax.cells,List.mem_cons,List.not_mem_nil,or_false,forall_eq_or_imp,forall_eq,cLin,cStr,List.drop_zero,List.drop_succ_cons,List.take_succ_cons,List.take_zero] at hf
  exact len_lin (x:=x.Size) hf.2
theorem len_axs {f:Nat} {l:List Ax} (h:Sh Tryz.prog f 57 [.sl 3 (l.map Ax.cells)]):∀a,a∈l->a.Size.L.length<=5864062014805:=by
 match f,h with
 |0,h=>exact h.elim
 |f+1,h=>exact fun a ha=>len_ax (zCp (Q:=Ax.cells) Tryz.underlying57 h a ha)
theorem rng_def {f:Nat} {d:Df} (h:Sh Tryz.prog f 59 d.cells):(∀a,a∈d.Dims->a.Size.L.length<=5864062014805)/\(∀a,a∈d.Red->a.Size.L.length<=5864062014805)/\d.Body.allF Lf.rng:=by
 match f,h with
 |0,h=>exact h.elim
 |f+1,h=>
  obtain ⟨_,hf⟩:=Sh.struct Tryz.underlying59 h
  simp only [Df.cells,List.mem_cons,List.not_mem_nil,or_false,forall_eq_or_imp,forall_eq,cType,cStr,cAxs,cInt,cExpr,List.drop_zero,List.drop_succ_cons,List.take_succ_cons,List.take_zero] at hf
  obtain ⟨_,_,h2,h3,_,h5⟩:=hf
  exact ⟨len_axs h2,len_axs h3,rng_expr (e:=d.Body) (by rw [Ex.cells_eq];exact h5)⟩
end Go.Br
