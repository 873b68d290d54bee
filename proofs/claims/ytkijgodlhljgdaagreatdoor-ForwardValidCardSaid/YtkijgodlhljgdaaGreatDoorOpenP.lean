/-
  What an argument of this seat is: a program whose forms are no longer than memory.
  Conditions: none.
-/
import Derived.Test.YtkijgodlhljgdaaGreatDoorOpenD
import Derived.Test.YtkijgodlhljgdaaGreatDoorFwd3
set_option linter.unusedSimpArgs false
set_option linter.unusedVariables false
set_option maxRecDepth 100000
namespace Go.Br
open Go Go.Eng Go.RowKit Go.Proofs Go.L41
theorem len_cn {f:Nat} {x:Cn} (h:Sh Tryz.prog f 93 x.cells):x.Lin.L.length<=5864062014805:=by
 match f,h with
 |0,h=>exact h.elim
 |f+1,h=>
  obtain ⟨_,hf⟩:=Sh.struct Tryz.underlying93 h
  simp only [Cn.cells,List.mem_cons,List.not_mem_nil,or_false,forall_eq_or_imp,forall_eq,cLin,cBool,List.drop_zero,List.drop_succ_cons,List.take_succ_cons,List.take_zero] at hf
  exact len_lin (x:=x.Lin) hf.1
theorem len_pm {f:Nat} {x:Pm} (h:Sh Tryz.prog f 65 x.cells):∀l,l∈x.Dims->l.L.length<=5864062014805:=by
 match f,h with
 |0,h=>exact h.elim
 |f+1,h=>
  obtain ⟨_,hf⟩:=Sh.struct Tryz.underlying65 h
  simp only [Pm.cells,List.mem_cons,List.not_mem_nil,or_false,forall_eq_or_imp,forall_eq,cType,cStr,cLins,List.drop_zero,List.drop_succ_cons,List.take_succ_cons,List.take_zero] at hf
  match f,hf.2.2 with
  |0,h=>exact h.elim
  |f+1,h=>exact fun a ha=>len_lin (zCp (Q:=Lf.cells) Tryz.underlying63 h a ha)
theorem frm_prog {f:Nat} {p:Pg} (h:Sh Tryz.prog f 27 p.cells):p.Frm:=by
 match f,h with
 |0,h=>exact h.elim
 |f+1,h=>
  obtain ⟨_,hf⟩:=Sh.struct Tryz.underlying27 h
  simp only [Pg.cells,List.mem_cons,List.not_mem_nil,or_false,forall_eq_or_imp,forall_eq,cStrs,cCns,cPms,cDfs,List.drop_zero,List.drop_succ_cons,List.take_succ_cons,List.take_zero] at hf
  obtain ⟨_,h1,h2,h3,_⟩:=hf
  match f,h1,h2,h3 with
  |0,h1,_,_=>exact h1.elim
  |f+1,h1,h2,h3=>
   exact ⟨fun c hc=>len_cn (zCp (Q:=Cn.cells) Tryz.underlying23 h1 c hc),fun x hx=>len_pm (zCp (Q:=Pm.cells) Tryz.underlying24 h2 x hx),
    fun d hd=>have h:=rng_def (zCp (Q:=Df.cells) Tryz.underlying25 h3 d hd);⟨h.1,h.2.1⟩⟩
theorem sh_progF {f:Nat} {l:List C} (h:Sh Tryz.prog f 27 l):∃p:Pg,l=p.cells/\p.Fit/\p.Frm:=by
 obtain ⟨p,rfl,h2⟩:=sh_prog h
 exact ⟨p,rfl,h2,frm_prog h⟩
end Go.Br
