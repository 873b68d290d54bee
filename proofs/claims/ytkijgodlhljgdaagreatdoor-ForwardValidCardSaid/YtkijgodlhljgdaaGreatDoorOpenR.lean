/-
  What an argument of this seat is: the numbers in its forms are in range.
  Conditions: none.
-/
import Derived.Test.YtkijgodlhljgdaaGreatDoorOpen
import Derived.Test.YtkijgodlhljgdaaGreatDoorPlain2
set_option linter.unusedSimpArgs false
set_option linter.unusedVariables false
set_option maxRecDepth 100000
namespace Go.Br
open Go Go.Eng Go.RowKit Go.Proofs Go.L41
theorem rng_int64 {f:Nat} {n:Int} (h:Sh Tryz.prog f 2 [cI n]):r64 n:=by
 cases f with
 |zero=>exact h.elim
 |succ f=>
  obtain ⟨m,e,hw⟩:=Sh.int Tryz.underlying2 h
  injection e with e1
  injection e1 with e1
  injection e1 with _ e1
  subst e1
  have hw:(decide (IntKind.i64.min<=n)&&decide (n<=IntKind.i64.max))=true:=hw
  rw [Bool.and_eq_true,decide_eq_true_eq,decide_eq_true_eq] at hw
  exact hw
theorem rng_mono {f:Nat} {x:Mono} (h:Sh Tryz.prog f 101 x.cells):r64 x.By:=by
 cases f with
 |zero=>exact h.elim
 |succ f=>
  obtain ⟨_,hf⟩:=Sh.struct Tryz.underlying101 h
  simp only [Mono.cells,List.mem_cons,List.not_mem_nil,or_false,forall_eq_or_imp,forall_eq,cStr,cInt64,List.drop_zero,List.drop_succ_cons,List.take_succ_cons,List.take_zero] at hf
  exact rng_int64 hf.2
theorem zCp {α:Type} {Q:α->List C} {f:Nat} {t e:TypeId} {n:Nat} {l:List α} (hu:Tryz.prog.underlying t=some (.slice e)) (h:Sh Tryz.prog (f+1) t [.sl n (l.map Q)]):∀x,x∈l->Sh Tryz.prog f e (Q x):=by
 obtain ⟨rows,e,_,hr⟩:=Sh.slice hu h
 injection e with e1
 injection e1 with _ e1
 intro x hx
 exact hr _ (by rw [←e1];exact List.mem_map.2 ⟨x,hx,rfl⟩)
theorem rng_lin {f:Nat} {x:Lf} (h:Sh Tryz.prog f 34 x.cells):x.rng:=by
 match f,h with
 |0,h=>exact h.elim
 |f+1,h=>
  obtain ⟨_,hf⟩:=Sh.struct Tryz.underlying34 h
  simp only [Lf.cells,List.mem_cons,List.not_mem_nil,or_false,forall_eq_or_imp,forall_eq,cMonos,cInt64,List.drop_zero,List.drop_succ_cons,List.take_succ_cons,List.take_zero] at hf
  refine ⟨rng_int64 hf.1,?_⟩
  match f,hf.2 with
  |0,h=>exact h.elim
  |f+1,h=>exact fun m hm=>rng_mono (zCp (Q:=Mono.cells) Tryz.underlying32 h m hm)
theorem rng_index {f:Nat} {x:Ix} (h:Sh Tryz.prog f 67 x.cells):x.Lin.rng/\∀l,l∈x.At->l.rng:=by
 match f,h with
 |0,h=>exact h.elim
 |f+1,h=>
  obtain ⟨_,hf⟩:=Sh.struct Tryz.underlying67 h
  simp only [Ix.cells,List.mem_cons,List.not_mem_nil,or_false,forall_eq_or_imp,forall_eq,cStr,cLin,cLins,List.drop_zero,List.drop_succ_cons,List.take_succ_cons,List.take_zero] at hf
  refine ⟨rng_lin (x:=x.Lin) hf.1,?_⟩
  match f,hf.2.2 with
  |0,h=>exact h.elim
  |f+1,h=>exact fun m hm=>rng_lin (zCp (Q:=Lf.cells) Tryz.underlying63 h m hm)
theorem rng_nodes {P:Lf->Prop} {e:Ex} (h1:∀l,l∈formsL e->P l) (h2:∀a,a∈e.Args->a.allF P):e.allF P:=by
 intro x hx
 rw [zAl] at hx
 rcases List.mem_cons.1 hx with rfl|hx
 ·exact h1
 ·have:∀l:List Ex,(∀a,a∈l->a.allF P)->x∈nodesL l->∀y,y∈formsL x->P y:=by
   intro l
   induction l with
   |nil=>intro _ h;simp [nodesL] at h
   |cons a r ih=>
    intro h hm
    rw [nodesL] at hm
    rcases List.mem_append.1 hm with k|k
    ·exact h a (by simp) x k
    ·exact ih (fun b hb=>h b (by simp [hb])) k
  exact this e.Args h2 hx
theorem rng_expr:∀{f:Nat} {e:Ex},Sh Tryz.prog f 38 e.cells->e.allF Lf.rng
 |0,_,h=>h.elim
 |f+1,e,h=>by
  obtain ⟨_,hf⟩:=Sh.struct Tryz.underlying38 h
  rw [Ex.cells_eq] at hf
  simp only [Ex.cs,List.mem_cons,List.not_mem_nil,or_false,forall_eq_or_imp,forall_eq,cStr,cInt,cVal,cType,cLin,cIndices,cExprs,List.drop_zero,List.drop_succ_cons,List.take_succ_cons,List.take_zero] at hf
  obtain ⟨_,_,_,_,h4,h5,h6⟩:=hf
  refine rng_nodes ?_ ?_
  ·intro l hl
   unfold formsL at hl
   rcases List.mem_cons.1 hl with rfl|hl
   ·exact rng_lin (x:=e.Lin) h4
   ·obtain ⟨x,hx,hl⟩:=List.mem_flatMap.1 hl
    match f,h5 with
    |0,h=>exact h.elim
    |f+1,h=>
     obtain ⟨k1,k2⟩:=rng_index (zCp (Q:=Ix.cells) Tryz.underlying35 h x hx)
     rcases List.mem_cons.1 hl with rfl|hl
     ·exact k1
     ·exact k2 l hl
  ·intro a ha
   match f,h6 with
   |0,h=>exact h.elim
   |f+1,h=>exact rng_expr (f:=f) (zCp (Q:=Ex.cells) Tryz.underlying36 h a ha)
end Go.Br
