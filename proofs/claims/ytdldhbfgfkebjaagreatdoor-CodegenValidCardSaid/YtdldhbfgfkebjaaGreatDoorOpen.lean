/-
  What an argument of this seat is.
  Conditions: none.
-/
import Derived.Test.YtdldhbfgfkebjaaGreatDoorPlain
import Derived.Test.YtdldhbfgfkebjaaGreatDoorBase
set_option linter.unusedSimpArgs false
set_option linter.unusedVariables false
set_option maxRecDepth 100000
namespace Go.Br
open Go Go.Eng Go.RowKit Go.Proofs Go.L41
abbrev types:List TypeId:=[9,3,2,205,52,54,151,153,51,57,55,44,31]
theorem cStr:Tryz.prog.cellsOf 9=1:=by kernel_rfl
theorem cInt:Tryz.prog.cellsOf 3=1:=by kernel_rfl
theorem cInt64:Tryz.prog.cellsOf 2=1:=by kernel_rfl
theorem cMono:Tryz.prog.cellsOf 205=2:=by kernel_rfl
theorem cMonos:Tryz.prog.cellsOf 52=1:=by kernel_rfl
theorem cLin:Tryz.prog.cellsOf 54=2:=by kernel_rfl
theorem cLins:Tryz.prog.cellsOf 151=1:=by kernel_rfl
theorem cIndex:Tryz.prog.cellsOf 153=4:=by kernel_rfl
theorem cIndices:Tryz.prog.cellsOf 51=1:=by kernel_rfl
theorem cExpr:Tryz.prog.cellsOf 57=13:=by kernel_rfl
theorem cExprs:Tryz.prog.cellsOf 55=1:=by kernel_rfl
theorem cVal:Tryz.prog.cellsOf 44=2:=by kernel_rfl
theorem cType:Tryz.prog.cellsOf 31=5:=by kernel_rfl
theorem bMono:Tryz.prog.bytesOf 205=24:=by kernel_rfl
theorem bLin:Tryz.prog.bytesOf 54=32:=by kernel_rfl
theorem bIndex:Tryz.prog.bytesOf 153=72:=by kernel_rfl
theorem bExpr:Tryz.prog.bytesOf 57=160:=by kernel_rfl
theorem zEv:reachBytes=140737488351232:=by decide
theorem zIc {f:Nat} {l:List C} (h:Sh Tryz.prog f 9 l):∃s:ByteArray,l=[cS s]:=by
 cases f with
 |zero=>exact h.elim
 |succ f=>have h:=Sh.str Tryz.underlying9 h;obtain ⟨s,h,_⟩:=h;exact ⟨s,h⟩
theorem zHd {f:Nat} {l:List C} (h:Sh Tryz.prog f 3 l):∃n:Int,l=[cI n]:=by
 cases f with
 |zero=>exact h.elim
 |succ f=>have h:=Sh.int Tryz.underlying3 h;obtain ⟨s,h,_⟩:=h;exact ⟨s,h⟩
theorem zPr {f:Nat} {l:List C} (h:Sh Tryz.prog f 2 l):∃n:Int,l=[cI n]:=by
 cases f with
 |zero=>exact h.elim
 |succ f=>have h:=Sh.int Tryz.underlying2 h;obtain ⟨s,h,_⟩:=h;exact ⟨s,h⟩
theorem zGu {α:Type} {Q:α->List C} {P:α->Prop}:∀{rows:List (List C)},(∀r,r∈rows->∃x,r=Q x/\P x)->∃l:List α,rows=l.map Q/\∀x,x∈l->P x
 |[],_=>⟨[],rfl,fun x hx=>by cases hx⟩
 |r::rows,h=>by
  obtain ⟨x,rfl,hx⟩:=h r (by simp)
  obtain ⟨l,rfl,hl⟩:=zGu (rows:=rows) fun r hr=>h r (by simp [hr])
  exact ⟨x::l,rfl,fun y hy=>by rcases List.mem_cons.1 hy with rfl|hy;exact hx;exact hl y hy⟩
theorem sh_mono {f:Nat} {l:List C} (h:Sh Tryz.prog f 205 l):∃x:Mono,l=x.cells/\True:=by
 cases f with
 |zero=>exact h.elim
 |succ f=>
  have h:=Sh.struct Tryz.underlying205 h
  obtain ⟨hl,hf⟩:=h
  rw [cMono] at hl
  match l,hl with
  |[a,b],_=>
   simp only [List.mem_cons,List.not_mem_nil,or_false,forall_eq_or_imp,forall_eq,cStr,cInt64,List.drop_zero,List.drop_succ_cons,List.take_succ_cons,List.take_zero] at hf
   obtain ⟨h0,h1⟩:=hf
   obtain ⟨s,e0⟩:=zIc h0
   obtain ⟨n,e1⟩:=zPr h1
   simp only [List.cons.injEq,and_true] at e0 e1
   subst e0 e1
   exact ⟨⟨s,n⟩,rfl,trivial⟩
theorem sh_monos {f:Nat} {l:List C} (h:Sh Tryz.prog f 52 l):∃x:List Mono,l=[.sl 2 (x.map Mono.cells)]/\x.length<=140737488355328:=by
 cases f with
 |zero=>exact h.elim
 |succ f=>
  have h:=Sh.slice Tryz.underlying52 h
  obtain ⟨rows,rfl,⟨_,hb⟩,hr⟩:=h
  obtain ⟨x,rfl,_⟩:=zGu fun r hr'=>sh_mono (hr r hr')
  rw [bMono,zEv,List.length_map] at hb
  exact ⟨x,by rw [cMono],by omega⟩
theorem sh_lin {f:Nat} {l:List C} (h:Sh Tryz.prog f 54 l):∃x:Lf,l=x.cells/\x.L.length<=140737488355328:=by
 cases f with
 |zero=>exact h.elim
 |succ f=>
  have h:=Sh.struct Tryz.underlying54 h
  obtain ⟨hl,hf⟩:=h
  rw [cLin] at hl
  match l,hl with
  |[a,b],_=>
   simp only [List.mem_cons,List.not_mem_nil,or_false,forall_eq_or_imp,forall_eq,cMonos,cInt64,List.drop_zero,List.drop_succ_cons,List.take_succ_cons,List.take_zero] at hf
   obtain ⟨h0,h1⟩:=hf
   obtain ⟨n,e0⟩:=zPr h0
   obtain ⟨L,e1,hL⟩:=sh_monos h1
   simp only [List.cons.injEq,and_true] at e0 e1
   subst e0 e1
   exact ⟨⟨n,L⟩,rfl,hL⟩
theorem sh_lins {f:Nat} {l:List C} (h:Sh Tryz.prog f 151 l):∃x:List Lf,l=[.sl 2 (x.map Lf.cells)]/\x.length<=140737488355328/\∀y,y∈x->y.L.length<=140737488355328:=by
 cases f with
 |zero=>exact h.elim
 |succ f=>
  have h:=Sh.slice Tryz.underlying151 h
  obtain ⟨rows,rfl,⟨_,hb⟩,hr⟩:=h
  obtain ⟨x,rfl,hx⟩:=zGu fun r hr'=>sh_lin (hr r hr')
  rw [bLin,zEv,List.length_map] at hb
  exact ⟨x,by rw [cLin],by omega,hx⟩
theorem sh_index {f:Nat} {l:List C} (h:Sh Tryz.prog f 153 l):∃x:Ix,l=x.cells/\x.fit:=by
 cases f with
 |zero=>exact h.elim
 |succ f=>
  have h:=Sh.struct Tryz.underlying153 h
  obtain ⟨hl,hf⟩:=h
  rw [cIndex] at hl
  match l,hl with
  |[a,b,c,d],_=>
   simp only [List.mem_cons,List.not_mem_nil,or_false,forall_eq_or_imp,forall_eq,cStr,cLin,cLins,List.drop_zero,List.drop_succ_cons,List.take_succ_cons,List.take_zero] at hf
   obtain ⟨h0,h1,h2⟩:=hf
   obtain ⟨⟨K,L⟩,e0,hL⟩:=sh_lin h0
   obtain ⟨s,e1⟩:=zIc h1
   obtain ⟨A,e2,hA,hA'⟩:=sh_lins h2
   simp only [Lf.cells,List.cons.injEq,and_true] at e0 e1 e2
   obtain ⟨e0,e0'⟩:=e0
   subst e0 e0' e1 e2
   exact ⟨⟨⟨K,L⟩,s,A⟩,rfl,hL,hA,hA'⟩
theorem sh_indices {f:Nat} {l:List C} (h:Sh Tryz.prog f 51 l):∃x:List Ix,l=[.sl 4 (x.map Ix.cells)]/\x.length<=140737488355328/\∀y,y∈x->y.fit:=by
 cases f with
 |zero=>exact h.elim
 |succ f=>
  have h:=Sh.slice Tryz.underlying51 h
  obtain ⟨rows,rfl,⟨_,hb⟩,hr⟩:=h
  obtain ⟨x,rfl,hx⟩:=zGu fun r hr'=>sh_index (hr r hr')
  rw [bIndex,zEv,List.length_map] at hb
  exact ⟨x,by rw [cIndex],by omega,hx⟩
theorem sh_val {f:Nat} {l:List C} (h:Sh Tryz.prog f 44 l):∃a b:Int,l=[cI a,cI b]:=by
 cases f with
 |zero=>exact h.elim
 |succ f=>
  have h:=Sh.struct Tryz.underlying44 h
  obtain ⟨hl,hf⟩:=h
  rw [cVal] at hl
  match l,hl with
  |[a,b],_=>
   simp only [List.mem_cons,List.not_mem_nil,or_false,forall_eq_or_imp,forall_eq,cInt64,List.drop_zero,List.drop_succ_cons,List.take_succ_cons,List.take_zero] at hf
   obtain ⟨h0,h1⟩:=hf
   obtain ⟨n,e0⟩:=zPr h0
   obtain ⟨m,e1⟩:=zPr h1
   simp only [List.cons.injEq,and_true] at e0 e1
   subst e0 e1
   exact ⟨n,m,rfl⟩
theorem sh_type {f:Nat} {l:List C} (h:Sh Tryz.prog f 31 l):∃a b c d e:Int,l=[cI a,cI b,cI c,cI d,cI e]:=by
 cases f with
 |zero=>exact h.elim
 |succ f=>
  have h:=Sh.struct Tryz.underlying31 h
  obtain ⟨hl,hf⟩:=h
  rw [cType] at hl
  match l,hl with
  |[a,b,c,d,e],_=>
   simp only [List.mem_cons,List.not_mem_nil,or_false,forall_eq_or_imp,forall_eq,cInt,List.drop_zero,List.drop_succ_cons,List.take_succ_cons,List.take_zero] at hf
   obtain ⟨h0,h1,h2,h3,h4⟩:=hf
   obtain ⟨n0,e0⟩:=zHd h0
   obtain ⟨n1,e1⟩:=zHd h1
   obtain ⟨n2,e2⟩:=zHd h2
   obtain ⟨n3,e3⟩:=zHd h3
   obtain ⟨n4,e4⟩:=zHd h4
   simp only [List.cons.injEq,and_true] at e0 e1 e2 e3 e4
   subst e0 e1 e2 e3 e4
   exact ⟨_,_,_,_,_,rfl⟩
theorem fitL_of {l:List Ex} (h:∀a,a∈l->a.fit):xM l:=by
 induction l with
 |nil=>trivial
 |cons x r ih=>exact ⟨h x (by simp),ih fun a ha=>h a (by simp [ha])⟩
theorem sh_expr:∀{f:Nat} {l:List C},Sh Tryz.prog f 57 l->∃e:Ex,l=e.cells/\e.fit
 |0,_,h=>h.elim
 |f+1,l,h=>by
  have h:=Sh.struct Tryz.underlying57 h
  obtain ⟨hl,hf⟩:=h
  rw [cExpr] at hl
  match l,hl with
  |[a0,a1,a2,a3,a4,a5,a6,a7,a8,a9,a10,a11,a12],_=>
   simp only [List.mem_cons,List.not_mem_nil,or_false,forall_eq_or_imp,forall_eq,cStr,cInt,cVal,cType,cLin,cIndices,cExprs,List.drop_zero,List.drop_succ_cons,List.take_succ_cons,List.take_zero] at hf
   obtain ⟨h0,h1,h2,h3,h4,h5,h6⟩:=hf
   obtain ⟨o,e0⟩:=zHd h0
   obtain ⟨s,e1⟩:=zIc h1
   obtain ⟨vn,vd,e2⟩:=sh_val h2
   obtain ⟨t1,t2,t3,t4,t5,e3⟩:=sh_type h3
   obtain ⟨⟨K,L⟩,e4,hL⟩:=sh_lin h4
   obtain ⟨I,e5,hI,hI'⟩:=sh_indices h5
   have h7:∃x:List Ex,[a12]=[.sl 13 (x.map Ex.cells)]/\x.length<=140737488355328/\∀y,y∈x->y.fit:=by
    match f,h6 with
    |0,h=>exact h.elim
    |f+1,h=>
     have h:=Sh.slice Tryz.underlying55 h
     obtain ⟨rows,e,⟨_,hb⟩,hr⟩:=h
     obtain ⟨x,rfl,hx⟩:=zGu (P:=Ex.fit) fun r hr'=>sh_expr (f:=f) (hr r hr')
     rw [bExpr,zEv,List.length_map] at hb
     exact ⟨x,by rw [e,cExpr],by omega,hx⟩
   obtain ⟨A,e6,hA,hA'⟩:=h7
   simp only [Lf.cells,List.cons.injEq,and_true] at e0 e1 e2 e3 e4 e5 e6
   obtain ⟨e20,e21⟩:=e2
   obtain ⟨e30,e31,e32,e33,e34⟩:=e3
   obtain ⟨e40,e41⟩:=e4
   subst e0 e1 e20 e21 e30 e31 e32 e33 e34 e40 e41 e5 e6
   refine ⟨.mk o s ⟨vn,vd⟩ ⟨t1,t2,t3,t4,t5⟩ ⟨K,L⟩ I A,?_,?_⟩
   ·rw [Ex.cells,cellsL_eq]
   ·rw [Ex.fit];exact ⟨hL,hI,hA,hI',fitL_of hA'⟩
theorem sh_exprV {f:Nat} {l:List C} (h:Sh Tryz.prog f 57 l):∃e:Ex,l=e.cs/\e.fit:=by
 obtain ⟨e,h1,h2⟩:=sh_expr h
 exact ⟨e,by rw [h1,Ex.cells_eq],h2⟩
end Go.Br
