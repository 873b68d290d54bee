/-
  What an argument of this seat is: nests.
  Conditions: none.
-/
import Derived.Test.YtdldhbfgfkebjaaGreatDoorOpen
import Derived.Test.YtdldhbfgfkebjaaGreatDoorPlain2
set_option linter.unusedSimpArgs false
set_option linter.unusedVariables false
set_option maxRecDepth 100000
namespace Go.Br
open Go Go.Eng Go.RowKit Go.Proofs Go.L41
abbrev typesN:List TypeId:=[9,3,2,205,52,54,151,153,51,57,55,44,31,284,67,69,22,59,23,25]
theorem okTypesN:typesN.all (okT Tryz.prog typesN)=true:=by kernel_rfl
theorem cInts:Tryz.prog.cellsOf 67=1:=by kernel_rfl
theorem cBf:Tryz.prog.cellsOf 69=8:=by kernel_rfl
theorem cBfs:Tryz.prog.cellsOf 22=1:=by kernel_rfl
theorem cSt:Tryz.prog.cellsOf 59=20:=by kernel_rfl
theorem cSts:Tryz.prog.cellsOf 23=1:=by kernel_rfl
theorem cNs:Tryz.prog.cellsOf 25=2:=by kernel_rfl
theorem bInt:Tryz.prog.bytesOf 3=8:=by kernel_rfl
theorem bBf:Tryz.prog.bytesOf 69=88:=by kernel_rfl
theorem bSt:Tryz.prog.bytesOf 59=256:=by kernel_rfl
theorem sh_ints {f:Nat} {l:List C} (h:Sh Tryz.prog f 67 l):∃x:List Int,l=[.sl 1 (x.map fun n=>[cI n])]/\x.length<=17592186044416:=by
 cases f with
 |zero=>exact h.elim
 |succ f=>
  have h:=Sh.slice Tryz.underlying67 h
  obtain ⟨rows,rfl,⟨_,hb⟩,hr⟩:=h
  obtain ⟨x,rfl,_⟩:=zGu (P:=fun _=>True) (Q:=fun n:Int=>[cI n]) fun r hr'=>(zHd (hr r hr')).imp fun _ h=>⟨h,trivial⟩
  rw [bInt,zEv,List.length_map] at hb
  exact ⟨x,by rw [cInt],by omega⟩
theorem sh_bf {f:Nat} {l:List C} (h:Sh Tryz.prog f 69 l):∃x:Bf,l=x.cells/\x.Dims.length<=17592186044416:=by
 cases f with
 |zero=>exact h.elim
 |succ f=>
  have h:=Sh.struct Tryz.underlying69 h
  obtain ⟨hl,hf⟩:=h
  rw [cBf] at hl
  match l,hl with
  |[a0,a1,a2,a3,a4,a5,a6,a7],_=>
   simp only [List.mem_cons,List.not_mem_nil,or_false,forall_eq_or_imp,forall_eq,cType,cStr,cInts,cInt,List.drop_zero,List.drop_succ_cons,List.take_succ_cons,List.take_zero] at hf
   obtain ⟨h0,h1,h2,h3⟩:=hf
   obtain ⟨s,e0⟩:=zIc h0
   obtain ⟨t1,t2,t3,t4,t5,e1⟩:=sh_type h1
   obtain ⟨D,e2,hD⟩:=sh_ints h2
   obtain ⟨u,e3⟩:=zHd h3
   simp only [List.cons.injEq,and_true] at e0 e1 e2 e3
   obtain ⟨e10,e11,e12,e13,e14⟩:=e1
   subst e0 e10 e11 e12 e13 e14 e2 e3
   exact ⟨⟨s,⟨t1,t2,t3,t4,t5⟩,D,u⟩,rfl,hD⟩
theorem sh_bfs {f:Nat} {l:List C} (h:Sh Tryz.prog f 22 l):∃x:List Bf,l=[.sl 8 (x.map Bf.cells)]/\x.length<=140737488355328/\∀y,y∈x->y.Dims.length<=17592186044416:=by
 cases f with
 |zero=>exact h.elim
 |succ f=>
  have h:=Sh.slice Tryz.underlying22 h
  obtain ⟨rows,rfl,⟨_,hb⟩,hr⟩:=h
  obtain ⟨x,rfl,hx⟩:=zGu fun r hr'=>sh_bf (hr r hr')
  rw [bBf,zEv,List.length_map] at hb
  exact ⟨x,by rw [cBf],by omega,hx⟩
theorem sh_st:∀{f:Nat} {l:List C},Sh Tryz.prog f 59 l->∃s:St,l=s.cells/\s.fit
 |0,_,h=>h.elim
 |f+1,l,h=>by
  have h:=Sh.struct Tryz.underlying59 h
  obtain ⟨hl,hf⟩:=h
  rw [cSt] at hl
  match l,hl with
  |[a0,a1,a2,a3,a4,a5,a6,a7,a8,a9,a10,a11,a12,a13,a14,a15,a16,a17,a18,a19],_=>
   simp only [List.mem_cons,List.not_mem_nil,or_false,forall_eq_or_imp,forall_eq,cStr,cInt,cIndices,cExpr,cSts,List.drop_zero,List.drop_succ_cons,List.take_succ_cons,List.take_zero] at hf
   obtain ⟨h0,h1,h2,h3,h4,h5,h6,h7⟩:=hf
   obtain ⟨o,e0⟩:=zHd h0
   obtain ⟨s,e1⟩:=zIc h1
   obtain ⟨mn,e2⟩:=zHd h2
   obtain ⟨mk,e3⟩:=zHd h3
   obtain ⟨fo,e4⟩:=zHd h4
   obtain ⟨I,e5,hI,hI'⟩:=sh_indices h5
   obtain ⟨b,e6,hb⟩:=sh_exprV h6
   have h8:∃x:List St,[a19]=[.sl 20 (x.map St.cells)]/\x.length<=140737488355328/\∀y,y∈x->y.fit:=by
    match f,h7 with
    |0,h=>exact h.elim
    |f+1,h=>
     have h:=Sh.slice Tryz.underlying23 h
     obtain ⟨rows,e,⟨_,hb⟩,hr⟩:=h
     obtain ⟨x,rfl,hx⟩:=zGu (P:=St.fit) fun r hr'=>sh_st (f:=f) (hr r hr')
     rw [bSt,zEv,List.length_map] at hb
     exact ⟨x,by rw [e,cSt],by omega,hx⟩
   obtain ⟨B,e7,hB,hB'⟩:=h8
   simp only [Ex.cs,List.cons.injEq,and_true] at e0 e1 e2 e3 e4 e5 e6 e7
   obtain ⟨f0,f1,f2,f3,f4,f5,f6,f7,f8,f9,f10,f11,f12⟩:=e6
   subst e0 e1 e2 e3 e4 e5 f0 f1 f2 f3 f4 f5 f6 f7 f8 f9 f10 f11 f12 e7
   refine ⟨.mk o s mn mk fo I b B,?_,?_⟩
   ·rw [St.cells,zRi];rfl
   ·rw [St.fit];exact ⟨hI,hI',hb,hB,fitS_of hB'⟩
theorem sh_sts {f:Nat} {l:List C} (h:Sh Tryz.prog f 23 l):∃x:List St,l=[.sl 20 (x.map St.cells)]/\x.length<=140737488355328/\nZ x:=by
 cases f with
 |zero=>exact h.elim
 |succ f=>
  have h:=Sh.slice Tryz.underlying23 h
  obtain ⟨rows,rfl,⟨_,hb⟩,hr⟩:=h
  obtain ⟨x,rfl,hx⟩:=zGu (P:=St.fit) fun r hr'=>sh_st (hr r hr')
  rw [bSt,zEv,List.length_map] at hb
  exact ⟨x,by rw [cSt],by omega,fitS_of hx⟩
theorem sh_nest {f:Nat} {l:List C} (h:Sh Tryz.prog f 25 l):∃x:Ns,l=x.cells/\x.Fit:=by
 cases f with
 |zero=>exact h.elim
 |succ f=>
  have h:=Sh.struct Tryz.underlying25 h
  obtain ⟨hl,hf⟩:=h
  rw [cNs] at hl
  match l,hl with
  |[a0,a1],_=>
   simp only [List.mem_cons,List.not_mem_nil,or_false,forall_eq_or_imp,forall_eq,cBfs,cSts,List.drop_zero,List.drop_succ_cons,List.take_succ_cons,List.take_zero] at hf
   obtain ⟨h0,h1⟩:=hf
   obtain ⟨B,e0,hB,hB'⟩:=sh_bfs h0
   obtain ⟨D,e1,hD,hD'⟩:=sh_sts h1
   simp only [List.cons.injEq,and_true] at e0 e1
   subst e0 e1
   exact ⟨⟨B,D⟩,rfl,⟨hB,hB',hD,hD'⟩⟩
end Go.Br
