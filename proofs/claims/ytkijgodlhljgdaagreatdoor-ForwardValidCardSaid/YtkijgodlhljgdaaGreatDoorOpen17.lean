/-
  What an argument of this seat is: programs.
  Conditions: none.
-/
import Derived.Test.YtkijgodlhljgdaaGreatDoorOpen
import Derived.Test.YtkijgodlhljgdaaGreatDoorPlain
set_option linter.unusedSimpArgs false
set_option linter.unusedVariables false
set_option maxRecDepth 100000
namespace Go.Br
open Go Go.Eng Go.RowKit Go.Proofs Go.L41
abbrev types17:List TypeId:=[9,3,2,101,32,34,63,67,35,38,36,29,31,4,5,285,22,93,23,105,57,65,24,59,25,27]
theorem okTypes17:types17.all (okT Tryz.prog types17)=true:=by kernel_rfl
theorem cBool:Tryz.prog.cellsOf 4=1:=by kernel_rfl
theorem cStrs:Tryz.prog.cellsOf 22=1:=by kernel_rfl
theorem cCn:Tryz.prog.cellsOf 93=3:=by kernel_rfl
theorem cCns:Tryz.prog.cellsOf 23=1:=by kernel_rfl
theorem cAx:Tryz.prog.cellsOf 105=3:=by kernel_rfl
theorem cAxs:Tryz.prog.cellsOf 57=1:=by kernel_rfl
theorem cPm:Tryz.prog.cellsOf 65=7:=by kernel_rfl
theorem cPms:Tryz.prog.cellsOf 24=1:=by kernel_rfl
theorem cDf:Tryz.prog.cellsOf 59=22:=by kernel_rfl
theorem cDfs:Tryz.prog.cellsOf 25=1:=by kernel_rfl
theorem cPg:Tryz.prog.cellsOf 27=5:=by kernel_rfl
theorem bStr:Tryz.prog.bytesOf 9=16:=by kernel_rfl
theorem bCn:Tryz.prog.bytesOf 93=40:=by kernel_rfl
theorem bAx:Tryz.prog.bytesOf 105=48:=by kernel_rfl
theorem bPm:Tryz.prog.bytesOf 65=80:=by kernel_rfl
theorem bDf:Tryz.prog.bytesOf 59=272:=by kernel_rfl
theorem sh_bool {f:Nat} {l:List C} (h:Sh Tryz.prog f 4 l):∃b:Bool,l=[cB b]:=by
 cases f with
 |zero=>exact h.elim
 |succ f=>unfold Sh at h;rw [Tryz.underlying4] at h;exact h
theorem sh_strs {f:Nat} {l:List C} (h:Sh Tryz.prog f 22 l):∃x:List ByteArray,l=[.sl 1 (x.map fun s=>[cS s])]/\x.length<=140737488355328:=by
 cases f with
 |zero=>exact h.elim
 |succ f=>
  have h:=Sh.slice Tryz.underlying22 h
  obtain ⟨rows,rfl,⟨_,hb⟩,hr⟩:=h
  obtain ⟨x,rfl,_⟩:=zEa (P:=fun _=>True) (Q:=fun s:ByteArray=>[cS s]) fun r hr'=>(zDg (hr r hr')).imp fun _ h=>⟨h,trivial⟩
  rw [bStr,zCc,List.length_map] at hb
  exact ⟨x,by rw [cStr],by omega⟩
theorem sh_cn {f:Nat} {l:List C} (h:Sh Tryz.prog f 93 l):∃x:Cn,l=x.cells/\lfFit x.Lin:=by
 cases f with
 |zero=>exact h.elim
 |succ f=>
  have h:=Sh.struct Tryz.underlying93 h
  obtain ⟨hl,hf⟩:=h
  rw [cCn] at hl
  match l,hl with
  |[a,b,c],_=>
   simp only [List.mem_cons,List.not_mem_nil,or_false,forall_eq_or_imp,forall_eq,cLin,cBool,List.drop_zero,List.drop_succ_cons,List.take_succ_cons,List.take_zero] at hf
   obtain ⟨h0,h1⟩:=hf
   obtain ⟨⟨K,L⟩,e0,hL⟩:=sh_lin h0
   obtain ⟨q,e1⟩:=sh_bool h1
   simp only [Lf.cells,List.cons.injEq,and_true] at e0 e1
   obtain ⟨e0,e0'⟩:=e0
   subst e0 e0' e1
   exact ⟨⟨⟨K,L⟩,q⟩,rfl,hL⟩
theorem sh_ax {f:Nat} {l:List C} (h:Sh Tryz.prog f 105 l):∃x:Ax,l=x.cells/\lfFit x.Size:=by
 cases f with
 |zero=>exact h.elim
 |succ f=>
  have h:=Sh.struct Tryz.underlying105 h
  obtain ⟨hl,hf⟩:=h
  rw [cAx] at hl
  match l,hl with
  |[a,b,c],_=>
   simp only [List.mem_cons,List.not_mem_nil,or_false,forall_eq_or_imp,forall_eq,cLin,cStr,List.drop_zero,List.drop_succ_cons,List.take_succ_cons,List.take_zero] at hf
   obtain ⟨h0,h1⟩:=hf
   obtain ⟨s,e0⟩:=zDg h0
   obtain ⟨⟨K,L⟩,e1,hL⟩:=sh_lin h1
   simp only [Lf.cells,List.cons.injEq,and_true] at e0 e1
   obtain ⟨e1,e1'⟩:=e1
   subst e0 e1 e1'
   exact ⟨⟨s,⟨K,L⟩⟩,rfl,hL⟩
theorem sh_cns {f:Nat} {l:List C} (h:Sh Tryz.prog f 23 l):∃x:List Cn,l=[.sl 3 (x.map Cn.cells)]/\x.length<=140737488355328/\∀y,y∈x->lfFit y.Lin:=by
 cases f with
 |zero=>exact h.elim
 |succ f=>
  have h:=Sh.slice Tryz.underlying23 h
  obtain ⟨rows,rfl,⟨_,hb⟩,hr⟩:=h
  obtain ⟨x,rfl,hx⟩:=zEa fun r hr'=>sh_cn (hr r hr')
  rw [bCn,zCc,List.length_map] at hb
  exact ⟨x,by rw [cCn],by omega,hx⟩
theorem sh_axs {f:Nat} {l:List C} (h:Sh Tryz.prog f 57 l):∃x:List Ax,l=[.sl 3 (x.map Ax.cells)]/\x.length<=140737488355328/\∀y,y∈x->lfFit y.Size:=by
 cases f with
 |zero=>exact h.elim
 |succ f=>
  have h:=Sh.slice Tryz.underlying57 h
  obtain ⟨rows,rfl,⟨_,hb⟩,hr⟩:=h
  obtain ⟨x,rfl,hx⟩:=zEa fun r hr'=>sh_ax (hr r hr')
  rw [bAx,zCc,List.length_map] at hb
  exact ⟨x,by rw [cAx],by omega,hx⟩
theorem sh_pm {f:Nat} {l:List C} (h:Sh Tryz.prog f 65 l):∃x:Pm,l=x.cells/\x.fit:=by
 cases f with
 |zero=>exact h.elim
 |succ f=>
  have h:=Sh.struct Tryz.underlying65 h
  obtain ⟨hl,hf⟩:=h
  rw [cPm] at hl
  match l,hl with
  |[a0,a1,a2,a3,a4,a5,a6],_=>
   simp only [List.mem_cons,List.not_mem_nil,or_false,forall_eq_or_imp,forall_eq,cType,cStr,cLins,List.drop_zero,List.drop_succ_cons,List.take_succ_cons,List.take_zero] at hf
   obtain ⟨h0,h1,h2⟩:=hf
   obtain ⟨s,e0⟩:=zDg h0
   obtain ⟨t1,t2,t3,t4,t5,e1⟩:=sh_type h1
   obtain ⟨D,e2,hD,hD'⟩:=sh_lins h2
   simp only [List.cons.injEq,and_true] at e0 e1 e2
   obtain ⟨e10,e11,e12,e13,e14⟩:=e1
   subst e0 e10 e11 e12 e13 e14 e2
   exact ⟨⟨s,⟨t1,t2,t3,t4,t5⟩,D⟩,rfl,hD,hD'⟩
theorem sh_pms {f:Nat} {l:List C} (h:Sh Tryz.prog f 24 l):∃x:List Pm,l=[.sl 7 (x.map Pm.cells)]/\x.length<=140737488355328/\∀y,y∈x->y.fit:=by
 cases f with
 |zero=>exact h.elim
 |succ f=>
  have h:=Sh.slice Tryz.underlying24 h
  obtain ⟨rows,rfl,⟨_,hb⟩,hr⟩:=h
  obtain ⟨x,rfl,hx⟩:=zEa fun r hr'=>sh_pm (hr r hr')
  rw [bPm,zCc,List.length_map] at hb
  exact ⟨x,by rw [cPm],by omega,hx⟩
theorem sh_df {f:Nat} {l:List C} (h:Sh Tryz.prog f 59 l):∃x:Df,l=x.cells/\x.fit:=by
 cases f with
 |zero=>exact h.elim
 |succ f=>
  have h:=Sh.struct Tryz.underlying59 h
  obtain ⟨hl,hf⟩:=h
  rw [cDf] at hl
  match l,hl with
  |[a0,a1,a2,a3,a4,a5,a6,a7,a8,a9,a10,a11,a12,a13,a14,a15,a16,a17,a18,a19,a20,a21],_=>
   simp only [List.mem_cons,List.not_mem_nil,or_false,forall_eq_or_imp,forall_eq,cType,cStr,cAxs,cInt,cExpr,List.drop_zero,List.drop_succ_cons,List.take_succ_cons,List.take_zero] at hf
   obtain ⟨h0,h1,h2,h3,h4,h5⟩:=hf
   obtain ⟨s,e0⟩:=zDg h0
   obtain ⟨t1,t2,t3,t4,t5,e1⟩:=sh_type h1
   obtain ⟨D,e2,hD,hD'⟩:=sh_axs h2
   obtain ⟨R,e3,hR,hR'⟩:=sh_axs h3
   obtain ⟨n,e4⟩:=zMm h4
   obtain ⟨b,e5,hb⟩:=sh_exprV h5
   simp only [Ex.cs,List.cons.injEq,and_true] at e0 e1 e2 e3 e4 e5
   obtain ⟨e10,e11,e12,e13,e14⟩:=e1
   obtain ⟨f0,f1,f2,f3,f4,f5,f6,f7,f8,f9,f10,f11,f12⟩:=e5
   subst e0 e10 e11 e12 e13 e14 e2 e3 e4 f0 f1 f2 f3 f4 f5 f6 f7 f8 f9 f10 f11 f12
   exact ⟨⟨s,⟨t1,t2,t3,t4,t5⟩,D,R,n,b⟩,rfl,hD,hR,hD',hR',hb⟩
theorem sh_dfs {f:Nat} {l:List C} (h:Sh Tryz.prog f 25 l):∃x:List Df,l=[.sl 22 (x.map Df.cells)]/\x.length<=140737488355328/\∀y,y∈x->y.fit:=by
 cases f with
 |zero=>exact h.elim
 |succ f=>
  have h:=Sh.slice Tryz.underlying25 h
  obtain ⟨rows,rfl,⟨_,hb⟩,hr⟩:=h
  obtain ⟨x,rfl,hx⟩:=zEa fun r hr'=>sh_df (hr r hr')
  rw [bDf,zCc,List.length_map] at hb
  exact ⟨x,by rw [cDf],by omega,hx⟩
theorem sh_prog {f:Nat} {l:List C} (h:Sh Tryz.prog f 27 l):∃x:Pg,l=x.cells/\x.Fit:=by
 cases f with
 |zero=>exact h.elim
 |succ f=>
  have h:=Sh.struct Tryz.underlying27 h
  obtain ⟨hl,hf⟩:=h
  rw [cPg] at hl
  match l,hl with
  |[a0,a1,a2,a3,a4],_=>
   simp only [List.mem_cons,List.not_mem_nil,or_false,forall_eq_or_imp,forall_eq,cStrs,cCns,cPms,cDfs,List.drop_zero,List.drop_succ_cons,List.take_succ_cons,List.take_zero] at hf
   obtain ⟨h0,h1,h2,h3,h4⟩:=hf
   obtain ⟨S,e0,hS⟩:=sh_strs h0
   obtain ⟨W,e1,hW,hW'⟩:=sh_cns h1
   obtain ⟨P,e2,hP,hP'⟩:=sh_pms h2
   obtain ⟨D,e3,hD,hD'⟩:=sh_dfs h3
   obtain ⟨O,e4,hO⟩:=sh_strs h4
   simp only [List.cons.injEq,and_true] at e0 e1 e2 e3 e4
   subst e0 e1 e2 e3 e4
   exact ⟨⟨S,W,P,D,O⟩,rfl,⟨hS,hW,hP,hD,hO,hW',hP',hD'⟩⟩
end Go.Br
