/-
  What all rows of this seat need: the world of the witness,the table out of the row's list,the memory at the call's beginning.
  The program's configuration,second form: the table of powers of ten holds what its initialiser lays,too.
  Facts of the whole program that every row of the seat asks for,each by computation.
  What an argument of this seat is.
  What an argument of this seat is: programs.
  What an argument of this seat is: the numbers in its forms are in range.
  What an argument of this seat is: a definition; how long its forms can be,and that their numbers are in range.
  What an argument of this seat is: a program whose forms are no longer than memory.
  What an argument of this seat is: a program whose forms are in range.
  Conditions: none.
-/
import Derived.Test.YtkidnhldibjiaaaGreatDoorCards
import Derived.Test.YtkidnhldibjiaaaGreatDoorTie
import Derived.Test.YtkidnhldibjiaaaGreatDoorCfg
import Derived.Test.YtkidnhldibjiaaaGreatDoorEngY
import Derived.ProofKit
import Derived.Deep.DeepHandedRow
import Derived.Deep.DeepWitnessRowRef
import Derived.Lib.LaidTab
import Derived.Test.YtkidnhldibjiaaaGreatDoorShelfX
import Derived.Test.YtkidnhldibjiaaaGreatDoorEngZ
import Derived.Test.YtkidnhldibjiaaaGreatDoorPlain3
import Derived.Lib.AppendIntMem
import Derived.JoinedCond
import Derived.Test.YtkidnhldibjiaaaGreatDoorPlain
import Derived.Test.YtkidnhldibjiaaaGreatDoorPlain2
set_option linter.unusedSimpArgs false
set_option linter.unusedVariables false
section
namespace Go.L41
open Go Go.Eng Go.RowKit Go.ChangeShapes Go.WideShapes Go.ChangeAt Go.Proofs Go.Proofs.YtkidnhldibjiaaaGreatDoor
theorem own:ownKnob Tryz.prog.godebug=none:=by kernel_rfl
theorem laidOut:laidOutB Tryz.prog=true:=by kernel_rfl
theorem gTabType:(Tryz.prog.globals[2]?).map (·.type)=some 298:=by kernel_rfl
theorem cellsTab:Tryz.prog.cellsOf 298=256:=by kernel_rfl
theorem cellsU8:Tryz.prog.cellsOf 5=1:=by kernel_rfl
abbrev nV : List (String × DataW Unit) := [("unicode.White_Space", Rows.laid_unicode_White_Space), ("strings.asciiSpace", Rows.laid_strings_asciiSpace)]
theorem laid_tail {P:Program} {x:String×DataW Unit} {r:List (String×DataW Unit)} {w:World} (h:laidMet P (x::r) w):laidMet P r w:=by
 obtain ⟨ps,hv,hnd,hrows⟩:=h
 obtain ⟨n,d⟩:=x
 obtain ⟨g,t,cs,fuel,p,q,_,_,_,_,hq,rfl⟩:=hv
 exact ⟨q,hq,List.Nodup.sublist (List.sublist_append_right _ _) hnd,fun b off hm=>hrows b off (List.mem_append_right _ hm)⟩
theorem tab_len:0<Lib.asciiSpaceTab.length:=by rw [Lib.asciiSpaceTab_length];omega
theorem laid_same:(Rows.laid_strings_asciiSpace:DataW Unit)=Lib.tabData .u8 Lib.asciiSpaceTab:=by kernel_rfl
theorem table {W : World} (h : laidMetH Tryz.prog nV W) : Lib.TabIs Tryz.prog W "strings.asciiSpace" .u8 Lib.asciiSpaceTab := by
 have h':laidMet Tryz.prog nV W:=h
 have h2:=laid_tail h'
 rw [laid_same] at h2
 exact Lib.tabIs_of_head (rest:=[]) gTab gTabType Tryz.underlying298 Tryz.underlying5 cellsU8 cellsTab h2
theorem heap0 {W:World} (h:laidMetH Tryz.prog nV W):Heap cfg W (fun b=>b<W.heap.size) []:=by
 refine ⟨?_,table h,by simp [bB],fun b hb=>by simp [bB] at hb,fun b hb=>hb,fun e he=>by simp at he,fun e he=>by simp at he⟩
 have hc:=(table h).cell gTab 0 tab_len
 have:=World.block_lt_of_cell? W _ hc
 exact this
noncomputable def pE (os:Os):World:=
 let N:=(World.settled Tryz.prog os).heap.size
 let r (a b c:Int):List Value:=[.int .u16 a,.int .u16 b,.int .u16 c]
 let w0:=World.holding Tryz.prog os ⟨#[
  .cells (r 9 13 1++r 32 133 101++r 160 5760 5600++r 8192 8202 1++r 8232 8233 1++r 8239 8287 48++r 12288 12288 1).toArray 333,
  .cells #[.slice (some ⟨N,0,none⟩) 7 7,.slice none 0 0,.int .i64 2] 330],#[],[]⟩
 let put (h:Array Obj) (g:Nat) (cs:Array Value):Array Obj:=h.modify g fun
  |.cells _ t frozen=>.cells cs t frozen
  |o=>o
 let h1:=put w0.heap 2 (Lib.asciiSpaceTab.map fun z=>Value.int .u8 z).toArray
 let h2:=put h1 3 #[.pointer (some ⟨N+1,0,none⟩)]
 { w0 with heap:=h2 }
theorem laid_met (os:Os) (args:Array Value):laidMet Tryz.prog nV ((pE os).forCall (fun _ _=>0) ⟨#[],args,[]⟩).memory:=
 laidMet_of_run' 8 (by kernel_rfl) (by kernel_rfl)
end Go.L41
end
section
namespace Go.Br
open Go Go.Eng Go.RowKit Go.Proofs Go.L41
theorem gPow : Tryz.prog.globalNamed "internal/strconv.uint64pow10" = some 1 := by kernel_rfl
theorem pow_kept (w w' : World) (h : ∀ b, b < 1 + 1 → w'.heap[b]? = w.heap[b]?) (k : Lib.TabIs Tryz.prog w "internal/strconv.uint64pow10" .u64 Lib.pow10Tab) : Lib.TabIs Tryz.prog w' "internal/strconv.uint64pow10" .u64 Lib.pow10Tab := by
 unfold Lib.TabIs World.var? at *
 rw [gPow] at *
 simp only [Option.bind_some] at *
 rw [h _ (by omega)]
 exact k
noncomputable def cfgI : Cfg := ⟨Tryz.prog, max (2 + 1) (1 + 1), fun w => Lib.TabIs Tryz.prog w "strings.asciiSpace" .u8 Lib.asciiSpaceTab ∧ Lib.TabIs Tryz.prog w "internal/strconv.uint64pow10" .u64 Lib.pow10Tab,
 fun w w' h k=>⟨tab_kept w w' (fun b hb=>h b (by omega)) k.1,pow_kept w w' (fun b hb=>h b (by omega)) k.2⟩⟩
open Go.Sort in
theorem strconv_Itoa (n:Nat) (h:n<=9223372036854775807):Pur cfgI 95 [vI n] (vS (tZ n)):=by
 intro w I vs hH ha
 match vs,ha with
 |[v],ha=>
  have hv:CRep w I (cI n) v:=ha.1
  cases hv
  refine (Tryz.strconv_Itoa n (by omega) (by omega) w hH.glob.2).mono ?_
  rintro e w' ⟨rfl,k,os,rfl⟩
  have hb:=Lib.below_grow w.heap.size w (Nat.le_refl _) k os
  refine ⟨_,_,[],I,rfl,rfl,?_,?_,?_⟩
  ·show CRep _ _ (cS (tZ n)) _
   rw [show (⟨(Lib.itoa n).toArray⟩:ByteArray)=tZ n by unfold tZ Lib.itoa;rw [if_neg (by omega)];simp]
   exact CRep.lit _ rfl
  ·refine ⟨by have:=hH.lo;have:=hb.size;omega,cfgI.hG _ _ (fun b hb'=>hb.block b (by have:=hH.lo;omega)) hH.glob,by simp [bB],fun b hb=>by simp [bB] at hb,fun b hb'=>?_,fun en hen=>by simp at hen,fun en hen=>by simp at hen⟩
   have:=hH.imm b hb';have:=hb.size;omega
  ·exact ⟨hb.os,hb.tape,hb.output,hb.size,fun b hb' _=>hb.block b hb',fun b hb=>hb,fun b hb=>.inl hb,fun b hb=>by simp [bB] at hb⟩
end Go.Br
end
section
namespace Go.Br
open Go Go.Proofs Go.Proofs.YtkidnhldibjiaaaGreatDoor
set_option maxRecDepth 100000
theorem side25:Tryz.pinned.checked.prog.mayEnter=true:=by kernel_rfl
theorem side26:(Rows.cseCandidatesRow.lifted==Tryz.pinned.checked.prog.liftsFinal)=true:=by kernel_rfl
theorem side27:(Tryz.pinned.checked.prog.make==some Rows.cseCandidatesRow.make)=true:=by kernel_rfl
end Go.Br
end
section
set_option maxRecDepth 100000
namespace Go.Br
open Go Go.Eng Go.RowKit Go.Proofs Go.L41
abbrev types:List TypeId:=[9,3,2,107,38,40,65,115,41,44,42,35,37]
theorem cStr:Tryz.prog.cellsOf 9=1:=by kernel_rfl
theorem cInt:Tryz.prog.cellsOf 3=1:=by kernel_rfl
theorem cInt64:Tryz.prog.cellsOf 2=1:=by kernel_rfl
theorem cMono:Tryz.prog.cellsOf 107=2:=by kernel_rfl
theorem cMonos:Tryz.prog.cellsOf 38=1:=by kernel_rfl
theorem cLin:Tryz.prog.cellsOf 40=2:=by kernel_rfl
theorem cLins:Tryz.prog.cellsOf 65=1:=by kernel_rfl
theorem cIndex:Tryz.prog.cellsOf 115=4:=by kernel_rfl
theorem cIndices:Tryz.prog.cellsOf 41=1:=by kernel_rfl
theorem cExpr:Tryz.prog.cellsOf 44=13:=by kernel_rfl
theorem cExprs:Tryz.prog.cellsOf 42=1:=by kernel_rfl
theorem cVal:Tryz.prog.cellsOf 35=2:=by kernel_rfl
theorem cType:Tryz.prog.cellsOf 37=5:=by kernel_rfl
theorem bMono:Tryz.prog.bytesOf 107=24:=by kernel_rfl
theorem bLin:Tryz.prog.bytesOf 40=32:=by kernel_rfl
theorem bIndex:Tryz.prog.bytesOf 115=72:=by kernel_rfl
theorem bExpr:Tryz.prog.bytesOf 44=160:=by kernel_rfl
theorem zDj:reachBytes=140737488351232:=by decide
theorem zEp {f:Nat} {l:List C} (h:Sh Tryz.prog f 9 l):∃s:ByteArray,l=[cS s]:=by
 cases f with
 |zero=>exact h.elim
 |succ f=>have h:=Sh.str Tryz.underlying9 h;obtain ⟨s,h,_⟩:=h;exact ⟨s,h⟩
theorem zQi {f:Nat} {l:List C} (h:Sh Tryz.prog f 3 l):∃n:Int,l=[cI n]:=by
 cases f with
 |zero=>exact h.elim
 |succ f=>have h:=Sh.int Tryz.underlying3 h;obtain ⟨s,h,_⟩:=h;exact ⟨s,h⟩
theorem zPb {f:Nat} {l:List C} (h:Sh Tryz.prog f 2 l):∃n:Int,l=[cI n]:=by
 cases f with
 |zero=>exact h.elim
 |succ f=>have h:=Sh.int Tryz.underlying2 h;obtain ⟨s,h,_⟩:=h;exact ⟨s,h⟩
theorem zFn {α:Type} {Q:α->List C} {P:α->Prop}:∀{rows:List (List C)},(∀r,r∈rows->∃x,r=Q x/\P x)->∃l:List α,rows=l.map Q/\∀x,x∈l->P x
 |[],_=>⟨[],rfl,fun x hx=>by cases hx⟩
 |r::rows,h=>by
  obtain ⟨x,rfl,hx⟩:=h r (by simp)
  obtain ⟨l,rfl,hl⟩:=zFn (rows:=rows) fun r hr=>h r (by simp [hr])
  exact ⟨x::l,rfl,fun y hy=>by rcases List.mem_cons.1 hy with rfl|hy;exact hx;exact hl y hy⟩
theorem sh_mono {f:Nat} {l:List C} (h:Sh Tryz.prog f 107 l):∃x:Mono,l=x.cells/\True:=by
 cases f with
 |zero=>exact h.elim
 |succ f=>
  have h:=Sh.struct Tryz.underlying107 h
  obtain ⟨hl,hf⟩:=h
  rw [cMono] at hl
  match l,hl with
  |[a,b],_=>
   simp only [List.mem_cons,List.not_mem_nil,or_false,forall_eq_or_imp,forall_eq,cStr,cInt64,List.drop_zero,List.drop_succ_cons,List.take_succ_cons,List.take_zero] at hf
   obtain ⟨h0,h1⟩:=hf
   obtain ⟨s,e0⟩:=zEp h0
   obtain ⟨n,e1⟩:=zPb h1
   simp only [List.cons.injEq,and_true] at e0 e1
   subst e0 e1
   exact ⟨⟨s,n⟩,rfl,trivial⟩
theorem sh_monos {f:Nat} {l:List C} (h:Sh Tryz.prog f 38 l):∃x:List Mono,l=[.sl 2 (x.map Mono.cells)]/\x.length<=140737488355328:=by
 cases f with
 |zero=>exact h.elim
 |succ f=>
  have h:=Sh.slice Tryz.underlying38 h
  obtain ⟨rows,rfl,⟨_,hb⟩,hr⟩:=h
  obtain ⟨x,rfl,_⟩:=zFn fun r hr'=>sh_mono (hr r hr')
  rw [bMono,zDj,List.length_map] at hb
  exact ⟨x,by rw [cMono],by omega⟩
theorem sh_lin {f:Nat} {l:List C} (h:Sh Tryz.prog f 40 l):∃x:Lf,l=x.cells/\x.L.length<=140737488355328:=by
 cases f with
 |zero=>exact h.elim
 |succ f=>
  have h:=Sh.struct Tryz.underlying40 h
  obtain ⟨hl,hf⟩:=h
  rw [cLin] at hl
  match l,hl with
  |[a,b],_=>
   simp only [List.mem_cons,List.not_mem_nil,or_false,forall_eq_or_imp,forall_eq,cMonos,cInt64,List.drop_zero,List.drop_succ_cons,List.take_succ_cons,List.take_zero] at hf
   obtain ⟨h0,h1⟩:=hf
   obtain ⟨n,e0⟩:=zPb h0
   obtain ⟨L,e1,hL⟩:=sh_monos h1
   simp only [List.cons.injEq,and_true] at e0 e1
   subst e0 e1
   exact ⟨⟨n,L⟩,rfl,hL⟩
theorem sh_lins {f:Nat} {l:List C} (h:Sh Tryz.prog f 65 l):∃x:List Lf,l=[.sl 2 (x.map Lf.cells)]/\x.length<=140737488355328/\∀y,y∈x->y.L.length<=140737488355328:=by
 cases f with
 |zero=>exact h.elim
 |succ f=>
  have h:=Sh.slice Tryz.underlying65 h
  obtain ⟨rows,rfl,⟨_,hb⟩,hr⟩:=h
  obtain ⟨x,rfl,hx⟩:=zFn fun r hr'=>sh_lin (hr r hr')
  rw [bLin,zDj,List.length_map] at hb
  exact ⟨x,by rw [cLin],by omega,hx⟩
theorem sh_index {f:Nat} {l:List C} (h:Sh Tryz.prog f 115 l):∃x:Ix,l=x.cells/\x.fit:=by
 cases f with
 |zero=>exact h.elim
 |succ f=>
  have h:=Sh.struct Tryz.underlying115 h
  obtain ⟨hl,hf⟩:=h
  rw [cIndex] at hl
  match l,hl with
  |[a,b,c,d],_=>
   simp only [List.mem_cons,List.not_mem_nil,or_false,forall_eq_or_imp,forall_eq,cStr,cLin,cLins,List.drop_zero,List.drop_succ_cons,List.take_succ_cons,List.take_zero] at hf
   obtain ⟨h0,h1,h2⟩:=hf
   obtain ⟨⟨K,L⟩,e0,hL⟩:=sh_lin h0
   obtain ⟨s,e1⟩:=zEp h1
   obtain ⟨A,e2,hA,hA'⟩:=sh_lins h2
   simp only [Lf.cells,List.cons.injEq,and_true] at e0 e1 e2
   obtain ⟨e0,e0'⟩:=e0
   subst e0 e0' e1 e2
   exact ⟨⟨⟨K,L⟩,s,A⟩,rfl,hL,hA,hA'⟩
theorem sh_indices {f:Nat} {l:List C} (h:Sh Tryz.prog f 41 l):∃x:List Ix,l=[.sl 4 (x.map Ix.cells)]/\x.length<=140737488355328/\∀y,y∈x->y.fit:=by
 cases f with
 |zero=>exact h.elim
 |succ f=>
  have h:=Sh.slice Tryz.underlying41 h
  obtain ⟨rows,rfl,⟨_,hb⟩,hr⟩:=h
  obtain ⟨x,rfl,hx⟩:=zFn fun r hr'=>sh_index (hr r hr')
  rw [bIndex,zDj,List.length_map] at hb
  exact ⟨x,by rw [cIndex],by omega,hx⟩
theorem sh_val {f:Nat} {l:List C} (h:Sh Tryz.prog f 35 l):∃a b:Int,l=[cI a,cI b]:=by
 cases f with
 |zero=>exact h.elim
 |succ f=>
  have h:=Sh.struct Tryz.underlying35 h
  obtain ⟨hl,hf⟩:=h
  rw [cVal] at hl
  match l,hl with
  |[a,b],_=>
   simp only [List.mem_cons,List.not_mem_nil,or_false,forall_eq_or_imp,forall_eq,cInt64,List.drop_zero,List.drop_succ_cons,List.take_succ_cons,List.take_zero] at hf
   obtain ⟨h0,h1⟩:=hf
   obtain ⟨n,e0⟩:=zPb h0
   obtain ⟨m,e1⟩:=zPb h1
   simp only [List.cons.injEq,and_true] at e0 e1
   subst e0 e1
   exact ⟨n,m,rfl⟩
theorem sh_type {f:Nat} {l:List C} (h:Sh Tryz.prog f 37 l):∃a b c d e:Int,l=[cI a,cI b,cI c,cI d,cI e]:=by
 cases f with
 |zero=>exact h.elim
 |succ f=>
  have h:=Sh.struct Tryz.underlying37 h
  obtain ⟨hl,hf⟩:=h
  rw [cType] at hl
  match l,hl with
  |[a,b,c,d,e],_=>
   simp only [List.mem_cons,List.not_mem_nil,or_false,forall_eq_or_imp,forall_eq,cInt,List.drop_zero,List.drop_succ_cons,List.take_succ_cons,List.take_zero] at hf
   obtain ⟨h0,h1,h2,h3,h4⟩:=hf
   obtain ⟨n0,e0⟩:=zQi h0
   obtain ⟨n1,e1⟩:=zQi h1
   obtain ⟨n2,e2⟩:=zQi h2
   obtain ⟨n3,e3⟩:=zQi h3
   obtain ⟨n4,e4⟩:=zQi h4
   simp only [List.cons.injEq,and_true] at e0 e1 e2 e3 e4
   subst e0 e1 e2 e3 e4
   exact ⟨_,_,_,_,_,rfl⟩
theorem fitL_of {l:List Ex} (h:∀a,a∈l->a.fit):tY l:=by
 induction l with
 |nil=>trivial
 |cons x r ih=>exact ⟨h x (by simp),ih fun a ha=>h a (by simp [ha])⟩
theorem sh_expr:∀{f:Nat} {l:List C},Sh Tryz.prog f 44 l->∃e:Ex,l=e.cells/\e.fit
 |0,_,h=>h.elim
 |f+1,l,h=>by
  have h:=Sh.struct Tryz.underlying44 h
  obtain ⟨hl,hf⟩:=h
  rw [cExpr] at hl
  match l,hl with
  |[a0,a1,a2,a3,a4,a5,a6,a7,a8,a9,a10,a11,a12],_=>
   simp only [List.mem_cons,List.not_mem_nil,or_false,forall_eq_or_imp,forall_eq,cStr,cInt,cVal,cType,cLin,cIndices,cExprs,List.drop_zero,List.drop_succ_cons,List.take_succ_cons,List.take_zero] at hf
   obtain ⟨h0,h1,h2,h3,h4,h5,h6⟩:=hf
   obtain ⟨o,e0⟩:=zQi h0
   obtain ⟨s,e1⟩:=zEp h1
   obtain ⟨vn,vd,e2⟩:=sh_val h2
   obtain ⟨t1,t2,t3,t4,t5,e3⟩:=sh_type h3
   obtain ⟨⟨K,L⟩,e4,hL⟩:=sh_lin h4
   obtain ⟨I,e5,hI,hI'⟩:=sh_indices h5
   have h7:∃x:List Ex,[a12]=[.sl 13 (x.map Ex.cells)]/\x.length<=140737488355328/\∀y,y∈x->y.fit:=by
    match f,h6 with
    |0,h=>exact h.elim
    |f+1,h=>
     have h:=Sh.slice Tryz.underlying42 h
     obtain ⟨rows,e,⟨_,hb⟩,hr⟩:=h
     obtain ⟨x,rfl,hx⟩:=zFn (P:=Ex.fit) fun r hr'=>sh_expr (f:=f) (hr r hr')
     rw [bExpr,zDj,List.length_map] at hb
     exact ⟨x,by rw [e,cExpr],by omega,hx⟩
   obtain ⟨A,e6,hA,hA'⟩:=h7
   simp only [Lf.cells,List.cons.injEq,and_true] at e0 e1 e2 e3 e4 e5 e6
   obtain ⟨e20,e21⟩:=e2
   obtain ⟨e30,e31,e32,e33,e34⟩:=e3
   obtain ⟨e40,e41⟩:=e4
   subst e0 e1 e20 e21 e30 e31 e32 e33 e34 e40 e41 e5 e6
   refine ⟨.mk o s ⟨vn,vd⟩ ⟨t1,t2,t3,t4,t5⟩ ⟨K,L⟩ I A,?_,?_⟩
   ·rw [Ex.cells,cellsL_eq]
   ·rw [Ex.fit];exact ⟨hL,hI,hA,hI',fitL_of hA'⟩
theorem sh_exprV {f:Nat} {l:List C} (h:Sh Tryz.prog f 44 l):∃e:Ex,l=e.cs/\e.fit:=by
 obtain ⟨e,h1,h2⟩:=sh_expr h
 exact ⟨e,by rw [h1,Ex.cells_eq],h2⟩
end Go.Br
end
section
set_option maxRecDepth 100000
namespace Go.Br
open Go Go.Eng Go.RowKit Go.Proofs Go.L41
abbrev types17:List TypeId:=[9,3,2,107,38,40,65,115,41,44,42,35,37,4,5,331,22,101,23,111,61,67,24,63,25,27]
theorem okTypes17:types17.all (okT Tryz.prog types17)=true:=by kernel_rfl
theorem cBool:Tryz.prog.cellsOf 4=1:=by kernel_rfl
theorem cStrs:Tryz.prog.cellsOf 22=1:=by kernel_rfl
theorem cCn:Tryz.prog.cellsOf 101=3:=by kernel_rfl
theorem cCns:Tryz.prog.cellsOf 23=1:=by kernel_rfl
theorem cAx:Tryz.prog.cellsOf 111=3:=by kernel_rfl
theorem cAxs:Tryz.prog.cellsOf 61=1:=by kernel_rfl
theorem cPm:Tryz.prog.cellsOf 67=7:=by kernel_rfl
theorem cPms:Tryz.prog.cellsOf 24=1:=by kernel_rfl
theorem cDf:Tryz.prog.cellsOf 63=22:=by kernel_rfl
theorem cDfs:Tryz.prog.cellsOf 25=1:=by kernel_rfl
theorem cPg:Tryz.prog.cellsOf 27=5:=by kernel_rfl
theorem bStr:Tryz.prog.bytesOf 9=16:=by kernel_rfl
theorem bCn:Tryz.prog.bytesOf 101=40:=by kernel_rfl
theorem bAx:Tryz.prog.bytesOf 111=48:=by kernel_rfl
theorem bPm:Tryz.prog.bytesOf 67=80:=by kernel_rfl
theorem bDf:Tryz.prog.bytesOf 63=272:=by kernel_rfl
theorem sh_bool {f:Nat} {l:List C} (h:Sh Tryz.prog f 4 l):∃b:Bool,l=[cB b]:=by
 cases f with
 |zero=>exact h.elim
 |succ f=>unfold Sh at h;rw [Tryz.underlying4] at h;exact h
theorem sh_strs {f:Nat} {l:List C} (h:Sh Tryz.prog f 22 l):∃x:List ByteArray,l=[.sl 1 (x.map fun s=>[cS s])]/\x.length<=140737488355328:=by
 cases f with
 |zero=>exact h.elim
 |succ f=>
  have h:=Sh.slice Tryz.underlying22 h
  obtain ⟨rows,rfl,⟨_,hb⟩,hr⟩:=h
  obtain ⟨x,rfl,_⟩:=zFn (P:=fun _=>True) (Q:=fun s:ByteArray=>[cS s]) fun r hr'=>(zEp (hr r hr')).imp fun _ h=>⟨h,trivial⟩
  rw [bStr,zDj,List.length_map] at hb
  exact ⟨x,by rw [cStr],by omega⟩
theorem sh_cn {f:Nat} {l:List C} (h:Sh Tryz.prog f 101 l):∃x:Cn,l=x.cells/\pJ x.Lin:=by
 cases f with
 |zero=>exact h.elim
 |succ f=>
  have h:=Sh.struct Tryz.underlying101 h
  obtain ⟨hl,hf⟩:=h
  rw [cCn] at hl
  match l,hl with
  |[a,b,c],_=>
   simp only [List.mem_cons,List.not_mem_nil,or_false,forall_eq_or_imp,forall_eq,cLin,cBool,List.drop_zero,List.drop_succ_cons,List.take_succ_cons,List.take_zero] at hf
   obtain ⟨h0,h1⟩:=hf
   obtain ⟨⟨K,L⟩,e0,hL⟩:=sh_lin h0
   obtain ⟨q,e1⟩:=sh_bool h1
   simp only [Lf.cells,List.cons.injEq,and_true] at e0 e1
   obtain ⟨e0,e0'⟩:=e0
   subst e0 e0' e1
   exact ⟨⟨⟨K,L⟩,q⟩,rfl,hL⟩
theorem sh_ax {f:Nat} {l:List C} (h:Sh Tryz.prog f 111 l):∃x:Ax,l=x.cells/\pJ x.Size:=by
 cases f with
 |zero=>exact h.elim
 |succ f=>
  have h:=Sh.struct Tryz.underlying111 h
  obtain ⟨hl,hf⟩:=h
  rw [cAx] at hl
  match l,hl with
  |[a,b,c],_=>
   simp only [List.mem_cons,List.not_mem_nil,or_false,forall_eq_or_imp,forall_eq,cLin,cStr,List.drop_zero,List.drop_succ_cons,List.take_succ_cons,List.take_zero] at hf
   obtain ⟨h0,h1⟩:=hf
   obtain ⟨s,e0⟩:=zEp h0
   obtain ⟨⟨K,L⟩,e1,hL⟩:=sh_lin h1
   simp only [Lf.cells,List.cons.injEq,and_true] at e0 e1
   obtain ⟨e1,e1'⟩:=e1
   subst e0 e1 e1'
   exact ⟨⟨s,⟨K,L⟩⟩,rfl,hL⟩
theorem sh_cns {f:Nat} {l:List C} (h:Sh Tryz.prog f 23 l):∃x:List Cn,l=[.sl 3 (x.map Cn.cells)]/\x.length<=140737488355328/\∀y,y∈x->pJ y.Lin:=by
 cases f with
 |zero=>exact h.elim
 |succ f=>
  have h:=Sh.slice Tryz.underlying23 h
  obtain ⟨rows,rfl,⟨_,hb⟩,hr⟩:=h
  obtain ⟨x,rfl,hx⟩:=zFn fun r hr'=>sh_cn (hr r hr')
  rw [bCn,zDj,List.length_map] at hb
  exact ⟨x,by rw [cCn],by omega,hx⟩
theorem sh_axs {f:Nat} {l:List C} (h:Sh Tryz.prog f 61 l):∃x:List Ax,l=[.sl 3 (x.map Ax.cells)]/\x.length<=140737488355328/\∀y,y∈x->pJ y.Size:=by
 cases f with
 |zero=>exact h.elim
 |succ f=>
  have h:=Sh.slice Tryz.underlying61 h
  obtain ⟨rows,rfl,⟨_,hb⟩,hr⟩:=h
  obtain ⟨x,rfl,hx⟩:=zFn fun r hr'=>sh_ax (hr r hr')
  rw [bAx,zDj,List.length_map] at hb
  exact ⟨x,by rw [cAx],by omega,hx⟩
theorem sh_pm {f:Nat} {l:List C} (h:Sh Tryz.prog f 67 l):∃x:Pm,l=x.cells/\x.fit:=by
 cases f with
 |zero=>exact h.elim
 |succ f=>
  have h:=Sh.struct Tryz.underlying67 h
  obtain ⟨hl,hf⟩:=h
  rw [cPm] at hl
  match l,hl with
  |[a0,a1,a2,a3,a4,a5,a6],_=>
   simp only [List.mem_cons,List.not_mem_nil,or_false,forall_eq_or_imp,forall_eq,cType,cStr,cLins,List.drop_zero,List.drop_succ_cons,List.take_succ_cons,List.take_zero] at hf
   obtain ⟨h0,h1,h2⟩:=hf
   obtain ⟨s,e0⟩:=zEp h0
   obtain ⟨t1,t2,t3,t4,t5,e1⟩:=sh_type h1
   obtain ⟨D,e2,hD,hD'⟩:=sh_lins h2
   simp only [List.cons.injEq,and_true] at e0 e1 e2
   obtain ⟨e10,e11,e12,e13,e14⟩:=e1
   subst e0 e10 e11 e12 e13 e14 e2
   exact ⟨⟨s,⟨t1,t2,t3,t4,t5⟩,D⟩,rfl,hD,hD'⟩
theorem sh_pms {f:Nat} {l:List C} (h:Sh Tryz.prog f 24 l):∃x:List Pm,l=[.sl 7 (x.map Pm.cells)]/\x.length<=140737488355328/\∀y,y∈x->y.fit:=by
 cases f with
 |zero=>exact h.elim
 |succ f=>
  have h:=Sh.slice Tryz.underlying24 h
  obtain ⟨rows,rfl,⟨_,hb⟩,hr⟩:=h
  obtain ⟨x,rfl,hx⟩:=zFn fun r hr'=>sh_pm (hr r hr')
  rw [bPm,zDj,List.length_map] at hb
  exact ⟨x,by rw [cPm],by omega,hx⟩
theorem sh_df {f:Nat} {l:List C} (h:Sh Tryz.prog f 63 l):∃x:Df,l=x.cells/\x.fit:=by
 cases f with
 |zero=>exact h.elim
 |succ f=>
  have h:=Sh.struct Tryz.underlying63 h
  obtain ⟨hl,hf⟩:=h
  rw [cDf] at hl
  match l,hl with
  |[a0,a1,a2,a3,a4,a5,a6,a7,a8,a9,a10,a11,a12,a13,a14,a15,a16,a17,a18,a19,a20,a21],_=>
   simp only [List.mem_cons,List.not_mem_nil,or_false,forall_eq_or_imp,forall_eq,cType,cStr,cAxs,cInt,cExpr,List.drop_zero,List.drop_succ_cons,List.take_succ_cons,List.take_zero] at hf
   obtain ⟨h0,h1,h2,h3,h4,h5⟩:=hf
   obtain ⟨s,e0⟩:=zEp h0
   obtain ⟨t1,t2,t3,t4,t5,e1⟩:=sh_type h1
   obtain ⟨D,e2,hD,hD'⟩:=sh_axs h2
   obtain ⟨R,e3,hR,hR'⟩:=sh_axs h3
   obtain ⟨n,e4⟩:=zQi h4
   obtain ⟨b,e5,hb⟩:=sh_exprV h5
   simp only [Ex.cs,List.cons.injEq,and_true] at e0 e1 e2 e3 e4 e5
   obtain ⟨e10,e11,e12,e13,e14⟩:=e1
   obtain ⟨f0,f1,f2,f3,f4,f5,f6,f7,f8,f9,f10,f11,f12⟩:=e5
   subst e0 e10 e11 e12 e13 e14 e2 e3 e4 f0 f1 f2 f3 f4 f5 f6 f7 f8 f9 f10 f11 f12
   exact ⟨⟨s,⟨t1,t2,t3,t4,t5⟩,D,R,n,b⟩,rfl,hD,hR,hD',hR',hb⟩
theorem sh_dfs {f:Nat} {l:List C} (h:Sh Tryz.prog f 25 l):∃x:List Df,l=[.sl 22 (x.map Df.cells)]/\x.length<=140737488355328/\∀y,y∈x->y.fit:=by
 cases f with
 |zero=>exact h.elim
 |succ f=>
  have h:=Sh.slice Tryz.underlying25 h
  obtain ⟨rows,rfl,⟨_,hb⟩,hr⟩:=h
  obtain ⟨x,rfl,hx⟩:=zFn fun r hr'=>sh_df (hr r hr')
  rw [bDf,zDj,List.length_map] at hb
  exact ⟨x,by rw [cDf],by omega,hx⟩
theorem sh_prog {f:Nat} {l:List C} (h:Sh Tryz.prog f 27 l):∃x:Pg,l=x.cells/\x.Fit:=by
 cases f with
 |zero=>exact h.elim
 |succ f=>
  have h:=Sh.struct Tryz.underlying27 h
  obtain ⟨hl,hf⟩:=h
  rw [cPg] at hl
  match l,hl with
  |[a0,a1,a2,a3,a4],_=>
   simp only [List.mem_cons,List.not_mem_nil,or_false,forall_eq_or_imp,forall_eq,cStrs,cCns,cPms,cDfs,List.drop_zero,List.drop_succ_cons,List.take_succ_cons,List.take_zero] at hf
   obtain ⟨h0,h1,h2,h3,h4⟩:=hf
   obtain ⟨S,e0,hS⟩:=sh_strs h0
   obtain ⟨W,e1,hW,hW'⟩:=sh_cns h1
   obtain ⟨P,e2,hP,hP'⟩:=sh_pms h2
   obtain ⟨D,e3,hD,hD'⟩:=sh_dfs h3
   obtain ⟨O,e4,hO⟩:=sh_strs h4
   simp only [List.cons.injEq,and_true] at e0 e1 e2 e3 e4
   subst e0 e1 e2 e3 e4
   exact ⟨⟨S,W,P,D,O⟩,rfl,⟨hS,hW,hP,hD,hO,hW',hP',hD'⟩⟩
end Go.Br
end
section
set_option maxRecDepth 100000
namespace Go.Br
open Go Go.Eng Go.RowKit Go.Proofs Go.L41
theorem rng_int64 {f:Nat} {n:Int} (h:Sh Tryz.prog f 2 [cI n]):r64 n:=by
 cases f with
 |zero=>exact h.elim
 |succ f=>
  obtain ⟨m,e,hw⟩:=Sh.int Tryz.underlying2 h
  injection e with e1
  injection e1 with e1
  injection e1 with _ e1
  subst e1
  have hw:(decide (IntKind.i64.min<=n)&&decide (n<=IntKind.i64.max))=true:=hw
  rw [Bool.and_eq_true,decide_eq_true_eq,decide_eq_true_eq] at hw
  exact hw
theorem rng_mono {f:Nat} {x:Mono} (h:Sh Tryz.prog f 107 x.cells):r64 x.By:=by
 cases f with
 |zero=>exact h.elim
 |succ f=>
  obtain ⟨_,hf⟩:=Sh.struct Tryz.underlying107 h
  simp only [Mono.cells,List.mem_cons,List.not_mem_nil,or_false,forall_eq_or_imp,forall_eq,cStr,cInt64,List.drop_zero,List.drop_succ_cons,List.take_succ_cons,List.take_zero] at hf
  exact rng_int64 hf.2
theorem zGs {α:Type} {Q:α->List C} {f:Nat} {t e:TypeId} {n:Nat} {l:List α} (hu:Tryz.prog.underlying t=some (.slice e)) (h:Sh Tryz.prog (f+1) t [.sl n (l.map Q)]):∀x,x∈l->Sh Tryz.prog f e (Q x):=by
 obtain ⟨rows,e,_,hr⟩:=Sh.slice hu h
 injection e with e1
 injection e1 with _ e1
 intro x hx
 exact hr _ (by rw [←e1];exact List.mem_map.2 ⟨x,hx,rfl⟩)
theorem rng_lin {f:Nat} {x:Lf} (h:Sh Tryz.prog f 40 x.cells):x.rng:=by
 match f,h with
 |0,h=>exact h.elim
 |f+1,h=>
  obtain ⟨_,hf⟩:=Sh.struct Tryz.underlying40 h
  simp only [Lf.cells,List.mem_cons,List.not_mem_nil,or_false,forall_eq_or_imp,forall_eq,cMonos,cInt64,List.drop_zero,List.drop_succ_cons,List.take_succ_cons,List.take_zero] at hf
  refine ⟨rng_int64 hf.1,?_⟩
  match f,hf.2 with
  |0,h=>exact h.elim
  |f+1,h=>exact fun m hm=>rng_mono (zGs (Q:=Mono.cells) Tryz.underlying38 h m hm)
theorem rng_index {f:Nat} {x:Ix} (h:Sh Tryz.prog f 115 x.cells):x.Lin.rng/\∀l,l∈x.At->l.rng:=by
 match f,h with
 |0,h=>exact h.elim
 |f+1,h=>
  obtain ⟨_,hf⟩:=Sh.struct Tryz.underlying115 h
  simp only [Ix.cells,List.mem_cons,List.not_mem_nil,or_false,forall_eq_or_imp,forall_eq,cStr,cLin,cLins,List.drop_zero,List.drop_succ_cons,List.take_succ_cons,List.take_zero] at hf
  refine ⟨rng_lin (x:=x.Lin) hf.1,?_⟩
  match f,hf.2.2 with
  |0,h=>exact h.elim
  |f+1,h=>exact fun m hm=>rng_lin (zGs (Q:=Lf.cells) Tryz.underlying65 h m hm)
theorem rng_nodes {P:Lf->Prop} {e:Ex} (h1:∀l,l∈dL e->P l) (h2:∀a,a∈e.Args->a.allF P):e.allF P:=by
 intro x hx
 rw [kZ] at hx
 rcases List.mem_cons.1 hx with rfl|hx
 ·exact h1
 ·have:∀l:List Ex,(∀a,a∈l->a.allF P)->x∈bK l->∀y,y∈dL x->P y:=by
   intro l
   induction l with
   |nil=>intro _ h;simp [bK] at h
   |cons a r ih=>
    intro h hm
    rw [bK] at hm
    rcases List.mem_append.1 hm with k|k
    ·exact h a (by simp) x k
    ·exact ih (fun b hb=>h b (by simp [hb])) k
  exact this e.Args h2 hx
theorem rng_expr:∀{f:Nat} {e:Ex},Sh Tryz.prog f 44 e.cells->e.allF Lf.rng
 |0,_,h=>h.elim
 |f+1,e,h=>by
  obtain ⟨_,hf⟩:=Sh.struct Tryz.underlying44 h
  rw [Ex.cells_eq] at hf
  simp only [Ex.cs,List.mem_cons,List.not_mem_nil,or_false,forall_eq_or_imp,forall_eq,cStr,cInt,cVal,cType,cLin,cIndices,cExprs,List.drop_zero,List.drop_succ_cons,List.take_succ_cons,List.take_zero] at hf
  obtain ⟨_,_,_,_,h4,h5,h6⟩:=hf
  refine rng_nodes ?_ ?_
  ·intro l hl
   unfold dL at hl
   rcases List.mem_cons.1 hl with rfl|hl
   ·exact rng_lin (x:=e.Lin) h4
   ·obtain ⟨x,hx,hl⟩:=List.mem_flatMap.1 hl
    match f,h5 with
    |0,h=>exact h.elim
    |f+1,h=>
     obtain ⟨k1,k2⟩:=rng_index (zGs (Q:=Ix.cells) Tryz.underlying41 h x hx)
     rcases List.mem_cons.1 hl with rfl|hl
     ·exact k1
     ·exact k2 l hl
  ·intro a ha
   match f,h6 with
   |0,h=>exact h.elim
   |f+1,h=>exact rng_expr (f:=f) (zGs (Q:=Ex.cells) Tryz.underlying42 h a ha)
end Go.Br
end
section
set_option maxRecDepth 100000
namespace Go.Br
open Go Go.Eng Go.RowKit Go.Proofs Go.L41
theorem len_lin {f:Nat} {x:Lf} (h:Sh Tryz.prog f 40 x.cells):x.L.length<=5864062014805:=by
 match f,h with
 |0,h=>exact h.elim
 |f+1,h=>
  obtain ⟨_,hf⟩:=Sh.struct Tryz.underlying40 h
  simp only [Lf.cells,List.mem_cons,List.not_mem_nil,or_false,forall_eq_or_imp,forall_eq,cMonos,cInt64,List.drop_zero,List.drop_succ_cons,List.take_succ_cons,List.take_zero] at hf
  match f,hf.2 with
  |0,h=>exact h.elim
  |f+1,h=>
   obtain ⟨rows,e,⟨_,hb⟩,_⟩:=Sh.slice Tryz.underlying38 h
   injection e with e1
   injection e1 with _ e1
   rw [bMono,zDj,←e1,List.length_map] at hb
   omega
theorem len_ax {f:Nat} {x:Ax} (h:Sh Tryz.prog f 111 x.cells):x.Size.L.length<=5864062014805:=by
 match f,h with
 |0,h=>exact h.elim
 |f+1,h=>
  obtain ⟨_,hf⟩:=Sh.struct Tryz.underlying111 h
  simp only [Ax.cells,List.mem_cons,List.not_mem_nil,or_false,forall_eq_or_imp,forall_eq,cLin,cStr,List.drop_zero,List.drop_succ_cons,List.take_succ_cons,List.take_zero] at hf
  exact len_lin (x:=x.Size) hf.2
theorem len_axs {f:Nat} {l:List Ax} (h:Sh Tryz.prog f 61 [.sl 3 (l.map Ax.cells)]):∀a,a∈l->a.Size.L.length<=5864062014805:=by
 match f,h with
 |0,h=>exact h.elim
 |f+1,h=>exact fun a ha=>len_ax (zGs (Q:=Ax.cells) Tryz.underlying61 h a ha)
theorem rng_def {f:Nat} {d:Df} (h:Sh Tryz.prog f 63 d.cells):(∀a,a∈d.Dims->a.Size.L.length<=5864062014805)/\(∀a,a∈d.Red->a.Size.L.length<=5864062014805)/\d.Body.allF Lf.rng:=by
 match f,h with
 |0,h=>exact h.elim
 |f+1,h=>
  obtain ⟨_,hf⟩:=Sh.struct Tryz.underlying63 h
  simp only [Df.cells,List.mem_cons,List.not_mem_nil,or_false,forall_eq_or_imp,forall_eq,cType,cStr,cAxs,cInt,cExpr,List.drop_zero,List.drop_succ_cons,List.take_succ_cons,List.take_zero] at hf
  obtain ⟨_,_,h2,h3,_,h5⟩:=hf
  exact ⟨len_axs h2,len_axs h3,rng_expr (e:=d.Body) (by rw [Ex.cells_eq];exact h5)⟩
end Go.Br
end
section
set_option maxRecDepth 100000
namespace Go.Br
open Go Go.Eng Go.RowKit Go.Proofs Go.L41
end Go.Br
end
section
set_option maxRecDepth 100000
namespace Go.Br
open Go Go.Eng Go.RowKit Go.Proofs Go.L41
theorem rng_ax {f:Nat} {x:Ax} (h:Sh Tryz.prog f 111 x.cells):x.Size.rng:=by
 match f,h with
 |0,h=>exact h.elim
 |f+1,h=>
  obtain ⟨_,hf⟩:=Sh.struct Tryz.underlying111 h
  simp only [Ax.cells,List.mem_cons,List.not_mem_nil,or_false,forall_eq_or_imp,forall_eq,cLin,cStr,List.drop_zero,List.drop_succ_cons,List.take_succ_cons,List.take_zero] at hf
  exact rng_lin (x:=x.Size) hf.2
theorem rng_axs {f:Nat} {l:List Ax} (h:Sh Tryz.prog f 61 [.sl 3 (l.map Ax.cells)]):∀a,a∈l->a.Size.rng:=by
 match f,h with
 |0,h=>exact h.elim
 |f+1,h=>exact fun a ha=>rng_ax (zGs (Q:=Ax.cells) Tryz.underlying61 h a ha)
theorem rng_dfA {f:Nat} {d:Df} (h:Sh Tryz.prog f 63 d.cells):d.Body.allF Lf.rng/\∀a,a∈d.Red->a.Size.rng:=by
 refine ⟨(rng_def h).2.2,?_⟩
 match f,h with
 |0,h=>exact h.elim
 |f+1,h=>
  obtain ⟨_,hf⟩:=Sh.struct Tryz.underlying63 h
  simp only [Df.cells,List.mem_cons,List.not_mem_nil,or_false,forall_eq_or_imp,forall_eq,cType,cStr,cAxs,cInt,cExpr,List.drop_zero,List.drop_succ_cons,List.take_succ_cons,List.take_zero] at hf
  obtain ⟨_,_,h2,h3,_,h5⟩:=hf
  exact rng_axs h3
theorem sh_progR {f:Nat} {l:List C} (h:Sh Tryz.prog f 27 l):∃p:Pg,l=p.cells/\p.Fit/\∀d,d∈p.Defs->d.Body.allF Lf.rng/\∀a,a∈d.Red->a.Size.rng:=by
 obtain ⟨p,rfl,h2⟩:=sh_prog h
 refine ⟨p,rfl,h2,?_⟩
 match f,h with
 |0,h=>exact h.elim
 |f+1,h=>
  obtain ⟨_,hf⟩:=Sh.struct Tryz.underlying27 h
  simp only [Pg.cells,List.mem_cons,List.not_mem_nil,or_false,forall_eq_or_imp,forall_eq,cStrs,cCns,cPms,cDfs,List.drop_zero,List.drop_succ_cons,List.take_succ_cons,List.take_zero] at hf
  obtain ⟨_,h1,h2,h3,_⟩:=hf
  match f,h3 with
  |0,h1=>exact h1.elim
  |f+1,h3=>exact fun d hd=>rng_dfA (zGs (Q:=Df.cells) Tryz.underlying25 h3 d hd)
end Go.Br
end
