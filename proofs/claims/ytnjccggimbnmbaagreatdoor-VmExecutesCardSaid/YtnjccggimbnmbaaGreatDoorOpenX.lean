/-
  What all rows of this seat need: the world of the witness,the table out of the row's list,the memory at the call's beginning.
  What the rows of this seat need whose lists dC the table of opcodes.
  Facts of the whole program that every row of the seat asks for,each by computation.
  What an argument of this seat is.
  What an argument of this seat is: nests.
  What an argument of this seat is: nests,units of code,tensors. Printed by wip/br/gen_opene.py.
  Conditions: none.
-/
import Derived.Test.YtnjccggimbnmbaaGreatDoorCards
import Derived.Test.YtnjccggimbnmbaaGreatDoorTie
import Derived.Test.YtnjccggimbnmbaaGreatDoorCfg
import Derived.Test.YtnjccggimbnmbaaGreatDoorEngY
import Derived.ProofKit
import Derived.Deep.DeepHandedRow
import Derived.Deep.DeepWitnessRowRef
import Derived.Lib.LaidTab
import Derived.Test.YtnjccggimbnmbaaGreatDoorPlainM
import Derived.OpenShut
import Derived.JoinedCond
import Derived.Test.YtnjccggimbnmbaaGreatDoorPlain
import Derived.Test.YtnjccggimbnmbaaGreatDoorPlain3
set_option linter.unusedSimpArgs false
set_option linter.unusedVariables false
section
namespace Go.L41
open Go Go.Eng Go.RowKit Go.ChangeShapes Go.WideShapes Go.ChangeAt Go.Proofs Go.Proofs.YtnjccggimbnmbaaGreatDoor
theorem own:ownKnob Tryz.prog.godebug=none:=by kernel_rfl
theorem laidOut:laidOutB Tryz.prog=true:=by kernel_rfl
theorem gTabType:(Tryz.prog.globals[1]?).map (·.type)=some 264:=by kernel_rfl
theorem cellsTab:Tryz.prog.cellsOf 264=256:=by kernel_rfl
theorem cellsU8:Tryz.prog.cellsOf 5=1:=by kernel_rfl
theorem zTh {P:Program} {x:String×DataW Unit} {r:List (String×DataW Unit)} {w:World} (h:laidMet P (x::r) w):laidMet P r w:=by
 obtain ⟨ps,hv,hnd,hrows⟩:=h
 obtain ⟨n,d⟩:=x
 obtain ⟨g,t,cs,fuel,p,q,_,_,_,_,hq,rfl⟩:=hv
 exact ⟨q,hq,List.Nodup.sublist (List.sublist_append_right _ _) hnd,fun b off hm=>hrows b off (List.mem_append_right _ hm)⟩
theorem tab_len:0<Lib.asciiSpaceTab.length:=by rw [Lib.asciiSpaceTab_length];omega
theorem laid_same:(Rows.laid_strings_asciiSpace:DataW Unit)=Lib.tabData .u8 Lib.asciiSpaceTab:=by kernel_rfl
noncomputable def vH (os:Os):World:=
 let N:=(World.settled Tryz.prog os).heap.size
 let r (a b c:Int):List Value:=[.int .u16 a,.int .u16 b,.int .u16 c]
 let w0:=World.holding Tryz.prog os ⟨#[
  .cells (r 9 13 1++r 32 133 101++r 160 5760 5600++r 8192 8202 1++r 8232 8233 1++r 8239 8287 48++r 12288 12288 1).toArray 302,
  .cells #[.slice (some ⟨N,0,none⟩) 7 7,.slice none 0 0,.int .i64 2] 299],#[],[]⟩
 let put (h:Array Obj) (g:Nat) (cs:Array Value):Array Obj:=h.modify g fun
  |.cells _ t frozen=>.cells cs t frozen
  |o=>o
 let h1:=put w0.heap 1 (Lib.asciiSpaceTab.map fun z=>Value.int .u8 z).toArray
 let h2:=put h1 2 #[.pointer (some ⟨N+1,0,none⟩)]
 { w0 with heap:=h2 }
end Go.L41
end
section
namespace Go.Br
open Go Go.Eng Go.RowKit Go.ChangeShapes Go.WideShapes Go.ChangeAt Go.Proofs Go.Proofs.YtnjccggimbnmbaaGreatDoor Go.L41
abbrev lC : List (String × DataW Unit) := [("unicode.White_Space", Rows.laid_unicode_White_Space), ("strings.asciiSpace", Rows.laid_strings_asciiSpace), ("brocade/isa.opcodes", Rows.laid_brocade_isa_opcodes)]
theorem gOpsType:(Tryz.prog.globals[0]?).map (·.type)=some 203:=by kernel_rfl
theorem cellsOps:Tryz.prog.cellsOf 203=102:=by kernel_rfl
theorem cellsOp:Tryz.prog.cellsOf 202=6:=by kernel_rfl
theorem cellsKs:Tryz.prog.cellsOf 200=5:=by kernel_rfl
theorem cellsK:Tryz.prog.cellsOf 3=1:=by kernel_rfl
theorem cellsSt:Tryz.prog.cellsOf 9=1:=by kernel_rfl
theorem undOps:Tryz.prog.underlying 203=some (.array 17 202):=by kernel_rfl
theorem undOp : ∃ f g : Field, Tryz.prog.underlying 202 = some (.struct #[f, g]) ∧ f.type = 9 ∧ f.offset = 0 ∧ g.type = 200 ∧ g.offset = 1 := ⟨⟨"word", 9, 0, false, "", "brocade/isa", 0⟩, ⟨"operands", 200, 1, false, "", "brocade/isa", 16⟩, by kernel_rfl, rfl, rfl, rfl, rfl⟩
theorem undKs:Tryz.prog.underlying 200=some (.array 5 3):=by kernel_rfl
theorem undK:Tryz.prog.underlying 3=some (.int .i64):=by kernel_rfl
theorem undSt:Tryz.prog.underlying 9=some .string:=by kernel_rfl
theorem bs_of {s:ByteArray} {l:List UInt8} (h:s.data.toList=l):s=bs l:=by subst h;rfl
theorem row_cells {H:Type} {enc:TypeId×Value->H} {w:World} {base:Nat} {sp:Nat->Bool} {held:Bool} {fuel:Nat} {cs:List Value} {s:List UInt8} {zs:List Int} {d:DataW H×List MemPlace}
  (h:DataW.trod enc Tryz.prog w base sp held fuel 202 cs=some d) (hd:d.1=.agg [.lit (.string s),Lib.tabData .i64 zs]):cs=jG s zs:=by
 obtain ⟨f,g,hu,hf,hfo,hg,hgo⟩:=undOp
 obtain ⟨xs,n,_,rfl,hl,hxl,hall⟩:=DataW.trod_struct hu h
 rw [cellsOp] at hl
 have h0:=hall 0 f rfl
 have h1:=hall 1 g rfl
 rw [hf,hfo,cellsSt] at h0
 rw [hg,hgo,cellsKs] at h1
 simp only [DataW.agg.injEq] at hd
 match xs,hd with
 |[a,b],hd=>
  simp only [List.map_cons,List.map_nil,List.cons.injEq,and_true] at hd
  obtain ⟨ha,hb⟩:=hd
  obtain ⟨a,pa⟩:=a
  obtain ⟨b,pb⟩:=b
  simp only at ha hb
  subst ha hb
  obtain ⟨s',e0,e1,_⟩:=DataW.trod_string undSt h0
  have e2:=Lib.cells_of_tab undKs undK cellsK cellsKs h1
  simp only [Prod.mk.injEq,DataW.lit.injEq,Lit.string.injEq] at e1
  have e3:=bs_of e1.1.symm
  subst e3
  have e:cs=cs.take 1++(cs.drop 1).take 5:=by rw [List.take_of_length_le (l:=cs.drop 1) (by rw [List.length_drop,hl];exact Nat.le_refl _),List.take_append_drop]
  rw [List.drop_zero] at e0
  rw [e,e0,e2];rfl
theorem flat_cells:∀(L:List (List Value)) (cs:List Value),cs.length=L.length*6->(∀i r,L[i]? =some r->(cs.drop (i*6)).take 6=r)->cs=L.flatten
 |[],cs,hl,_=>by simpa using hl
 |r::L,cs,hl,h=>by
  have h0:=h 0 r rfl
  have ih:=flat_cells L (cs.drop 6) (by rw [List.length_drop,hl,List.length_cons];omega) fun i r' hr=>by
   have:=h (i+1) r' (by simpa using hr)
   rw [List.drop_drop,show 6+i*6=(i+1)*6 by omega];exact this
  rw [Nat.zero_mul,List.drop_zero] at h0
  rw [List.flatten_cons,←h0,←ih,List.take_append_drop]
def opRows:List (List UInt8×List Int):=[([104,97,108,116],[0,0,0,0,0]),([105,110,116],[1,8,0,0,0]),([109,111,118,101],[1,2,0,0,0]),([97,100,100],[1,2,3,0,0]),([109,117,108],[1,2,9,0,0]),([109,105,110],[1,2,3,0,0]),([109,97,120],[1,2,3,0,0]),([106,117,109,112],[7,0,0,0,0]),([106,108,116],[7,2,3,0,0]),([99,111,110,115,116],[4,14,0,0,0]),([108,111,97,100],[4,2,10,11,0]),([115,116,111,114,101],[4,2,10,11,0]),([111,112],[15,4,5,6,17]),([99,97,115,116],[4,5,12,17,0]),([116,101,115,116],[16,7,5,6,17]),([116,111,105,110,116],[1,5,13,0,0]),([102,114,111,109,105,110,116],[4,2,0,0,0])]
theorem ops_same:(Rows.laid_brocade_isa_opcodes:DataW Unit)=.agg (opRows.map fun p=>.agg [.lit (.string p.1),Lib.tabData .i64 p.2]):=by kernel_rfl
theorem opCells_rows:opCells=(opRows.map fun p=>jG p.1 p.2).flatten:=rfl
theorem tableOps {W:World} (h:laidMetH Tryz.prog lC W):rP W:=by
 have h':laidMet Tryz.prog lC W:=h
 have h2:=zTh (zTh h')
 obtain ⟨ps,⟨g',t',cs,fuel,p,q,hg',ht',hvar,hd,_,_⟩,_⟩:=h2
 obtain rfl:=Option.some.inj (gOps.symm.trans hg')
 obtain rfl:=Option.some.inj (gOpsType.symm.trans ht')
 rw [ops_same] at hd
 obtain ⟨xs,m,_,hx,hl,hxl,hall⟩:=DataW.trod_array undOps hd
 rw [cellsOps] at hl
 have hx1:xs.map (·.1)=opRows.map fun p=>.agg [.lit (.string p.1),Lib.tabData .i64 p.2]:=by
  have:=congrArg Prod.fst hx
  simpa using this.symm
 have e:cs.toList=opCells:=by
  rw [opCells_rows]
  refine flat_cells _ _ (by rw [hl,List.length_map];rfl) fun i r hr=>?_
  rw [List.getElem?_map,Option.map_eq_some_iff] at hr
  obtain ⟨⟨s,zs⟩,hr,rfl⟩:=hr
  have hi:i<17:=(List.getElem?_eq_some_iff.1 hr).1
  have h1:=hall i hi
  rw [cellsOp] at h1
  have hxi:i<xs.length:=by omega
  rw [List.getElem?_eq_getElem hxi] at h1
  refine row_cells h1 ?_
  have h2:=congrArg (·[i]?) hx1
  simp only [List.getElem?_map,hr,List.getElem?_eq_getElem hxi,Option.map_some,Option.some.injEq] at h2
  exact h2
 unfold rP
 rw [hvar,←e]
theorem tableO {W : World} (h : laidMetH Tryz.prog lC W) : Lib.TabIs Tryz.prog W "strings.asciiSpace" .u8 Lib.asciiSpaceTab := by
 have h':laidMet Tryz.prog lC W:=h
 have h2:=zTh h'
 rw [laid_same] at h2
 exact Lib.tabIs_of_head (rest := [("brocade/isa.opcodes", Rows.laid_brocade_isa_opcodes)]) gTab gTabType Tryz.underlying264 Tryz.underlying5 cellsU8 cellsTab h2
theorem heap0O {W:World} (h:laidMetH Tryz.prog lC W):Heap cfgO W (fun b=>b<W.heap.size) []:=by
 refine ⟨?_,⟨tableO h,tableOps h⟩,by simp [bB],fun b hb=>by simp [bB] at hb,fun b hb=>hb,fun e he=>by simp at he,fun e he=>by simp at he⟩
 have h1:=World.block_lt_of_cell? W _ ((tableO h).cell gTab 0 tab_len)
 have h2:=World.block_lt_of_cell? W _ (ops_cell (tableOps h) (i:=0) (u:=.string (bs [104,97,108,116])) rfl)
 exact Nat.max_le.2 ⟨h1,h2⟩
noncomputable def nN (os:Os):World:=
 let w0:=vH os
 let put (h:Array Obj) (g:Nat) (cs:Array Value):Array Obj:=h.modify g fun
  |.cells _ t frozen=>.cells cs t frozen
  |o=>o
 { w0 with heap:=put w0.heap 0 opCells.toArray }
theorem laid_metO (os:Os) (args:Array Value):laidMet Tryz.prog lC ((nN os).forCall (fun _ _=>0) ⟨#[],args,[]⟩).memory:=
 laidMet_of_run' 8 (by kernel_rfl) (by kernel_rfl)
end Go.Br
end
section
namespace Go.Br
open Go Go.Proofs Go.Proofs.YtnjccggimbnmbaaGreatDoor
set_option maxRecDepth 100000
theorem side25:Tryz.pinned.checked.prog.mayEnter=true:=by kernel_rfl
theorem side26:(Rows.vmExecutesRow.lifted==Tryz.pinned.checked.prog.liftsFinal)=true:=by kernel_rfl
theorem side27:(Tryz.pinned.checked.prog.make==some Rows.vmExecutesRow.make)=true:=by kernel_rfl
end Go.Br
end
section
set_option maxRecDepth 100000
namespace Go.Br
open Go Go.Eng Go.RowKit Go.Proofs Go.L41
abbrev types:List TypeId:=[9,3,2,273,162,164,193,195,161,167,165,59,43]
theorem cStr:Tryz.prog.cellsOf 9=1:=by kernel_rfl
theorem cInt:Tryz.prog.cellsOf 3=1:=by kernel_rfl
theorem cInt64:Tryz.prog.cellsOf 2=1:=by kernel_rfl
theorem cMono:Tryz.prog.cellsOf 273=2:=by kernel_rfl
theorem cMonos:Tryz.prog.cellsOf 162=1:=by kernel_rfl
theorem cLin:Tryz.prog.cellsOf 164=2:=by kernel_rfl
theorem cLins:Tryz.prog.cellsOf 193=1:=by kernel_rfl
theorem cIndex:Tryz.prog.cellsOf 195=4:=by kernel_rfl
theorem cIndices:Tryz.prog.cellsOf 161=1:=by kernel_rfl
theorem cExpr:Tryz.prog.cellsOf 167=13:=by kernel_rfl
theorem cExprs:Tryz.prog.cellsOf 165=1:=by kernel_rfl
theorem cVal:Tryz.prog.cellsOf 59=2:=by kernel_rfl
theorem cType:Tryz.prog.cellsOf 43=5:=by kernel_rfl
theorem bMono:Tryz.prog.bytesOf 273=24:=by kernel_rfl
theorem bLin:Tryz.prog.bytesOf 164=32:=by kernel_rfl
theorem bIndex:Tryz.prog.bytesOf 195=72:=by kernel_rfl
theorem bExpr:Tryz.prog.bytesOf 167=160:=by kernel_rfl
theorem zFt:reachBytes=140737488351232:=by decide
theorem zJc {f:Nat} {l:List C} (h:Sh Tryz.prog f 9 l):∃s:ByteArray,l=[cS s]:=by
 cases f with
 |zero=>exact h.elim
 |succ f=>have h:=Sh.str Tryz.underlying9 h;obtain ⟨s,h,_⟩:=h;exact ⟨s,h⟩
theorem zIg {f:Nat} {l:List C} (h:Sh Tryz.prog f 3 l):∃n:Int,l=[cI n]:=by
 cases f with
 |zero=>exact h.elim
 |succ f=>have h:=Sh.int Tryz.underlying3 h;obtain ⟨s,h,_⟩:=h;exact ⟨s,h⟩
theorem zQn {f:Nat} {l:List C} (h:Sh Tryz.prog f 2 l):∃n:Int,l=[cI n]:=by
 cases f with
 |zero=>exact h.elim
 |succ f=>have h:=Sh.int Tryz.underlying2 h;obtain ⟨s,h,_⟩:=h;exact ⟨s,h⟩
theorem zDm {α:Type} {Q:α->List C} {P:α->Prop}:∀{rows:List (List C)},(∀r,r∈rows->∃x,r=Q x/\P x)->∃l:List α,rows=l.map Q/\∀x,x∈l->P x
 |[],_=>⟨[],rfl,fun x hx=>by cases hx⟩
 |r::rows,h=>by
  obtain ⟨x,rfl,hx⟩:=h r (by simp)
  obtain ⟨l,rfl,hl⟩:=zDm (rows:=rows) fun r hr=>h r (by simp [hr])
  exact ⟨x::l,rfl,fun y hy=>by rcases List.mem_cons.1 hy with rfl|hy;exact hx;exact hl y hy⟩
theorem sh_mono {f:Nat} {l:List C} (h:Sh Tryz.prog f 273 l):∃x:Mono,l=x.cells/\True:=by
 cases f with
 |zero=>exact h.elim
 |succ f=>
  have h:=Sh.struct Tryz.underlying273 h
  obtain ⟨hl,hf⟩:=h
  rw [cMono] at hl
  match l,hl with
  |[a,b],_=>
   simp only [List.mem_cons,List.not_mem_nil,or_false,forall_eq_or_imp,forall_eq,cStr,cInt64,List.drop_zero,List.drop_succ_cons,List.take_succ_cons,List.take_zero] at hf
   obtain ⟨h0,h1⟩:=hf
   obtain ⟨s,e0⟩:=zJc h0
   obtain ⟨n,e1⟩:=zQn h1
   simp only [List.cons.injEq,and_true] at e0 e1
   subst e0 e1
   exact ⟨⟨s,n⟩,rfl,trivial⟩
theorem sh_monos {f:Nat} {l:List C} (h:Sh Tryz.prog f 162 l):∃x:List Mono,l=[.sl 2 (x.map Mono.cells)]/\x.length<=140737488355328:=by
 cases f with
 |zero=>exact h.elim
 |succ f=>
  have h:=Sh.slice Tryz.underlying162 h
  obtain ⟨rows,rfl,⟨_,hb⟩,hr⟩:=h
  obtain ⟨x,rfl,_⟩:=zDm fun r hr'=>sh_mono (hr r hr')
  rw [bMono,zFt,List.length_map] at hb
  exact ⟨x,by rw [cMono],by omega⟩
theorem sh_lin {f:Nat} {l:List C} (h:Sh Tryz.prog f 164 l):∃x:Lf,l=x.cells/\x.L.length<=140737488355328:=by
 cases f with
 |zero=>exact h.elim
 |succ f=>
  have h:=Sh.struct Tryz.underlying164 h
  obtain ⟨hl,hf⟩:=h
  rw [cLin] at hl
  match l,hl with
  |[a,b],_=>
   simp only [List.mem_cons,List.not_mem_nil,or_false,forall_eq_or_imp,forall_eq,cMonos,cInt64,List.drop_zero,List.drop_succ_cons,List.take_succ_cons,List.take_zero] at hf
   obtain ⟨h0,h1⟩:=hf
   obtain ⟨n,e0⟩:=zQn h0
   obtain ⟨L,e1,hL⟩:=sh_monos h1
   simp only [List.cons.injEq,and_true] at e0 e1
   subst e0 e1
   exact ⟨⟨n,L⟩,rfl,hL⟩
theorem sh_lins {f:Nat} {l:List C} (h:Sh Tryz.prog f 193 l):∃x:List Lf,l=[.sl 2 (x.map Lf.cells)]/\x.length<=140737488355328/\∀y,y∈x->y.L.length<=140737488355328:=by
 cases f with
 |zero=>exact h.elim
 |succ f=>
  have h:=Sh.slice Tryz.underlying193 h
  obtain ⟨rows,rfl,⟨_,hb⟩,hr⟩:=h
  obtain ⟨x,rfl,hx⟩:=zDm fun r hr'=>sh_lin (hr r hr')
  rw [bLin,zFt,List.length_map] at hb
  exact ⟨x,by rw [cLin],by omega,hx⟩
theorem sh_index {f:Nat} {l:List C} (h:Sh Tryz.prog f 195 l):∃x:Ix,l=x.cells/\x.fit:=by
 cases f with
 |zero=>exact h.elim
 |succ f=>
  have h:=Sh.struct Tryz.underlying195 h
  obtain ⟨hl,hf⟩:=h
  rw [cIndex] at hl
  match l,hl with
  |[a,b,c,d],_=>
   simp only [List.mem_cons,List.not_mem_nil,or_false,forall_eq_or_imp,forall_eq,cStr,cLin,cLins,List.drop_zero,List.drop_succ_cons,List.take_succ_cons,List.take_zero] at hf
   obtain ⟨h0,h1,h2⟩:=hf
   obtain ⟨⟨K,L⟩,e0,hL⟩:=sh_lin h0
   obtain ⟨s,e1⟩:=zJc h1
   obtain ⟨A,e2,hA,hA'⟩:=sh_lins h2
   simp only [Lf.cells,List.cons.injEq,and_true] at e0 e1 e2
   obtain ⟨e0,e0'⟩:=e0
   subst e0 e0' e1 e2
   exact ⟨⟨⟨K,L⟩,s,A⟩,rfl,hL,hA,hA'⟩
theorem sh_indices {f:Nat} {l:List C} (h:Sh Tryz.prog f 161 l):∃x:List Ix,l=[.sl 4 (x.map Ix.cells)]/\x.length<=140737488355328/\∀y,y∈x->y.fit:=by
 cases f with
 |zero=>exact h.elim
 |succ f=>
  have h:=Sh.slice Tryz.underlying161 h
  obtain ⟨rows,rfl,⟨_,hb⟩,hr⟩:=h
  obtain ⟨x,rfl,hx⟩:=zDm fun r hr'=>sh_index (hr r hr')
  rw [bIndex,zFt,List.length_map] at hb
  exact ⟨x,by rw [cIndex],by omega,hx⟩
theorem sh_val {f:Nat} {l:List C} (h:Sh Tryz.prog f 59 l):∃a b:Int,l=[cI a,cI b]:=by
 cases f with
 |zero=>exact h.elim
 |succ f=>
  have h:=Sh.struct Tryz.underlying59 h
  obtain ⟨hl,hf⟩:=h
  rw [cVal] at hl
  match l,hl with
  |[a,b],_=>
   simp only [List.mem_cons,List.not_mem_nil,or_false,forall_eq_or_imp,forall_eq,cInt64,List.drop_zero,List.drop_succ_cons,List.take_succ_cons,List.take_zero] at hf
   obtain ⟨h0,h1⟩:=hf
   obtain ⟨n,e0⟩:=zQn h0
   obtain ⟨m,e1⟩:=zQn h1
   simp only [List.cons.injEq,and_true] at e0 e1
   subst e0 e1
   exact ⟨n,m,rfl⟩
theorem sh_type {f:Nat} {l:List C} (h:Sh Tryz.prog f 43 l):∃a b c d e:Int,l=[cI a,cI b,cI c,cI d,cI e]:=by
 cases f with
 |zero=>exact h.elim
 |succ f=>
  have h:=Sh.struct Tryz.underlying43 h
  obtain ⟨hl,hf⟩:=h
  rw [cType] at hl
  match l,hl with
  |[a,b,c,d,e],_=>
   simp only [List.mem_cons,List.not_mem_nil,or_false,forall_eq_or_imp,forall_eq,cInt,List.drop_zero,List.drop_succ_cons,List.take_succ_cons,List.take_zero] at hf
   obtain ⟨h0,h1,h2,h3,h4⟩:=hf
   obtain ⟨n0,e0⟩:=zIg h0
   obtain ⟨n1,e1⟩:=zIg h1
   obtain ⟨n2,e2⟩:=zIg h2
   obtain ⟨n3,e3⟩:=zIg h3
   obtain ⟨n4,e4⟩:=zIg h4
   simp only [List.cons.injEq,and_true] at e0 e1 e2 e3 e4
   subst e0 e1 e2 e3 e4
   exact ⟨_,_,_,_,_,rfl⟩
theorem fitL_of {l:List Ex} (h:∀a,a∈l->a.fit):vX l:=by
 induction l with
 |nil=>trivial
 |cons x r ih=>exact ⟨h x (by simp),ih fun a ha=>h a (by simp [ha])⟩
theorem sh_expr:∀{f:Nat} {l:List C},Sh Tryz.prog f 167 l->∃e:Ex,l=e.cells/\e.fit
 |0,_,h=>h.elim
 |f+1,l,h=>by
  have h:=Sh.struct Tryz.underlying167 h
  obtain ⟨hl,hf⟩:=h
  rw [cExpr] at hl
  match l,hl with
  |[a0,a1,a2,a3,a4,a5,a6,a7,a8,a9,a10,a11,a12],_=>
   simp only [List.mem_cons,List.not_mem_nil,or_false,forall_eq_or_imp,forall_eq,cStr,cInt,cVal,cType,cLin,cIndices,cExprs,List.drop_zero,List.drop_succ_cons,List.take_succ_cons,List.take_zero] at hf
   obtain ⟨h0,h1,h2,h3,h4,h5,h6⟩:=hf
   obtain ⟨o,e0⟩:=zIg h0
   obtain ⟨s,e1⟩:=zJc h1
   obtain ⟨vn,vd,e2⟩:=sh_val h2
   obtain ⟨t1,t2,t3,t4,t5,e3⟩:=sh_type h3
   obtain ⟨⟨K,L⟩,e4,hL⟩:=sh_lin h4
   obtain ⟨I,e5,hI,hI'⟩:=sh_indices h5
   have h7:∃x:List Ex,[a12]=[.sl 13 (x.map Ex.cells)]/\x.length<=140737488355328/\∀y,y∈x->y.fit:=by
    match f,h6 with
    |0,h=>exact h.elim
    |f+1,h=>
     have h:=Sh.slice Tryz.underlying165 h
     obtain ⟨rows,e,⟨_,hb⟩,hr⟩:=h
     obtain ⟨x,rfl,hx⟩:=zDm (P:=Ex.fit) fun r hr'=>sh_expr (f:=f) (hr r hr')
     rw [bExpr,zFt,List.length_map] at hb
     exact ⟨x,by rw [e,cExpr],by omega,hx⟩
   obtain ⟨A,e6,hA,hA'⟩:=h7
   simp only [Lf.cells,List.cons.injEq,and_true] at e0 e1 e2 e3 e4 e5 e6
   obtain ⟨e20,e21⟩:=e2
   obtain ⟨e30,e31,e32,e33,e34⟩:=e3
   obtain ⟨e40,e41⟩:=e4
   subst e0 e1 e20 e21 e30 e31 e32 e33 e34 e40 e41 e5 e6
   refine ⟨.mk o s ⟨vn,vd⟩ ⟨t1,t2,t3,t4,t5⟩ ⟨K,L⟩ I A,?_,?_⟩
   ·rw [Ex.cells,cellsL_eq]
   ·rw [Ex.fit];exact ⟨hL,hI,hA,hI',fitL_of hA'⟩
theorem sh_exprV {f:Nat} {l:List C} (h:Sh Tryz.prog f 167 l):∃e:Ex,l=e.cs/\e.fit:=by
 obtain ⟨e,h1,h2⟩:=sh_expr h
 exact ⟨e,by rw [h1,Ex.cells_eq],h2⟩
end Go.Br
end
section
set_option maxRecDepth 100000
namespace Go.Br
open Go Go.Eng Go.RowKit Go.Proofs Go.L41
theorem cInts:Tryz.prog.cellsOf 44=1:=by kernel_rfl
theorem cBf:Tryz.prog.cellsOf 46=8:=by kernel_rfl
theorem cBfs:Tryz.prog.cellsOf 22=1:=by kernel_rfl
theorem cSt:Tryz.prog.cellsOf 169=20:=by kernel_rfl
theorem cSts:Tryz.prog.cellsOf 23=1:=by kernel_rfl
theorem cNs:Tryz.prog.cellsOf 25=2:=by kernel_rfl
theorem bInt:Tryz.prog.bytesOf 3=8:=by kernel_rfl
theorem bBf:Tryz.prog.bytesOf 46=88:=by kernel_rfl
theorem bSt:Tryz.prog.bytesOf 169=256:=by kernel_rfl
theorem sh_ints {f:Nat} {l:List C} (h:Sh Tryz.prog f 44 l):∃x:List Int,l=[.sl 1 (x.map fun n=>[cI n])]/\x.length<=17592186044416:=by
 cases f with
 |zero=>exact h.elim
 |succ f=>
  have h:=Sh.slice Tryz.underlying44 h
  obtain ⟨rows,rfl,⟨_,hb⟩,hr⟩:=h
  obtain ⟨x,rfl,_⟩:=zDm (P:=fun _=>True) (Q:=fun n:Int=>[cI n]) fun r hr'=>(zIg (hr r hr')).imp fun _ h=>⟨h,trivial⟩
  rw [bInt,zFt,List.length_map] at hb
  exact ⟨x,by rw [cInt],by omega⟩
theorem sh_bf {f:Nat} {l:List C} (h:Sh Tryz.prog f 46 l):∃x:Bf,l=x.cells/\x.Dims.length<=17592186044416:=by
 cases f with
 |zero=>exact h.elim
 |succ f=>
  have h:=Sh.struct Tryz.underlying46 h
  obtain ⟨hl,hf⟩:=h
  rw [cBf] at hl
  match l,hl with
  |[a0,a1,a2,a3,a4,a5,a6,a7],_=>
   simp only [List.mem_cons,List.not_mem_nil,or_false,forall_eq_or_imp,forall_eq,cType,cStr,cInts,cInt,List.drop_zero,List.drop_succ_cons,List.take_succ_cons,List.take_zero] at hf
   obtain ⟨h0,h1,h2,h3⟩:=hf
   obtain ⟨s,e0⟩:=zJc h0
   obtain ⟨t1,t2,t3,t4,t5,e1⟩:=sh_type h1
   obtain ⟨D,e2,hD⟩:=sh_ints h2
   obtain ⟨u,e3⟩:=zIg h3
   simp only [List.cons.injEq,and_true] at e0 e1 e2 e3
   obtain ⟨e10,e11,e12,e13,e14⟩:=e1
   subst e0 e10 e11 e12 e13 e14 e2 e3
   exact ⟨⟨s,⟨t1,t2,t3,t4,t5⟩,D,u⟩,rfl,hD⟩
theorem sh_bfs {f:Nat} {l:List C} (h:Sh Tryz.prog f 22 l):∃x:List Bf,l=[.sl 8 (x.map Bf.cells)]/\x.length<=140737488355328/\∀y,y∈x->y.Dims.length<=17592186044416:=by
 cases f with
 |zero=>exact h.elim
 |succ f=>
  have h:=Sh.slice Tryz.underlying22 h
  obtain ⟨rows,rfl,⟨_,hb⟩,hr⟩:=h
  obtain ⟨x,rfl,hx⟩:=zDm fun r hr'=>sh_bf (hr r hr')
  rw [bBf,zFt,List.length_map] at hb
  exact ⟨x,by rw [cBf],by omega,hx⟩
theorem sh_st:∀{f:Nat} {l:List C},Sh Tryz.prog f 169 l->∃s:St,l=s.cells/\s.fit
 |0,_,h=>h.elim
 |f+1,l,h=>by
  have h:=Sh.struct Tryz.underlying169 h
  obtain ⟨hl,hf⟩:=h
  rw [cSt] at hl
  match l,hl with
  |[a0,a1,a2,a3,a4,a5,a6,a7,a8,a9,a10,a11,a12,a13,a14,a15,a16,a17,a18,a19],_=>
   simp only [List.mem_cons,List.not_mem_nil,or_false,forall_eq_or_imp,forall_eq,cStr,cInt,cIndices,cExpr,cSts,List.drop_zero,List.drop_succ_cons,List.take_succ_cons,List.take_zero] at hf
   obtain ⟨h0,h1,h2,h3,h4,h5,h6,h7⟩:=hf
   obtain ⟨o,e0⟩:=zIg h0
   obtain ⟨s,e1⟩:=zJc h1
   obtain ⟨mn,e2⟩:=zIg h2
   obtain ⟨mk,e3⟩:=zIg h3
   obtain ⟨fo,e4⟩:=zIg h4
   obtain ⟨I,e5,hI,hI'⟩:=sh_indices h5
   obtain ⟨b,e6,hb⟩:=sh_exprV h6
   have h8:∃x:List St,[a19]=[.sl 20 (x.map St.cells)]/\x.length<=140737488355328/\∀y,y∈x->y.fit:=by
    match f,h7 with
    |0,h=>exact h.elim
    |f+1,h=>
     have h:=Sh.slice Tryz.underlying23 h
     obtain ⟨rows,e,⟨_,hb⟩,hr⟩:=h
     obtain ⟨x,rfl,hx⟩:=zDm (P:=St.fit) fun r hr'=>sh_st (f:=f) (hr r hr')
     rw [bSt,zFt,List.length_map] at hb
     exact ⟨x,by rw [e,cSt],by omega,hx⟩
   obtain ⟨B,e7,hB,hB'⟩:=h8
   simp only [Ex.cs,List.cons.injEq,and_true] at e0 e1 e2 e3 e4 e5 e6 e7
   obtain ⟨f0,f1,f2,f3,f4,f5,f6,f7,f8,f9,f10,f11,f12⟩:=e6
   subst e0 e1 e2 e3 e4 e5 f0 f1 f2 f3 f4 f5 f6 f7 f8 f9 f10 f11 f12 e7
   refine ⟨.mk o s mn mk fo I b B,?_,?_⟩
   ·rw [St.cells,zRz];rfl
   ·rw [St.fit];exact ⟨hI,hI',hb,hB,fitS_of hB'⟩
theorem sh_sts {f:Nat} {l:List C} (h:Sh Tryz.prog f 23 l):∃x:List St,l=[.sl 20 (x.map St.cells)]/\x.length<=140737488355328/\nD x:=by
 cases f with
 |zero=>exact h.elim
 |succ f=>
  have h:=Sh.slice Tryz.underlying23 h
  obtain ⟨rows,rfl,⟨_,hb⟩,hr⟩:=h
  obtain ⟨x,rfl,hx⟩:=zDm (P:=St.fit) fun r hr'=>sh_st (hr r hr')
  rw [bSt,zFt,List.length_map] at hb
  exact ⟨x,by rw [cSt],by omega,fitS_of hx⟩
theorem sh_nest {f:Nat} {l:List C} (h:Sh Tryz.prog f 25 l):∃x:Ns,l=x.cells/\x.Fit:=by
 cases f with
 |zero=>exact h.elim
 |succ f=>
  have h:=Sh.struct Tryz.underlying25 h
  obtain ⟨hl,hf⟩:=h
  rw [cNs] at hl
  match l,hl with
  |[a0,a1],_=>
   simp only [List.mem_cons,List.not_mem_nil,or_false,forall_eq_or_imp,forall_eq,cBfs,cSts,List.drop_zero,List.drop_succ_cons,List.take_succ_cons,List.take_zero] at hf
   obtain ⟨h0,h1⟩:=hf
   obtain ⟨B,e0,hB,hB'⟩:=sh_bfs h0
   obtain ⟨D,e1,hD,hD'⟩:=sh_sts h1
   simp only [List.cons.injEq,and_true] at e0 e1
   subst e0 e1
   exact ⟨⟨B,D⟩,rfl,⟨hB,hB',hD,hD'⟩⟩
end Go.Br
end
section
set_option maxRecDepth 100000
namespace Go.Br
open Go Go.Eng Go.RowKit Go.Proofs Go.L41
abbrev typesX:List TypeId:=[9,3,2,59,50,43,27,61,26,49,28,30,44,52,54,31,273,162,164,193,195,161,167,165,300,46,22,169,23,25]
theorem okTypesX:typesX.all (okT Tryz.prog typesX)=true:=by kernel_rfl
theorem c_str:Tryz.prog.cellsOf 9=1:=by kernel_rfl
theorem c_int:Tryz.prog.cellsOf 3=1:=by kernel_rfl
theorem c_i64:Tryz.prog.cellsOf 2=1:=by kernel_rfl
theorem c_val:Tryz.prog.cellsOf 59=2:=by kernel_rfl
theorem c_vals:Tryz.prog.cellsOf 50=1:=by kernel_rfl
theorem c_ty:Tryz.prog.cellsOf 43=5:=by kernel_rfl
theorem c_tys:Tryz.prog.cellsOf 27=1:=by kernel_rfl
theorem c_in:Tryz.prog.cellsOf 61=11:=by kernel_rfl
theorem c_ins:Tryz.prog.cellsOf 26=1:=by kernel_rfl
theorem c_slot:Tryz.prog.cellsOf 49=3:=by kernel_rfl
theorem c_slots:Tryz.prog.cellsOf 28=1:=by kernel_rfl
theorem c_unit:Tryz.prog.cellsOf 30=4:=by kernel_rfl
theorem c_ints:Tryz.prog.cellsOf 44=1:=by kernel_rfl
theorem c_ten:Tryz.prog.cellsOf 52=7:=by kernel_rfl
theorem c_nmd:Tryz.prog.cellsOf 54=8:=by kernel_rfl
theorem b_val:Tryz.prog.bytesOf 59=16:=by kernel_rfl
theorem b_ty:Tryz.prog.bytesOf 43=40:=by kernel_rfl
theorem b_in:Tryz.prog.bytesOf 61=88:=by kernel_rfl
theorem b_slot:Tryz.prog.bytesOf 49=32:=by kernel_rfl
theorem b_nmd:Tryz.prog.bytesOf 54=104:=by kernel_rfl
theorem reachE:reachBytes=140737488351232:=by decide
theorem shv_str {f:Nat} {l:List C} (h:Sh Tryz.prog f 9 l):∃s:ByteArray,l=[cS s]/\True:=by
 cases f with
 |zero=>exact h.elim
 |succ f=>have h:=Sh.str Tryz.underlying9 h;obtain ⟨s,h,_⟩:=h;exact ⟨s,h,trivial⟩
theorem zEm {f:Nat} {l:List C} (h:Sh Tryz.prog f 3 l):∃n:Int,l=[cI n]/\True:=by
 cases f with
 |zero=>exact h.elim
 |succ f=>have h:=Sh.int Tryz.underlying3 h;obtain ⟨s,h,_⟩:=h;exact ⟨s,h,trivial⟩
theorem shv_i64 {f:Nat} {l:List C} (h:Sh Tryz.prog f 2 l):∃n:Int,l=[cI n]/\True:=by
 cases f with
 |zero=>exact h.elim
 |succ f=>have h:=Sh.int Tryz.underlying2 h;obtain ⟨s,h,_⟩:=h;exact ⟨s,h,trivial⟩
theorem shv_val {f:Nat} {l:List C} (h:Sh Tryz.prog f 59 l):∃x:Vl,l=x.cells/\True:=by
 cases f with
 |zero=>exact h.elim
 |succ f=>
  have h:=Sh.struct Tryz.underlying59 h
  obtain ⟨hl,hf⟩:=h
  rw [c_val] at hl
  match l,hl with
  |[a0,a1],_=>
   simp only [List.mem_cons,List.not_mem_nil,or_false,forall_eq_or_imp,forall_eq,c_i64,List.drop_zero,List.drop_succ_cons,List.take_succ_cons,List.take_zero] at hf
   obtain ⟨h0,h1⟩:=hf
   obtain ⟨n,e0,p0⟩:=shv_i64 h0
   simp only [List.cons.injEq,and_true] at e0
   obtain ⟨d,e1,p1⟩:=shv_i64 h1
   simp only [List.cons.injEq,and_true] at e1
   subst e0 e1
   exact ⟨⟨n,d⟩,rfl,trivial⟩
theorem shv_vals {f:Nat} {l:List C} (h:Sh Tryz.prog f 50 l):∃x:List Vl,l=[.sl 2 (x.map Vl.cells)]/\x.length<=140737488355328:=by
 cases f with
 |zero=>exact h.elim
 |succ f=>
  have h:=Sh.slice Tryz.underlying50 h
  obtain ⟨rows,rfl,⟨_,hb⟩,hr⟩:=h
  obtain ⟨x,rfl,hx⟩:=zDm fun r hr'=>shv_val (hr r hr')
  rw [b_val,reachE,List.length_map] at hb
  exact ⟨x,by rw [c_val],by omega⟩
theorem shv_ty {f:Nat} {l:List C} (h:Sh Tryz.prog f 43 l):∃x:Ty,l=x.cells/\True:=by
 cases f with
 |zero=>exact h.elim
 |succ f=>
  have h:=Sh.struct Tryz.underlying43 h
  obtain ⟨hl,hf⟩:=h
  rw [c_ty] at hl
  match l,hl with
  |[a0,a1,a2,a3,a4],_=>
   simp only [List.mem_cons,List.not_mem_nil,or_false,forall_eq_or_imp,forall_eq,c_int,List.drop_zero,List.drop_succ_cons,List.take_succ_cons,List.take_zero] at hf
   obtain ⟨h0,h1,h2,h3,h4⟩:=hf
   obtain ⟨k,e0,p0⟩:=zEm h0
   simp only [List.cons.injEq,and_true] at e0
   obtain ⟨b,e1,p1⟩:=zEm h1
   simp only [List.cons.injEq,and_true] at e1
   obtain ⟨fr,e2,p2⟩:=zEm h2
   simp only [List.cons.injEq,and_true] at e2
   obtain ⟨r,e3,p3⟩:=zEm h3
   simp only [List.cons.injEq,and_true] at e3
   obtain ⟨ov,e4,p4⟩:=zEm h4
   simp only [List.cons.injEq,and_true] at e4
   subst e0 e1 e2 e3 e4
   exact ⟨⟨k,b,fr,r,ov⟩,rfl,trivial⟩
theorem shv_tys {f:Nat} {l:List C} (h:Sh Tryz.prog f 27 l):∃x:List Ty,l=[.sl 5 (x.map Ty.cells)]/\x.length<=140737488355328:=by
 cases f with
 |zero=>exact h.elim
 |succ f=>
  have h:=Sh.slice Tryz.underlying27 h
  obtain ⟨rows,rfl,⟨_,hb⟩,hr⟩:=h
  obtain ⟨x,rfl,hx⟩:=zDm fun r hr'=>shv_ty (hr r hr')
  rw [b_ty,reachE,List.length_map] at hb
  exact ⟨x,by rw [c_ty],by omega⟩
theorem shv_in {f:Nat} {l:List C} (h:Sh Tryz.prog f 61 l):∃x:In,l=x.cells/\True:=by
 cases f with
 |zero=>exact h.elim
 |succ f=>
  have h:=Sh.struct Tryz.underlying61 h
  obtain ⟨hl,hf⟩:=h
  rw [c_in] at hl
  match l,hl with
  |[a0,a1,a2,a3,a4,a5,a6,a7,a8,a9,a10],_=>
   simp only [List.mem_cons,List.not_mem_nil,or_false,forall_eq_or_imp,forall_eq,c_int,c_val,c_ty,List.drop_zero,List.drop_succ_cons,List.take_succ_cons,List.take_zero] at hf
   obtain ⟨h0,h1,h2,h3,h4,h5⟩:=hf
   obtain ⟨op,e0,p0⟩:=zEm h0
   simp only [List.cons.injEq,and_true] at e0
   obtain ⟨na,e1,p1⟩:=zEm h1
   simp only [List.cons.injEq,and_true] at e1
   obtain ⟨nb,e2,p2⟩:=zEm h2
   simp only [List.cons.injEq,and_true] at e2
   obtain ⟨nc,e3,p3⟩:=zEm h3
   simp only [List.cons.injEq,and_true] at e3
   obtain ⟨⟨vn,vd⟩,e4,p4⟩:=shv_val h4
   simp only [Vl.cells,List.cons.injEq,and_true] at e4
   obtain ⟨e4_0,e4_1⟩:=e4
   obtain ⟨⟨k,b,fr,r,ov⟩,e5,p5⟩:=shv_ty h5
   simp only [Ty.cells,List.cons.injEq,and_true] at e5
   obtain ⟨e5_0,e5_1,e5_2,e5_3,e5_4⟩:=e5
   subst e0 e1 e2 e3 e4_0 e4_1 e5_0 e5_1 e5_2 e5_3 e5_4
   exact ⟨⟨op,na,nb,nc,⟨vn,vd⟩,⟨k,b,fr,r,ov⟩⟩,rfl,trivial⟩
theorem shv_ins {f:Nat} {l:List C} (h:Sh Tryz.prog f 26 l):∃x:List In,l=[.sl 11 (x.map In.cells)]/\x.length<=140737488355328:=by
 cases f with
 |zero=>exact h.elim
 |succ f=>
  have h:=Sh.slice Tryz.underlying26 h
  obtain ⟨rows,rfl,⟨_,hb⟩,hr⟩:=h
  obtain ⟨x,rfl,hx⟩:=zDm fun r hr'=>shv_in (hr r hr')
  rw [b_in,reachE,List.length_map] at hb
  exact ⟨x,by rw [c_in],by omega⟩
theorem shv_slot {f:Nat} {l:List C} (h:Sh Tryz.prog f 49 l):∃x:St0,l=x.cells/\True:=by
 cases f with
 |zero=>exact h.elim
 |succ f=>
  have h:=Sh.struct Tryz.underlying49 h
  obtain ⟨hl,hf⟩:=h
  rw [c_slot] at hl
  match l,hl with
  |[a0,a1,a2],_=>
   simp only [List.mem_cons,List.not_mem_nil,or_false,forall_eq_or_imp,forall_eq,c_str,c_int,List.drop_zero,List.drop_succ_cons,List.take_succ_cons,List.take_zero] at hf
   obtain ⟨h0,h1,h2⟩:=hf
   obtain ⟨s,e0,p0⟩:=shv_str h0
   simp only [List.cons.injEq,and_true] at e0
   obtain ⟨na,e1,p1⟩:=zEm h1
   simp only [List.cons.injEq,and_true] at e1
   obtain ⟨nb,e2,p2⟩:=zEm h2
   simp only [List.cons.injEq,and_true] at e2
   subst e0 e1 e2
   exact ⟨⟨s,na,nb⟩,rfl,trivial⟩
theorem shv_slots {f:Nat} {l:List C} (h:Sh Tryz.prog f 28 l):∃x:List St0,l=[.sl 3 (x.map St0.cells)]/\x.length<=140737488355328:=by
 cases f with
 |zero=>exact h.elim
 |succ f=>
  have h:=Sh.slice Tryz.underlying28 h
  obtain ⟨rows,rfl,⟨_,hb⟩,hr⟩:=h
  obtain ⟨x,rfl,hx⟩:=zDm fun r hr'=>shv_slot (hr r hr')
  rw [b_slot,reachE,List.length_map] at hb
  exact ⟨x,by rw [c_slot],by omega⟩
def Un0.cells (u:Un0):List C:=[.sl 11 (u.code.map In.cells),.sl 5 (u.tys.map Ty.cells),.sl 3 (u.slots.map St0.cells),cI u.words]
theorem shv_unit {f:Nat} {l:List C} (h:Sh Tryz.prog f 30 l):∃x:Un0,l=x.cells/\x.Fit:=by
 cases f with
 |zero=>exact h.elim
 |succ f=>
  have h:=Sh.struct Tryz.underlying30 h
  obtain ⟨hl,hf⟩:=h
  rw [c_unit] at hl
  match l,hl with
  |[a0,a1,a2,a3],_=>
   simp only [List.mem_cons,List.not_mem_nil,or_false,forall_eq_or_imp,forall_eq,c_ins,c_tys,c_slots,c_int,List.drop_zero,List.drop_succ_cons,List.take_succ_cons,List.take_zero] at hf
   obtain ⟨h0,h1,h2,h3⟩:=hf
   obtain ⟨c,e0,p0⟩:=shv_ins h0
   simp only [List.cons.injEq,and_true] at e0
   obtain ⟨t,e1,p1⟩:=shv_tys h1
   simp only [List.cons.injEq,and_true] at e1
   obtain ⟨s,e2,p2⟩:=shv_slots h2
   simp only [List.cons.injEq,and_true] at e2
   obtain ⟨w,e3,p3⟩:=zEm h3
   simp only [List.cons.injEq,and_true] at e3
   subst e0 e1 e2 e3
   exact ⟨⟨c,t,s,w⟩,rfl,⟨p0,p1,p2⟩⟩
theorem shv_ints {f:Nat} {l:List C} (h:Sh Tryz.prog f 44 l):∃x:List Int,l=[.sl 1 (x.map fun n=>[cI n])]/\x.length<=17592186044416:=sh_ints h
def Tn.Fit (t:Tn):Prop:=t.Dims.length<=17592186044416/\t.Vals.length<=140737488355328
theorem shv_ten {f:Nat} {l:List C} (h:Sh Tryz.prog f 52 l):∃x:Tn,l=x.cells/\x.Fit:=by
 cases f with
 |zero=>exact h.elim
 |succ f=>
  have h:=Sh.struct Tryz.underlying52 h
  obtain ⟨hl,hf⟩:=h
  rw [c_ten] at hl
  match l,hl with
  |[a0,a1,a2,a3,a4,a5,a6],_=>
   simp only [List.mem_cons,List.not_mem_nil,or_false,forall_eq_or_imp,forall_eq,c_ty,c_ints,c_vals,List.drop_zero,List.drop_succ_cons,List.take_succ_cons,List.take_zero] at hf
   obtain ⟨h0,h1,h2⟩:=hf
   obtain ⟨⟨k,b,fr,r,ov⟩,e0,p0⟩:=shv_ty h0
   simp only [Ty.cells,List.cons.injEq,and_true] at e0
   obtain ⟨e0_0,e0_1,e0_2,e0_3,e0_4⟩:=e0
   obtain ⟨D,e1,p1⟩:=shv_ints h1
   simp only [List.cons.injEq,and_true] at e1
   obtain ⟨v,e2,p2⟩:=shv_vals h2
   simp only [List.cons.injEq,and_true] at e2
   subst e0_0 e0_1 e0_2 e0_3 e0_4 e1 e2
   exact ⟨⟨⟨k,b,fr,r,ov⟩,D,v⟩,rfl,⟨p1,p2⟩⟩
theorem shv_nmd {f:Nat} {l:List C} (h:Sh Tryz.prog f 54 l):∃x:Nmd,l=x.cells/\x.T.Fit:=by
 cases f with
 |zero=>exact h.elim
 |succ f=>
  have h:=Sh.struct Tryz.underlying54 h
  obtain ⟨hl,hf⟩:=h
  rw [c_nmd] at hl
  match l,hl with
  |[a0,a1,a2,a3,a4,a5,a6,a7],_=>
   simp only [List.mem_cons,List.not_mem_nil,or_false,forall_eq_or_imp,forall_eq,c_str,c_ten,List.drop_zero,List.drop_succ_cons,List.take_succ_cons,List.take_zero] at hf
   obtain ⟨h0,h1⟩:=hf
   obtain ⟨s,e0,p0⟩:=shv_str h0
   simp only [List.cons.injEq,and_true] at e0
   obtain ⟨⟨⟨k,b,fr,r,ov⟩,D,v⟩,e1,p1⟩:=shv_ten h1
   simp only [Tn.cells,List.cons.injEq,and_true] at e1
   obtain ⟨e1_0,e1_1,e1_2,e1_3,e1_4,e1_5,e1_6⟩:=e1
   subst e0 e1_0 e1_1 e1_2 e1_3 e1_4 e1_5 e1_6
   exact ⟨⟨s,⟨⟨k,b,fr,r,ov⟩,D,v⟩⟩,rfl,p1⟩
theorem shv_mem {f:Nat} {l:List C} (h:Sh Tryz.prog f 31 l):∃x:List Nmd,l=[.sl 8 (x.map Nmd.cells)]/\(x.length<=140737488355328/\∀y,y∈x->y.T.Fit):=by
 cases f with
 |zero=>exact h.elim
 |succ f=>
  have h:=Sh.slice Tryz.underlying31 h
  obtain ⟨rows,rfl,⟨_,hb⟩,hr⟩:=h
  obtain ⟨x,rfl,hx⟩:=zDm fun r hr'=>shv_nmd (hr r hr')
  rw [b_nmd,reachE,List.length_map] at hb
  exact ⟨x,by rw [c_nmd],by omega,hx⟩
end Go.Br
end
