/-
  What the rows of this seat need whose lists hold the table of opcodes.
  Conditions: none.
-/
import Derived.Test.YtdldhbfgfkebjaaGreatDoorBase
import Derived.Test.YtdldhbfgfkebjaaGreatDoorPlainV
import Derived.OpenShut
import Derived.JoinedCond
import Derived.Lib.LaidTab
set_option linter.unusedSimpArgs false
set_option linter.unusedVariables false
namespace Go.Br
open Go Go.Eng Go.RowKit Go.ChangeShapes Go.WideShapes Go.ChangeAt Go.Proofs Go.Proofs.YtdldhbfgfkebjaaGreatDoor Go.L41
abbrev lK : List (String × DataW Unit) := [("unicode.White_Space", Rows.laid_unicode_White_Space), ("strings.asciiSpace", Rows.laid_strings_asciiSpace), ("brocade/isa.opcodes", Rows.laid_brocade_isa_opcodes)]
theorem gOpsType:(Tryz.prog.globals[0]?).map (·.type)=some 188:=by kernel_rfl
theorem cellsOps:Tryz.prog.cellsOf 188=102:=by kernel_rfl
theorem cellsOp:Tryz.prog.cellsOf 187=6:=by kernel_rfl
theorem cellsKs:Tryz.prog.cellsOf 185=5:=by kernel_rfl
theorem cellsK:Tryz.prog.cellsOf 3=1:=by kernel_rfl
theorem cellsSt:Tryz.prog.cellsOf 9=1:=by kernel_rfl
theorem undOps:Tryz.prog.underlying 188=some (.array 17 187):=by kernel_rfl
theorem undOp : ∃ f g : Field, Tryz.prog.underlying 187 = some (.struct #[f, g]) ∧ f.type = 9 ∧ f.offset = 0 ∧ g.type = 185 ∧ g.offset = 1 := ⟨⟨"word", 9, 0, false, "", "brocade/isa", 0⟩, ⟨"operands", 185, 1, false, "", "brocade/isa", 16⟩, by kernel_rfl, rfl, rfl, rfl, rfl⟩
theorem undKs:Tryz.prog.underlying 185=some (.array 5 3):=by kernel_rfl
theorem undK:Tryz.prog.underlying 3=some (.int .i64):=by kernel_rfl
theorem undSt:Tryz.prog.underlying 9=some .string:=by kernel_rfl
theorem bs_of {s:ByteArray} {l:List UInt8} (h:s.data.toList=l):s=bs l:=by subst h;rfl
theorem row_cells {H:Type} {enc:TypeId×Value->H} {w:World} {base:Nat} {sp:Nat->Bool} {held:Bool} {fuel:Nat} {cs:List Value} {s:List UInt8} {zs:List Int} {d:DataW H×List MemPlace}
  (h:DataW.trod enc Tryz.prog w base sp held fuel 187 cs=some d) (hd:d.1=.agg [.lit (.string s),Lib.tabData .i64 zs]):cs=jH s zs:=by
 obtain ⟨f,g,hu,hf,hfo,hg,hgo⟩:=undOp
 obtain ⟨xs,n,_,rfl,hl,hxl,hall⟩:=DataW.trod_struct hu h
 rw [cellsOp] at hl
 have h0:=hall 0 f rfl
 have h1:=hall 1 g rfl
 rw [hf,hfo,cellsSt] at h0
 rw [hg,hgo,cellsKs] at h1
 simp only [DataW.agg.injEq] at hd
 match xs,hd with
 |[a,b],hd=>
  simp only [List.map_cons,List.map_nil,List.cons.injEq,and_true] at hd
  obtain ⟨ha,hb⟩:=hd
  obtain ⟨a,pa⟩:=a
  obtain ⟨b,pb⟩:=b
  simp only at ha hb
  subst ha hb
  obtain ⟨s',e0,e1,_⟩:=DataW.trod_string undSt h0
  have e2:=Lib.cells_of_tab undKs undK cellsK cellsKs h1
  simp only [Prod.mk.injEq,DataW.lit.injEq,Lit.string.injEq] at e1
  have e3:=bs_of e1.1.symm
  subst e3
  have e:cs=cs.take 1++(cs.drop 1).take 5:=by rw [List.take_of_length_le (l:=cs.drop 1) (by rw [List.length_drop,hl];exact Nat.le_refl _),List.take_append_drop]
  rw [List.drop_zero] at e0
  rw [e,e0,e2];rfl
theorem flat_cells:∀(L:List (List Value)) (cs:List Value),cs.length=L.length*6->(∀i r,L[i]? =some r->(cs.drop (i*6)).take 6=r)->cs=L.flatten
 |[],cs,hl,_=>by simpa using hl
 |r::L,cs,hl,h=>by
  have h0:=h 0 r rfl
  have ih:=flat_cells L (cs.drop 6) (by rw [List.length_drop,hl,List.length_cons];omega) fun i r' hr=>by
   have:=h (i+1) r' (by simpa using hr)
   rw [List.drop_drop,show 6+i*6=(i+1)*6 by omega];exact this
  rw [Nat.zero_mul,List.drop_zero] at h0
  rw [List.flatten_cons,←h0,←ih,List.take_append_drop]
def opRows:List (List UInt8×List Int):=[([104,97,108,116],[0,0,0,0,0]),([105,110,116],[1,8,0,0,0]),([109,111,118,101],[1,2,0,0,0]),([97,100,100],[1,2,3,0,0]),([109,117,108],[1,2,9,0,0]),([109,105,110],[1,2,3,0,0]),([109,97,120],[1,2,3,0,0]),([106,117,109,112],[7,0,0,0,0]),([106,108,116],[7,2,3,0,0]),([99,111,110,115,116],[4,14,0,0,0]),([108,111,97,100],[4,2,10,11,0]),([115,116,111,114,101],[4,2,10,11,0]),([111,112],[15,4,5,6,17]),([99,97,115,116],[4,5,12,17,0]),([116,101,115,116],[16,7,5,6,17]),([116,111,105,110,116],[1,5,13,0,0]),([102,114,111,109,105,110,116],[4,2,0,0,0])]
theorem ops_same:(Rows.laid_brocade_isa_opcodes:DataW Unit)=.agg (opRows.map fun p=>.agg [.lit (.string p.1),Lib.tabData .i64 p.2]):=by kernel_rfl
theorem opCells_rows:opCells=(opRows.map fun p=>jH p.1 p.2).flatten:=rfl
theorem tableOps {W:World} (h:laidMetH Tryz.prog lK W):rU W:=by
 have h':laidMet Tryz.prog lK W:=h
 have h2:=zSi (zSi h')
 obtain ⟨ps,⟨g',t',cs,fuel,p,q,hg',ht',hvar,hd,_,_⟩,_⟩:=h2
 obtain rfl:=Option.some.inj (gOps.symm.trans hg')
 obtain rfl:=Option.some.inj (gOpsType.symm.trans ht')
 rw [ops_same] at hd
 obtain ⟨xs,m,_,hx,hl,hxl,hall⟩:=DataW.trod_array undOps hd
 rw [cellsOps] at hl
 have hx1:xs.map (·.1)=opRows.map fun p=>.agg [.lit (.string p.1),Lib.tabData .i64 p.2]:=by
  have:=congrArg Prod.fst hx
  simpa using this.symm
 have e:cs.toList=opCells:=by
  rw [opCells_rows]
  refine flat_cells _ _ (by rw [hl,List.length_map];rfl) fun i r hr=>?_
  rw [List.getElem?_map,Option.map_eq_some_iff] at hr
  obtain ⟨⟨s,zs⟩,hr,rfl⟩:=hr
  have hi:i<17:=(List.getElem?_eq_some_iff.1 hr).1
  have h1:=hall i hi
  rw [cellsOp] at h1
  have hxi:i<xs.length:=by omega
  rw [List.getElem?_eq_getElem hxi] at h1
  refine row_cells h1 ?_
  have h2:=congrArg (·[i]?) hx1
  simp only [List.getElem?_map,hr,List.getElem?_eq_getElem hxi,Option.map_some,Option.some.injEq] at h2
  exact h2
 unfold rU
 rw [hvar,←e]
theorem tableO {W : World} (h : laidMetH Tryz.prog lK W) : Lib.TabIs Tryz.prog W "strings.asciiSpace" .u8 Lib.asciiSpaceTab := by
 have h':laidMet Tryz.prog lK W:=h
 have h2:=zSi h'
 rw [laid_same] at h2
 exact Lib.tabIs_of_head (rest := [("brocade/isa.opcodes", Rows.laid_brocade_isa_opcodes)]) gTab gTabType Tryz.underlying245 Tryz.underlying5 cellsU8 cellsTab h2
theorem heap0O {W:World} (h:laidMetH Tryz.prog lK W):Heap cfgO W (fun b=>b<W.heap.size) []:=by
 refine ⟨?_,⟨tableO h,tableOps h⟩,by simp [bB],fun b hb=>by simp [bB] at hb,fun b hb=>hb,fun e he=>by simp at he,fun e he=>by simp at he⟩
 have h1:=World.block_lt_of_cell? W _ ((tableO h).cell gTab 0 tab_len)
 have h2:=World.block_lt_of_cell? W _ (ops_cell (tableOps h) (i:=0) (u:=.string (bs [104,97,108,116])) rfl)
 exact Nat.max_le.2 ⟨h1,h2⟩
noncomputable def nW (os:Os):World:=
 let w0:=vM os
 let put (h:Array Obj) (g:Nat) (cs:Array Value):Array Obj:=h.modify g fun
  |.cells _ t frozen=>.cells cs t frozen
  |o=>o
 { w0 with heap:=put w0.heap 0 opCells.toArray }
theorem laid_metO (os:Os) (args:Array Value):laidMet Tryz.prog lK ((nW os).forCall (fun _ _=>0) ⟨#[],args,[]⟩).memory:=
 laidMet_of_run' 8 (by kernel_rfl) (by kernel_rfl)
end Go.Br
