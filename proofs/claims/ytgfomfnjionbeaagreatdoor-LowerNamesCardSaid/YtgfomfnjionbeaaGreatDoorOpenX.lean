/-
  What all rows of this seat need: the world of the witness,the table out of the row's list,the memory at the call's beginning.
  Facts of the whole program that every row of the seat asks for,each by computation.
  What an argument of this seat is.
  What an argument of this seat is: programs.
  What an argument of this seat is: the numbers in its forms are in range.
  What an argument of this seat is: a definition; how long its forms can be,and that their numbers are in range.
  What an argument of this seat is: a program whose forms are no longer than memory.
  What an argument of this seat is: a program whose forms are in range.
  What an argument of this seat is: a program all of whose forms are in range,and values of sizes.
  Conditions: none.
-/
import Derived.Test.YtgfomfnjionbeaaGreatDoorCards
import Derived.Test.YtgfomfnjionbeaaGreatDoorTie
import Derived.Test.YtgfomfnjionbeaaGreatDoorCfg
import Derived.Test.YtgfomfnjionbeaaGreatDoorEngY
import Derived.ProofKit
import Derived.Deep.DeepHandedRow
import Derived.Deep.DeepWitnessRowRef
import Derived.Lib.LaidTab
import Derived.JoinedCond
import Derived.Test.YtgfomfnjionbeaaGreatDoorPlain
import Derived.Test.YtgfomfnjionbeaaGreatDoorPlain2
import Derived.Test.YtgfomfnjionbeaaGreatDoorPlainL
set_option linter.unusedSimpArgs false
set_option linter.unusedVariables false
section
namespace Go.L41
open Go Go.Eng Go.RowKit Go.ChangeShapes Go.WideShapes Go.ChangeAt Go.Proofs Go.Proofs.YtgfomfnjionbeaaGreatDoor
theorem own:ownKnob Tryz.prog.godebug=none:=by kernel_rfl
theorem laidOut:laidOutB Tryz.prog=true:=by kernel_rfl
theorem gTabType:(Tryz.prog.globals[0]?).map (·.type)=some 258:=by kernel_rfl
theorem cellsTab:Tryz.prog.cellsOf 258=256:=by kernel_rfl
theorem cellsU8:Tryz.prog.cellsOf 5=1:=by kernel_rfl
abbrev theLaid : List (String × DataW Unit) := [("unicode.White_Space", Rows.laid_unicode_White_Space), ("strings.asciiSpace", Rows.laid_strings_asciiSpace)]
theorem laid_tail {P:Program} {x:String×DataW Unit} {r:List (String×DataW Unit)} {w:World} (h:laidMet P (x::r) w):laidMet P r w:=by
 obtain ⟨ps,hv,hnd,hrows⟩:=h
 obtain ⟨n,d⟩:=x
 obtain ⟨g,t,cs,fuel,p,q,_,_,_,_,hq,rfl⟩:=hv
 exact ⟨q,hq,List.Nodup.sublist (List.sublist_append_right _ _) hnd,fun b off hm=>hrows b off (List.mem_append_right _ hm)⟩
theorem tab_len:0<Lib.asciiSpaceTab.length:=by rw [Lib.asciiSpaceTab_length];omega
theorem laid_same:(Rows.laid_strings_asciiSpace:DataW Unit)=Lib.tabData .u8 Lib.asciiSpaceTab:=by kernel_rfl
theorem table {W : World} (h : laidMetH Tryz.prog theLaid W) : Lib.TabIs Tryz.prog W "strings.asciiSpace" .u8 Lib.asciiSpaceTab := by
 have h':laidMet Tryz.prog theLaid W:=h
 have h2:=laid_tail h'
 rw [laid_same] at h2
 exact Lib.tabIs_of_head (rest:=[]) gTab gTabType Tryz.underlying258 Tryz.underlying5 cellsU8 cellsTab h2
theorem heap0 {W:World} (h:laidMetH Tryz.prog theLaid W):Heap cfg W (fun b=>b<W.heap.size) []:=by
 refine ⟨?_,table h,by simp [blocksOf],fun b hb=>by simp [blocksOf] at hb,fun b hb=>hb,fun e he=>by simp at he,fun e he=>by simp at he⟩
 have hc:=(table h).cell gTab 0 tab_len
 have:=World.block_lt_of_cell? W _ hc
 exact this
noncomputable def laidWorld (os:Os):World:=
 let N:=(World.settled Tryz.prog os).heap.size
 let r (a b c:Int):List Value:=[.int .u16 a,.int .u16 b,.int .u16 c]
 let w0:=World.holding Tryz.prog os ⟨#[
  .cells (r 9 13 1++r 32 133 101++r 160 5760 5600++r 8192 8202 1++r 8232 8233 1++r 8239 8287 48++r 12288 12288 1).toArray 312,
  .cells #[.slice (some ⟨N,0,none⟩) 7 7,.slice none 0 0,.int .i64 2] 309],#[],[]⟩
 let put (h:Array Obj) (g:Nat) (cs:Array Value):Array Obj:=h.modify g fun
  |.cells _ t frozen=>.cells cs t frozen
  |o=>o
 let h1:=put w0.heap 0 (Lib.asciiSpaceTab.map fun z=>Value.int .u8 z).toArray
 let h2:=put h1 2 #[.pointer (some ⟨N+1,0,none⟩)]
 { w0 with heap:=h2 }
theorem laid_met (os:Os) (args:Array Value):laidMet Tryz.prog theLaid ((laidWorld os).forCall (fun _ _=>0) ⟨#[],args,[]⟩).memory:=
 laidMet_of_run' 8 (by kernel_rfl) (by kernel_rfl)
end Go.L41
end
section
namespace Go.Br
open Go Go.Proofs Go.Proofs.YtgfomfnjionbeaaGreatDoor
set_option maxRecDepth 100000
theorem side25:Tryz.pinned.checked.prog.mayEnter=true:=by kernel_rfl
theorem side26:(Rows.lowerNamesRow.lifted==Tryz.pinned.checked.prog.liftsFinal)=true:=by kernel_rfl
theorem side27:(Tryz.pinned.checked.prog.make==some Rows.lowerNamesRow.make)=true:=by kernel_rfl
end Go.Br
end
section
set_option maxRecDepth 100000
namespace Go.Br
open Go Go.Eng Go.RowKit Go.Proofs Go.L41
abbrev types:List TypeId:=[9,3,2,139,57,59,72,93,52,62,60,54,56]
theorem sh_string {f:Nat} {l:List C} (h:Sh Tryz.prog f 9 l):∃s:ByteArray,l=[cS s]:=by
 cases f with
 |zero=>exact h.elim
 |succ f=>have h:=Sh.str Tryz.underlying9 h;obtain ⟨s,h,_⟩:=h;exact ⟨s,h⟩
end Go.Br
end
section
set_option maxRecDepth 100000
namespace Go.Br
open Go Go.Eng Go.RowKit Go.Proofs Go.L41
abbrev types17:List TypeId:=[9,3,2,139,57,59,72,93,52,62,60,54,56,4,5,310,25,123,26,99,68,74,27,70,28,30]
end Go.Br
end
section
set_option maxRecDepth 100000
namespace Go.Br
open Go Go.Eng Go.RowKit Go.Proofs Go.L41
end Go.Br
end
section
set_option maxRecDepth 100000
namespace Go.Br
open Go Go.Eng Go.RowKit Go.Proofs Go.L41
end Go.Br
end
section
set_option maxRecDepth 100000
namespace Go.Br
open Go Go.Eng Go.RowKit Go.Proofs Go.L41
end Go.Br
end
section
set_option maxRecDepth 100000
namespace Go.Br
open Go Go.Eng Go.RowKit Go.Proofs Go.L41
end Go.Br
end
section
set_option maxRecDepth 100000
namespace Go.Br
open Go Go.Eng Go.RowKit Go.Proofs Go.L41
abbrev typesL:List TypeId:=31::50::types17
theorem okTypesL:typesL.all (okT Tryz.prog typesL)=true:=by kernel_rfl
end Go.Br
end
