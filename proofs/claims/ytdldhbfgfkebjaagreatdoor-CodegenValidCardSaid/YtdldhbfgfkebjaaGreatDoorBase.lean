/-
  What all rows of this seat need: the world of the witness,the table out of the row's list,the memory at the call's beginning.
  Conditions: none.
-/
import Derived.Test.YtdldhbfgfkebjaaGreatDoorCards
import Derived.Test.YtdldhbfgfkebjaaGreatDoorTie
import Derived.Test.YtdldhbfgfkebjaaGreatDoorCfg
import Derived.Test.YtdldhbfgfkebjaaGreatDoorEngY
import Derived.ProofKit
import Derived.Deep.DeepHandedRow
import Derived.Deep.DeepWitnessRowRef
import Derived.Lib.LaidTab
set_option linter.unusedSimpArgs false
set_option linter.unusedVariables false
namespace Go.L41
open Go Go.Eng Go.RowKit Go.ChangeShapes Go.WideShapes Go.ChangeAt Go.Proofs Go.Proofs.YtdldhbfgfkebjaaGreatDoor
theorem own:ownKnob Tryz.prog.godebug=none:=by kernel_rfl
theorem laidOut:laidOutB Tryz.prog=true:=by kernel_rfl
theorem gTabType:(Tryz.prog.globals[1]?).map (·.type)=some 245:=by kernel_rfl
theorem cellsTab:Tryz.prog.cellsOf 245=256:=by kernel_rfl
theorem cellsU8:Tryz.prog.cellsOf 5=1:=by kernel_rfl
theorem zSi {P:Program} {x:String×DataW Unit} {r:List (String×DataW Unit)} {w:World} (h:laidMet P (x::r) w):laidMet P r w:=by
 obtain ⟨ps,hv,hnd,hrows⟩:=h
 obtain ⟨n,d⟩:=x
 obtain ⟨g,t,cs,fuel,p,q,_,_,_,_,hq,rfl⟩:=hv
 exact ⟨q,hq,List.Nodup.sublist (List.sublist_append_right _ _) hnd,fun b off hm=>hrows b off (List.mem_append_right _ hm)⟩
theorem tab_len:0<Lib.asciiSpaceTab.length:=by rw [Lib.asciiSpaceTab_length];omega
theorem laid_same:(Rows.laid_strings_asciiSpace:DataW Unit)=Lib.tabData .u8 Lib.asciiSpaceTab:=by kernel_rfl
noncomputable def vM (os:Os):World:=
 let N:=(World.settled Tryz.prog os).heap.size
 let r (a b c:Int):List Value:=[.int .u16 a,.int .u16 b,.int .u16 c]
 let w0:=World.holding Tryz.prog os ⟨#[
  .cells (r 9 13 1++r 32 133 101++r 160 5760 5600++r 8192 8202 1++r 8232 8233 1++r 8239 8287 48++r 12288 12288 1).toArray 286,
  .cells #[.slice (some ⟨N,0,none⟩) 7 7,.slice none 0 0,.int .i64 2] 283],#[],[]⟩
 let put (h:Array Obj) (g:Nat) (cs:Array Value):Array Obj:=h.modify g fun
  |.cells _ t frozen=>.cells cs t frozen
  |o=>o
 let h1:=put w0.heap 1 (Lib.asciiSpaceTab.map fun z=>Value.int .u8 z).toArray
 let h2:=put h1 2 #[.pointer (some ⟨N+1,0,none⟩)]
 { w0 with heap:=h2 }
end Go.L41
