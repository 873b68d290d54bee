/-
  The memory of the checker and the typer of layer 17.
  Conditions: none.
-/
import Derived.Test.YtgfomfnjionbeaaGreatDoorPlain
set_option linter.unusedSimpArgs false
set_option linter.unusedVariables false
namespace Go.Br
open Go Go.Eng Go.L41
abbrev rW (t:TypeId) (b mb:Nat) (p:Pg):E:=.row b t [.sl 1 (p.Sizes.map fun s=>[cS s]),.sl 3 (p.Where.map Cn.cells),.sl 7 (p.Params.map Pm.cells),.sl 22 (p.Defs.map Df.cells),.sl 1 (p.Outs.map fun s=>[cS s]),.lit (.map (some mb))]
abbrev ckE (b mb:Nat) (p:Pg) (m:Kn):List E:=[rW 119 b mb p,.blk mb (MapR vI m)]
abbrev tyE (b mb:Nat) (p:Pg) (m:Kn):List E:=[rW 236 b mb p,.blk mb (MapR vI m)]
end Go.Br
