/-
  Walks: what functions of the program compute. Printed by wip/gen/mk2.py.
  Conditions: none.
-/
import Derived.Test.YtgfomfnjionbeaaGreatDoorWD
import Derived.Test.YtgfomfnjionbeaaGreatDoorPlain
set_option linter.unusedSimpArgs false
set_option linter.unusedVariables false
set_option maxRecDepth 10000
namespace Go.W
open Go Go.Eng Go.Proofs Go.L41 Go.Br
attribute [local irreducible] AWP RWP TD finQ
theorem zFb (l:List Mono) (hl:l.length<=5864062014805):
    OwnR cfg 196 [vMonos l] 139 2 (l.map Mono.cells):=by
 refine zW Tryz.func196 O Tryz.ntmps196 Tryz.results196 O ?_
 intro z hz
 refine Y O<|qT 2 O<|zA<|zH<|Y O<|G O<|zZ O O (zFd O U O O) ?_
 rintro _ _ ⟨nb1,rfl,hnil1,rfl⟩
 refine zA<|zE O (fun c1=>?_) (fun c1=>?_)
 ·try simp only [sx] at c1
  refine Y O<|G O<|yK _ (kI 139 2)<|zA<|zG<|zV O ?_
  exact ⟨_,O,by rw [hnil1 c1]⟩
 ·try simp only [sx] at c1
  refine zF<|Y O<|zZ O O (zBv O U zEr O O O O) ?_
  rintro _ _ ⟨sv3,rfl,rfl⟩
  refine G O<|zZ O O (yH 0 O U O O O (by simp only [List.length_map,List.length_nil,Nat.zero_add];omega) (by simp only [List.length_map,List.length_nil,Nat.zero_add];omega)) ?_
  exact l8
theorem zGl (l:List Lf) (hl:l.length<=4294967296):
    OwnR cfg 129 [vLins l] 59 2 (l.map Lf.cells):=by
 refine zW Tryz.func129 O Tryz.ntmps129 Tryz.results129 O ?_
 intro z hz
 refine Y O<|qT 2 O<|zA<|zH<|Y O<|G O<|zZ O O (zFd O el72 O O) ?_
 rintro _ _ ⟨nb1,rfl,hnil1,rfl⟩
 refine zA<|zE O (fun c1=>?_) (fun c1=>?_)
 ·try simp only [sx] at c1
  refine Y O<|G O<|yK _ (kI 59 2)<|zA<|zG<|zV O ?_
  exact ⟨_,O,by rw [hnil1 c1]⟩
 ·try simp only [sx] at c1
  refine zF<|Y O<|zZ O O (zBv O el72 W O O O O) ?_
  rintro _ _ ⟨sv3,rfl,rfl⟩
  refine G O<|zZ O O (yH 0 O el72 O O O (by simp only [List.length_map,List.length_nil,Nat.zero_add];omega) (by simp only [List.length_map,List.length_nil,Nat.zero_add];omega)) ?_
  exact l8
theorem zHc (l:List Ix) (hl:l.length<=4294967296):
    OwnR cfg 128 [vIndices l] 93 4 (l.map Ix.cells):=by
 refine zW Tryz.func128 O Tryz.ntmps128 Tryz.results128 O ?_
 intro z hz
 refine Y O<|qT 4 O<|zA<|zH<|Y O<|G O<|zZ O O (zFd O el52 O O) ?_
 rintro _ _ ⟨nb1,rfl,hnil1,rfl⟩
 refine zA<|zE O (fun c1=>?_) (fun c1=>?_)
 ·try simp only [sx] at c1
  refine Y O<|G O<|yK _ (kI 93 4)<|zA<|zG<|zV O ?_
  exact ⟨_,O,by rw [hnil1 c1]⟩
 ·try simp only [sx] at c1
  refine zF<|Y O<|zZ O O (zBv O el52 zr93 O O O O) ?_
  rintro _ _ ⟨sv3,rfl,rfl⟩
  refine G O<|zZ O O (yH 0 O el52 O O O (by simp only [List.length_map,List.length_nil,Nat.zero_add];omega) (by simp only [List.length_map,List.length_nil,Nat.zero_add];omega)) ?_
  exact l8
theorem zHd (l:List Ex) (hl:l.length<=4294967296):
    OwnR cfg 130 [vEs l] 62 13 (l.map Ex.cells):=by
 refine zW Tryz.func130 O Tryz.ntmps130 Tryz.results130 O ?_
 intro z hz
 refine Y O<|qT 13 O<|zA<|zH<|Y O<|G O<|zZ O O (zFd O el60 O O) ?_
 rintro _ _ ⟨nb1,rfl,hnil1,rfl⟩
 refine zA<|zE O (fun c1=>?_) (fun c1=>?_)
 ·try simp only [sx] at c1
  refine Y O<|G O<|yK _ (kI 62 13)<|zA<|zG<|zV O ?_
  exact ⟨_,O,by rw [hnil1 c1]⟩
 ·try simp only [sx] at c1
  refine zF<|Y O<|zZ O O (zBv O el60 zr62 O O O O) ?_
  rintro _ _ ⟨sv3,rfl,rfl⟩
  refine G O<|zZ O O (yH 0 O el60 O O O (by simp only [List.length_map,List.length_nil,Nat.zero_add];omega) (by simp only [List.length_map,List.length_nil,Nat.zero_add];omega)) ?_
  exact l8
end Go.W
