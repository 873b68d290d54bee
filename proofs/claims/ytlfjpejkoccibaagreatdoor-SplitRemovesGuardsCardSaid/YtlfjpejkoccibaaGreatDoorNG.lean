/-
  Walks: what functions of the program compute. Printed by wip/gen/mk2.py.
  Conditions: none.
-/
import Derived.Test.YtlfjpejkoccibaaGreatDoorNF
import Derived.Test.YtlfjpejkoccibaaGreatDoorPlain2
import Derived.Test.YtlfjpejkoccibaaGreatDoorVK
import Derived.Test.YtlfjpejkoccibaaGreatDoorNE
set_option linter.unusedSimpArgs false
set_option linter.unusedVariables false
set_option maxRecDepth 10000
namespace Go.W
open Go Go.Eng Go.Proofs Go.L41 Go.Br
attribute [local irreducible] AWP RWP TD finQ
theorem pl46:placesT Tryz.prog 46=some [(0,1),(1,1),(2,1),(3,1),(4,1),(5,1),(6,13),(19,1)]:=by kernel_rfl
theorem sz23:(Tryz.prog.info? 23).map (·.size)=some 1:=by kernel_rfl
theorem base_Ints (a b:List Int) (ha:a.length<=17592186044416):
    Pur cfg 36 [vIs a,vIs b] (vB (decide (a=b))):=by
 refine zR Tryz.func36 O Tryz.ntmps36 Tryz.results36 O ?_
 intro z hz
 refine G O<|F O<|I<|zJ<|G O<|F O<|qB O el26<|F O<|qB O el26<|yR O<|I<|zF O (fun c1=>?_) (fun c1=>?_)
 ·try simp only [R] at c1
  refine G O<|F O<|I<|o<|X O ?_
  rw [yJ (fun h=>c1 (by rw [h]))]
 ·try simp only [R] at c1
  refine zI<|zJ<|G O<|F O<|I<|zQ<|zW ⟨[(5,.c _),(0,.c _),(1,.c _)],[]⟩ (Weak.mk [] ⟨H,H,H,T⟩ O)<|qK 1 0 O O (Nat) (fun k=>[(5,vI k)]) (fun k=>[]) (fun k=>k<=a.length/\(a.take k=b.take k)) (fun k=>a.length-k) ⟨0,⟨by omega,O⟩,Weak.mk [] ⟨H,H,H,T⟩ O⟩ ?_
  rintro k ⟨hk,hp⟩
  refine zJ<|G O<|F O<|F O<|qB O el26<|yH O<|I<|zF O (fun c2=>?_) (fun c2=>?_)
  ·try simp only [R] at c2
   obtain ⟨x,hx⟩:=qW a k (by omega)
   obtain ⟨y,hy⟩:=qW b k (by omega)
   refine zI<|zJ<|zQ<|zJ<|qX 9 mixed (by kernel_rfl) O O<|M O O (zN O O)<|M O O (zN O O)<|M O O (qD O el26 O O (by omega) (N (by assumption)))<|M O O (Q O J O qA O)<|M O O (zN O O)<|M O O (zN O O)<|M O O (qD O el26 O O (by omega) (N (by assumption)))<|M O O (Q O J O qA O)<|M O O (kH O O O)<|kB<|I<|zF O (fun c3=>?_) (fun c3=>?_)
   ·try simp only [R] at c3
    refine G O<|F O<|I<|o<|X O ?_
    rw [yJ (zEh hx hy c3)]
   ·try simp only [R] at c3
    refine zI<|zS O<|F O<|qH O ⟨by omega,by omega⟩<|F O<|I ?_
    refine ⟨k+1,⟨by omega,zBc hx hy hp c3⟩,(by omega),Weak.mk [] ⟨H,H,H,T⟩ O⟩
  ·try simp only [R] at c2
   refine qN<|G O<|F O<|I<|o<|X O ?_
   rw [wM (zDd hp (by omega) (by omega))]
end Go.W
