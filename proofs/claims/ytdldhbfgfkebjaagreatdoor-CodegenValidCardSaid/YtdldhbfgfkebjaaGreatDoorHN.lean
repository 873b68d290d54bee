/-
  What functions compute.
  Conditions: none.
-/
import Derived.Test.YtdldhbfgfkebjaaGreatDoorHM
import Derived.Test.YtdldhbfgfkebjaaGreatDoorEngV2
set_option linter.unusedSimpArgs false
set_option linter.unusedVariables false
set_option maxRecDepth 10000
namespace Go.W
open Go Go.Eng Go.Proofs Go.L41 Go.Br
attribute [local irreducible] AWP RWP TD fY
theorem small3 {n:Ns} (c:(!(decide ((n.Bufs.length:Int)<=40)&&decide ((gV n.Body 300:Int)<=300)))=false):n.Bufs.length<=40/\gV n.Body 300<=300:=by
  rw [Bool.not_eq_false',Bool.and_eq_true,decide_eq_true_eq,decide_eq_true_eq] at c;omega
def bT:Ty:=⟨1,0,0,0,0⟩
def bN:Ns:=⟨[⟨bs [98],bT,[],2⟩],[.mk 2 (bs [98]) 0 0 0 [] (.mk 1 (bs []) ⟨2,1⟩ bT ⟨0,[]⟩ [] []) []]⟩
theorem bN_ok:bN.Ok:=⟨by decide,fun b hb=>by simp only [bN,List.mem_singleton] at hb;subst hb;decide,by decide⟩
theorem cmp_fine {n:Ns} (hv:(bZ n).2=0) (hb:n.Bufs.length<=40):(lA n).1.Code.length<=65536/\(lA n).1.Types.length<=256/\(lA n).1.Slots.length<=40:=by
  unfold lA
  split
  · simp [zUn]
  · split
    · simp [zUn]
    · split
      · simp [zUn]
      · split
        · simp [zUn]
        · refine ⟨by dsimp only;omega,by dsimp only;omega,?_⟩
          show (jP (bE n) (plF (bE n) (dV (bE n))).1).length<=40
          have hs:=zRd (zGt hv)
          have J:=(plJ hs (bE n).length (Nat.le_refl _)).pl
          have htk:(dV (bE n)).take (bE n).length=dV (bE n):=List.take_of_length_le (by rw [zDk];omega)
          rw [htk] at J
          rw [zDn J.len,zCm];exact hb
theorem cmp_len {n:Ns} (hb:n.Bufs.length<=40):(lA n).1.Code.length<=65536/\(lA n).1.Types.length<=256/\(lA n).1.Slots.length<=40:=by
  by_cases hv:(bZ n).2=0
  · exact cmp_fine hv hb
  · rw [cmp_1 hv];simp [zUn]
theorem fd35_0:bD Tryz.prog 35 0=some (0,32):=by kernel_rfl
theorem fd35_1:bD Tryz.prog 35 1=some (1,28):=by kernel_rfl
theorem fd35_2:bD Tryz.prog 35 2=some (2,33):=by kernel_rfl
theorem fd35_3:bD Tryz.prog 35 3=some (3,3):=by kernel_rfl
theorem zMk:bD Tryz.prog 46 0=some (0,3):=by kernel_rfl
theorem fk46:tR Tryz.prog 46=some [.int,.int,.int,.int,.int,.int,.int,.int,.int,.int,.int]:=by kernel_rfl
theorem ok8:bA Tryz.prog 8=true:=by kernel_rfl
theorem ok9:bA Tryz.prog 9=true:=by kernel_rfl
theorem ok12:bA Tryz.prog 12=true:=by kernel_rfl
theorem pl25:fL Tryz.prog 25=some [(0,1),(1,1)]:=by kernel_rfl
theorem pl59:fL Tryz.prog 59=some [(0,1),(1,1),(2,1),(3,1),(4,1),(5,1),(6,13),(19,1)]:=by kernel_rfl
theorem sz25:(Tryz.prog.info? 25).map (·.size)=some 2:=by kernel_rfl
theorem zr25:dS Tryz.prog 25=some [(Value.slice none 0 0),(Value.slice none 0 0)]:=by kernel_rfl
theorem zKv  :
    Pur cfg 9 [] (vB true):=by
 refine zU Tryz.func9 O Tryz.ntmps9 Tryz.results9 O ?_
 intro z hz
 refine R O<|G O<|zA<|R O<|yZ O zr31 pl31<|zV O O (yN O zr31) ?_
 rintro _ _ ⟨b1,rfl,rfl⟩
 refine D 0 sz31 O<|qX _ (qK 0 O 1 _ PLe.ptr)<|zA<|zI ?_
 skip
 refine zM O<|zO yH zQ O<|zW O (kY [none,none,none,none,none,none,some 1,none] O zr69 pl69 O O)<|zW O (yM O el22 zr69 O O O O)<|zO yH zQ O<|yZ O zr44 pl44<|zW O (kY [none,none,none,none,none,none,none,none,none,none,some 2,some 4,some 13] O zr57 pl57 O O)<|zW O (kY [none,none,none,none,none,some 4,none,none,none,none,none,none,none,none,none,none,none,none,none,some 20] O zr59 pl59 O O)<|zW O (yM O el23 zr59 O O O O)<|yZ O zr25 pl25<|zV O O (qR [some 8,some 20] O zr25 O) ?_
 rintro _ _ ⟨b2,rfl,rfl⟩
 refine D 0 sz25 O<|qX _ (qK 0 O 2 _ PLe.ptr)<|zA<|zI ?_
 skip
 refine zM O<|zO zBi zQ O<|qN O ok12 (cg_Compile bN bN_ok (by decide) (by decide)) ⟨zB,O,T⟩<|zW O (yD O O)<|zW O (kD O O O)<|zW O (yR O O O)<|zV O O (qR [some 11,some 5,some 3,none] O zr35 O) ?_
 rintro _ _ ⟨b3,rfl,rfl⟩
 refine D 0 sz35 O<|qX _ (qK 0 O 3 _ PLe.ptr)<|G O<|zA<|zI ?_
 skip
 refine zM O<|G O<|qZ O<|G O<|rL0 O (fun g4_2=>qF O fd35_0 O) O<|A 23 O (fun g4_2=>zF O one32 O zQ O) O<|A 24 O (fun g4_2=>yW O el32 O) O<|A 25 O (fun g4_2=>yO O O O) O<|yK O (fun h=>h)<|G O<|rL0 O (fun g4_8=>qF O fd35_0 O) O<|A 29 O (fun g4_8=>zF O one32 O zQ O) O<|A 30 O (fun g4_8=>qL O el32 O O (by omega) (B (show (lA bN).1.Code[((10:Int)).toNat]? =some (iN 0 0 0 0) by kernel_rfl))) O<|A 31 O (fun g4_8=>qF O zMk O) O<|A 32 O (fun g4_8=>zF O one3 O zQ O) O<|A 33 O (fun g4_8=>yO O O O) O<|yK O (fun h=>h)<|G O<|rL0 O (fun g4_16=>qF O fd35_3 O) O<|A 37 O (fun g4_16=>zF O one3 O zQ O) O<|A 38 O (fun g4_16=>yO O O O) O<|yK O (fun h=>h)<|G O<|rL0 O (fun g4_21=>qC O zBi O zQ O) O<|A 42 O (fun g4_21=>qS O ok10 (OwnR.pur (cg_Types bN (by decide) (by decide))) ⟨zB,O,T⟩) O<|A 43 O (fun g4_21=>yW O el28 O) O<|A 44 O (fun g4_21=>yO O O O) O<|yK O (fun h=>h)<|G O<|zA<|zK<|zR O ?_
 exact congrArg vB (by decide+kernel)
end Go.W
