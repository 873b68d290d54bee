/-
  Walks: what functions of the program compute. Printed by wip/gen/mk2.py.
  Conditions: none.
-/
import Derived.Test.YtdldhbfgfkebjaaGreatDoorHM
import Derived.Test.YtdldhbfgfkebjaaGreatDoorEngV2
set_option linter.unusedSimpArgs false
set_option linter.unusedVariables false
set_option maxRecDepth 10000
namespace Go.W
open Go Go.Eng Go.Proofs Go.L41 Go.Br
attribute [local irreducible] AWP RWP TD finQ
theorem small3 {n:Ns} (c:(!(decide ((n.Bufs.length:Int)<=40)&&decide ((weighB n.Body 300:Int)<=300)))=false):n.Bufs.length<=40/\weighB n.Body 300<=300:=by
  rw [Bool.not_eq_false',Bool.and_eq_true,decide_eq_true_eq,decide_eq_true_eq] at c;omega
def bT:Ty:=⟨1,0,0,0,0⟩
def bN:Ns:=⟨[⟨bs [98],bT,[],2⟩],[.mk 2 (bs [98]) 0 0 0 [] (.mk 1 (bs []) ⟨2,1⟩ bT ⟨0,[]⟩ [] []) []]⟩
theorem bN_ok:bN.Ok:=⟨by decide,fun b hb=>by simp only [bN,List.mem_singleton] at hb;subst hb;decide,by decide⟩
theorem cmp_fine {n:Ns} (hv:(validN n).2=0) (hb:n.Bufs.length<=40):(cmpT n).1.Code.length<=65536/\(cmpT n).1.Types.length<=256/\(cmpT n).1.Slots.length<=40:=by
  unfold cmpT
  split
  · simp [zUn]
  · split
    · simp [zUn]
    · split
      · simp [zUn]
      · split
        · simp [zUn]
        · refine ⟨by dsimp only;omega,by dsimp only;omega,?_⟩
          show (slos (lives n) (plF (lives n) (ordP (lives n))).1).length<=40
          have hs:=szOk_of (zIc hv)
          have J:=(plJ hs (lives n).length (Nat.le_refl _)).pl
          have htk:(ordP (lives n)).take (lives n).length=ordP (lives n):=List.take_of_length_le (by rw [zHw];omega)
          rw [htk] at J
          rw [zCp J.len,zCt];exact hb
theorem cmp_len {n:Ns} (hb:n.Bufs.length<=40):(cmpT n).1.Code.length<=65536/\(cmpT n).1.Types.length<=256/\(cmpT n).1.Slots.length<=40:=by
  by_cases hv:(validN n).2=0
  · exact cmp_fine hv hb
  · rw [cmp_1 hv];simp [zUn]
theorem fd35_0:fieldT Tryz.prog 35 0=some (0,32):=by kernel_rfl
theorem fd35_2:fieldT Tryz.prog 35 2=some (2,33):=by kernel_rfl
theorem fd35_3:fieldT Tryz.prog 35 3=some (3,3):=by kernel_rfl
theorem fd46_0:fieldT Tryz.prog 46 0=some (0,3):=by kernel_rfl
theorem ok8:callOk Tryz.prog 8=true:=by kernel_rfl
theorem ok9:callOk Tryz.prog 9=true:=by kernel_rfl
theorem ok12:callOk Tryz.prog 12=true:=by kernel_rfl
theorem pl25:placesT Tryz.prog 25=some [(0,1),(1,1)]:=by kernel_rfl
theorem pl59:placesT Tryz.prog 59=some [(0,1),(1,1),(2,1),(3,1),(4,1),(5,1),(6,13),(19,1)]:=by kernel_rfl
theorem sz25:(Tryz.prog.info? 25).map (·.size)=some 2:=by kernel_rfl
theorem zr25:zeroT Tryz.prog 25=some [(Value.slice none 0 0),(Value.slice none 0 0)]:=by kernel_rfl
theorem zIe  :
    Pur cfg 9 [] (vB true):=by
 refine zW Tryz.func9 O Tryz.ntmps9 Tryz.results9 O ?_
 intro z hz
 refine R O<|G O<|zA<|R O<|v O (yB O zr31 pl31 O)<|zU O O (yX O zr31) ?_
 rintro _ _ ⟨b1,rfl,rfl⟩
 refine D 0 sz31 O<|qS _ (qK 0 O 1 _ PLe.ptr)<|zA ?_
 refine R O<|zP yP Y O<|v O (wS [none,none,none,none,none,none,some 1,none] O zr69 pl69 O O)<|v O (kF O el22 zr69 O O O O)<|zP yP Y O<|v O (yB O zr44 pl44 O)<|v O (wS [none,none,none,none,none,none,none,none,none,none,some 2,some 4,some 13] O zr57 pl57 O O)<|v O (wS [none,none,none,none,none,some 4,none,none,none,none,none,none,none,none,none,none,none,none,none,some 20] O zr59 pl59 O O)<|v O (kF O el23 zr59 O O O O)<|v O (yB O zr25 pl25 O)<|zU O O (qR [some 8,some 20] O zr25 O) ?_
 rintro _ _ ⟨b2,rfl,rfl⟩
 refine D 0 sz25 O<|qS _ (qK 0 O 2 _ PLe.ptr)<|zA ?_
 refine R O<|zP zFj Y O<|qW O ok12 (cg_Compile bN bN_ok (by decide) (by decide)) ⟨zB,O,T⟩<|v O (yW O O)<|v O (kV O O O)<|v O (kO O O O)<|zU O O (qR [some 11,some 5,some 3,none] O zr35 O) ?_
 rintro _ _ ⟨b3,rfl,rfl⟩
 refine D 0 sz35 O<|qS _ (qK 0 O 3 _ PLe.ptr)<|G O<|zA ?_
 refine R O<|G O<|yO O<|G O<|rL0 O (fun g4_2=>qA O fd35_0 O) O<|B 23 O (fun g4_2=>zD O zNl O Y O) O<|B 24 O (fun g4_2=>wJ O el32 O) O<|B 25 O (fun g4_2=>kJ O O O) O<|kE O (fun h=>h)<|G O<|rL0 O (fun g4_8=>qA O fd35_0 O) O<|B 29 O (fun g4_8=>zD O zNl O Y O) O<|B 30 O (fun g4_8=>yA O el32 O O (by omega) (getm (show (cmpT bN).1.Code[((10:Int)).toNat]? =some (iN 0 0 0 0) by kernel_rfl))) O<|B 31 O (fun g4_8=>qA O fd46_0 O) O<|B 32 O (fun g4_8=>zD O one3 O Y O) O<|B 33 O (fun g4_8=>kJ O O O) O<|kE O (fun h=>h)<|G O<|rL0 O (fun g4_16=>qA O fd35_3 O) O<|B 37 O (fun g4_16=>zD O one3 O Y O) O<|B 38 O (fun g4_16=>kJ O O O) O<|kE O (fun h=>h)<|G O<|rL0 O (fun g4_21=>qG O zFj O Y O) O<|B 42 O (fun g4_21=>qY O ok10 (OwnR.pur (cg_Types bN (by decide) (by decide))) ⟨zB,O,T⟩) O<|B 43 O (fun g4_21=>wJ O el28 O) O<|B 44 O (fun g4_21=>kJ O O O) O<|kE O (fun h=>h)<|G O<|zA<|zM<|zX O ?_
 exact congrArg vB (by decide+kernel)
end Go.W
