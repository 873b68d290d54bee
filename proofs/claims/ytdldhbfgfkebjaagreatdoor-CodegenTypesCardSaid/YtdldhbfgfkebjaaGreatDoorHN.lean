/-
  Walks: what functions of the program compute. Printed by wip/gen/mk2.py.
  Conditions: none.
-/
import Derived.Test.YtdldhbfgfkebjaaGreatDoorHM
import Derived.Test.YtdldhbfgfkebjaaGreatDoorEngV2
set_option linter.unusedSimpArgs false
set_option linter.unusedVariables false
set_option maxRecDepth 10000
namespace Go.W
open Go Go.Eng Go.Proofs Go.L41 Go.Br
attribute [local irreducible] AWP RWP TD finQ
theorem ty_self (a:Ty):litsEq (List.take 5 (tyC a)) (List.take 5 (tyC a))=true:=by simp [litsEq,cEq,tyC]
theorem small3 {n:Ns} (c:(!(decide ((n.Bufs.length:Int)<=40)&&decide ((weighB n.Body 300:Int)<=300)))=false):n.Bufs.length<=40/\weighB n.Body 300<=300:=by
  rw [Bool.not_eq_false',Bool.and_eq_true,decide_eq_true_eq,decide_eq_true_eq] at c;omega
def bT:Ty:=⟨1,0,0,0,0⟩
def bN:Ns:=⟨[⟨bs [98],bT,[],2⟩],[.mk 2 (bs [98]) 0 0 0 [] (.mk 1 (bs []) ⟨2,1⟩ bT ⟨0,[]⟩ [] []) []]⟩
theorem bN_ok:bN.Ok:=⟨by decide,fun b hb=>by simp only [bN,List.mem_singleton] at hb;subst hb;decide,by decide⟩
theorem fd35_0:fieldT Tryz.prog 35 0=some (0,32):=by kernel_rfl
theorem fd35_3:fieldT Tryz.prog 35 3=some (3,3):=by kernel_rfl
theorem fd46_0:fieldT Tryz.prog 46 0=some (0,3):=by kernel_rfl
theorem ok8:callOk Tryz.prog 8=true:=by kernel_rfl
theorem ok9:callOk Tryz.prog 9=true:=by kernel_rfl
theorem ok12:callOk Tryz.prog 12=true:=by kernel_rfl
theorem pl25:placesT Tryz.prog 25=some [(0,1),(1,1)]:=by kernel_rfl
theorem pl59:placesT Tryz.prog 59=some [(0,1),(1,1),(2,1),(3,1),(4,1),(5,1),(6,13),(19,1)]:=by kernel_rfl
theorem sz25:(Tryz.prog.info? 25).map (·.size)=some 2:=by kernel_rfl
theorem zr25:zeroT Tryz.prog 25=some [(Value.slice none 0 0),(Value.slice none 0 0)]:=by kernel_rfl
theorem zNy  :
    Pur cfg 9 [] (vB true):=by
 refine zV Tryz.func9 O Tryz.ntmps9 Tryz.results9 O ?_
 intro z hz
 refine R O<|G O<|zA<|R O<|kG O zr31 pl31<|zU O O (kA O zr31) ?_
 rintro _ _ ⟨b1,rfl,rfl⟩
 refine A 0 sz31 O<|qQ _ (qK 0 O 1 _ PLe.ptr)<|zA ?_
 refine R O<|zO yM N O<|v O (wT [none,none,none,none,none,none,some 1,none] O zr69 pl69 O O)<|v O (kD O el22 zr69 O O O O)<|zO yM N O<|kG O zr44 pl44<|v O (wT [none,none,none,none,none,none,none,none,none,none,some 2,some 4,some 13] O zr57 pl57 O O)<|v O (wT [none,none,none,none,none,some 4,none,none,none,none,none,none,none,none,none,none,none,none,none,some 20] O zr59 pl59 O O)<|v O (kD O el23 zr59 O O O O)<|kG O zr25 pl25<|zU O O (qR [some 8,some 20] O zr25 O) ?_
 rintro _ _ ⟨b2,rfl,rfl⟩
 refine A 0 sz25 O<|qQ _ (qK 0 O 2 _ PLe.ptr)<|zA ?_
 refine R O<|zO zFm N O<|qX O ok12 (cg_Compile bN bN_ok (by decide) (by decide)) ⟨zB,O,T⟩<|v O (yZ O O)<|v O (wA O O O)<|v O (kR O O O)<|zU O O (qR [some 11,some 5,some 3,none] O zr35 O) ?_
 rintro _ _ ⟨b3,rfl,rfl⟩
 refine A 0 sz35 O<|qQ _ (qK 0 O 3 _ PLe.ptr)<|G O<|zA<|R O<|G O<|yP O<|G O<|rL0 O (fun g4_2=>qE O fd35_0 O) O<|B 23 O (fun g4_2=>zD O one32 O N O) O<|B 24 O (fun g4_2=>wI O el32 O) O<|B 25 O (fun g4_2=>kS O O O) O<|kF O (fun h=>h)<|G O<|rL0 O (fun g4_8=>qE O fd35_0 O) O<|B 29 O (fun g4_8=>zD O one32 O N O) O<|B 30 O (fun g4_8=>yB O el32 O O (by omega) (getm (show (cmpT bN).1.Code[((10:Int)).toNat]? =some (iN 0 0 0 0) by kernel_rfl))) O<|B 31 O (fun g4_8=>qE O fd46_0 O) O<|B 32 O (fun g4_8=>zD O one3 O N O) O<|B 33 O (fun g4_8=>kS O O O) O<|kF O (fun h=>h)<|G O<|rL0 O (fun g4_16=>qE O fd35_3 O) O<|B 37 O (fun g4_16=>zD O one3 O N O) O<|B 38 O (fun g4_16=>kS O O O) O<|kF O (fun h=>h)<|G O<|rL0 O (fun g4_21=>qD O zFm O N O) O<|B 42 O (fun g4_21=>qY O ok10 (OwnR.pur (cg_Types bN (by decide) (by decide))) ⟨zB,O,T⟩) O<|B 43 O (fun g4_21=>wI O el28 O) O<|B 44 O (fun g4_21=>kS O O O) O<|kF O (fun h=>h)<|G O<|zA<|zM<|zW O ?_
 exact congrArg vB (by decide+kernel)
theorem law_CodegenTypes (n:Ns) (hf:n.Fit):
    Pur cfg 3 [vNs n] (vB true):=by
 refine zV Tryz.func3 O Tryz.ntmps3 Tryz.results3 O ?_
 intro z hz
 refine R O<|zU O O (qT O O) ?_
 rintro _ _ ⟨b1,rfl,rfl⟩
 refine qQ _ (qK 0 O 1 _ PLe.ptr)<|G O<|zA<|zF<|R O<|zO zFm N O<|qX O ok8 (r48_Short n hf) ⟨zB,O,T⟩<|wQ O<|zA<|zC O (fun c1=>?_) (fun c1=>?_)
 ·refine R O<|qX O ok9 zNy T<|G O<|zA<|zM<|zW O ?_
  rfl
 ·obtain ⟨k1,k2⟩:=small3 c1
  have hok:=Ns.Fit.ok hf (m:=300) (by omega) (by omega) k2
  have hw:=weighB_wt k2
  have hbl:=wP n.Body
  have htl:=typN_len n
  refine zH<|zF<|yO 3 1 [⟨0,.q []⟩,⟨2,.q []⟩,⟨1,.e 0 []⟩] mixed (by kernel_rfl) (by kernel_rfl) O O O<|D O<|D O<|D O<|wW<|J O (by decide) O O (qD O zFm O N O)<|J O (by decide) O O (qD O zFm O N O)<|zHw O O (by decide) O O (zFx O ok10 (cg_Types n (by omega) (by omega)) ⟨zB,O,T⟩) ?_
  rintro _ _ ⟨sv2,rfl,rfl⟩
  refine ⟨_,O,?_⟩
  refine wU O<|zU O O (zFx O ok11 (r48_Types n (by omega) (by omega)) ⟨zB,O,T⟩) ?_
  rintro _ _ ⟨sv3,rfl,rfl⟩
  refine G O<|G O<|zA<|zF<|zF<|zR _ (wL 1 O (regs':=[(11,_),(3,_)]) (μ':=[_]) ⟨FLe.sl,FLe.sl,T⟩ ⟨EFle.refl _,T⟩)<|zR _ (wL 0 O (regs':=[(13,_),(4,_)]) (μ':=[]) ⟨FLe.sl,FLe.sl,T⟩ T)<|zI O<|G O<|v O (zEf O el28 O)<|G O<|v O (zEf O el28 O)<|wO O<|zA<|zC O (fun c2=>?_) (fun c2=>?_)
  ·exact absurd c2 (by simp)
  ·refine zH<|zF<|R O<|G O<|zA<|zQ<|zR ⟨[(5,.c _),(3,.c _),(4,.c _)],[]⟩ (Weak.mk [] ⟨zB,zB,zB,T⟩ O)<|qH 1 0 O O (Nat) (fun k=>[(5,vI k)]) (fun k=>[]) (fun k=>k<=(typN n).length) (fun k=>(typN n).length-k) ⟨0,(by omega),Weak.mk [] ⟨zB,zB,zB,T⟩ O⟩ ?_
   rintro k hk
   refine zF<|R O<|G O<|G O<|v O (zEf O el28 O)<|yC O<|zA<|zC O (fun c3=>?_) (fun c3=>?_)
   ·try simp only [sx] at c3
    obtain ⟨x,hx⟩:=qW (typN n) k (by omega)
    refine zH<|zF<|zQ<|zF<|qU 9 mixed (by kernel_rfl) O O<|zE O O (zG O O)<|zE O O (zG O O)<|zE O O (yB O el28 O O (by omega) (getm hx))<|zE O O (qD O yM O N O)<|zE O O (zG O O)<|zE O O (zG O O)<|zE O O (yB O el28 O O (by omega) (getm hx))<|zE O O (qD O yM O N O)<|zE O O (zCf O fl31 O O O)<|yN<|zA<|zC O (fun c4=>?_) (fun c4=>?_)
    ·exact absurd c4 (by rw [show litsEq _ _=true from ty_self x];simp)
    ·refine zH<|zI O<|G O<|qC O ⟨by omega,by omega⟩<|G O<|zA ?_
     refine ⟨k+1,(by omega),(by omega),Weak.mk [] ⟨zB,zB,zB,T⟩ O⟩
   ·try simp only [sx] at c3
    refine qL<|R O<|qX O ok9 zNy T<|G O<|zA<|zM<|zW O ?_
    rfl
end Go.W
