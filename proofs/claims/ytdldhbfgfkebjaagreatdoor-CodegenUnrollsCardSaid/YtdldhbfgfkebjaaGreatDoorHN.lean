/-
  What functions compute.
  Conditions: none.
-/
import Derived.Test.YtdldhbfgfkebjaaGreatDoorHM
import Derived.Test.YtdldhbfgfkebjaaGreatDoorEngV2
set_option linter.unusedSimpArgs false
set_option linter.unusedVariables false
set_option maxRecDepth 10000
namespace Go.W
open Go Go.Eng Go.Proofs Go.L41 Go.Br
attribute [local irreducible] AWP RWP TD fP
theorem in_self (a:In):bF (List.take 11 a.cells) (List.take 11 a.cells)=true:=by simp [bF,cEq,In.cells]
theorem sl_self (a:Sl):bF (List.take 3 a.cells) (List.take 3 a.cells)=true:=by simp [bF,cEq,Sl.cells]
theorem ty_self (a:Ty):bF (List.take 5 (tyC a)) (List.take 5 (tyC a))=true:=by simp [bF,cEq,tyC]
theorem small3 {n:Ns} (c:(!(decide ((n.Bufs.length:Int)<=40)&&decide ((gJ n.Body 300:Int)<=300)))=false):n.Bufs.length<=40/\gJ n.Body 300<=300:=by
  rw [Bool.not_eq_false',Bool.and_eq_true,decide_eq_true_eq,decide_eq_true_eq] at c;omega
def bT:Ty:=⟨1,0,0,0,0⟩
def bN:Ns:=⟨[⟨bs [98],bT,[],2⟩],[.mk 2 (bs [98]) 0 0 0 [] (.mk 1 (bs []) ⟨2,1⟩ bT ⟨0,[]⟩ [] []) []]⟩
theorem bN_ok:bN.Ok:=⟨by decide,fun b hb=>by simp only [bN,List.mem_singleton] at hb;subst hb;decide,by decide⟩
theorem cmp_fine {n:Ns} (hv:(bY n).2=0) (hb:n.Bufs.length<=40):(lJ n).1.Code.length<=65536/\(lJ n).1.Types.length<=256/\(lJ n).1.Slots.length<=40:=by
  unfold lJ
  split
  · simp [zUn]
  · split
    · simp [zUn]
    · split
      · simp [zUn]
      · split
        · simp [zUn]
        · refine ⟨by dsimp only;omega,by dsimp only;omega,?_⟩
          show (gQ (bL n) (plF (bL n) (dI (bL n))).1).length<=40
          have hs:=szOk_of (zHo hv)
          have J:=(plJ hs (bL n).length (Nat.le_refl _)).pl
          have htk:(dI (bL n)).take (bL n).length=dI (bL n):=List.take_of_length_le (by rw [zFx];omega)
          rw [htk] at J
          rw [zDu J.len,zDs];exact hb
theorem cmp_len {n:Ns} (hb:n.Bufs.length<=40):(lJ n).1.Code.length<=65536/\(lJ n).1.Types.length<=256/\(lJ n).1.Slots.length<=40:=by
  by_cases hv:(bY n).2=0
  · exact cmp_fine hv hb
  · rw [cmp_1 hv];simp [zUn]
theorem fd35_0:bD Tryz.prog 35 0=some (0,32):=by kernel_rfl
theorem fd35_1:bD Tryz.prog 35 1=some (1,28):=by kernel_rfl
theorem fd35_2:bD Tryz.prog 35 2=some (2,33):=by kernel_rfl
theorem fd35_3:bD Tryz.prog 35 3=some (3,3):=by kernel_rfl
theorem fd39_0:bD Tryz.prog 39 0=some (0,32):=by kernel_rfl
theorem fd39_1:bD Tryz.prog 39 1=some (1,28):=by kernel_rfl
theorem fd39_2:bD Tryz.prog 39 2=some (2,33):=by kernel_rfl
theorem fd39_3:bD Tryz.prog 39 3=some (3,3):=by kernel_rfl
theorem fd46_0:bD Tryz.prog 46 0=some (0,3):=by kernel_rfl
theorem fk46:tG Tryz.prog 46=some [.int,.int,.int,.int,.int,.int,.int,.int,.int,.int,.int]:=by kernel_rfl
theorem fl48:pJ Tryz.prog 48=some [.str,.int,.int]:=by kernel_rfl
theorem ok8:bA Tryz.prog 8=true:=by kernel_rfl
theorem ok9:bA Tryz.prog 9=true:=by kernel_rfl
theorem ok12:bA Tryz.prog 12=true:=by kernel_rfl
theorem ok13:bA Tryz.prog 13=true:=by kernel_rfl
theorem ok14:bA Tryz.prog 14=true:=by kernel_rfl
theorem pl25:dN Tryz.prog 25=some [(0,1),(1,1)]:=by kernel_rfl
theorem pl59:dN Tryz.prog 59=some [(0,1),(1,1),(2,1),(3,1),(4,1),(5,1),(6,13),(19,1)]:=by kernel_rfl
theorem sz25:(Tryz.prog.info? 25).map (·.size)=some 2:=by kernel_rfl
theorem zr25:dL Tryz.prog 25=some [(Value.slice none 0 0),(Value.slice none 0 0)]:=by kernel_rfl
theorem r48_Same (u:Un) (h1:u.Code.length<=1000000) (h2:u.Types.length<=1000000) (h3:u.Slots.length<=1000000):
    Pur cfg 14 [vUn u,.c (.sl 11 (u.Code.map In.cells)),xL u.Types,sZ u.Slots,vI u.Words] (vB true):=by
 refine zW Tryz.func14 O Tryz.ntmps14 Tryz.results14 O ?_
 intro z hz
 refine R O<|zS O O (qP O O) ?_
 rintro _ _ ⟨b1,rfl,rfl⟩
 refine qT _ (qM 0 O 5 _ PLe.ptr)<|G O<|zA<|zF<|R O<|zT O fd39_0<|zE zIk zO O<|qD O el32<|G O<|qD O el32<|wA O<|G O<|rL0 O (fun g1_6=>qB O fd39_1 O) O<|B 21 O (fun g1_6=>zC O one28 O zO O) O<|B 22 O (fun g1_6=>yV O el28 O) O<|rL0 O (fun g1_6=>zM O O) O<|B 24 O (fun g1_6=>yV O el28 O) O<|rLz [(23,_),(25,_)] O gv1 ⟨O,O,O,O,T⟩ (fun g1_6=>zAi O O O) O<|r_or O (fun h=>(lzf h))<|G O<|rL0 O (fun g1_14=>qB O fd39_2 O) O<|B 29 O (fun g1_14=>zC O one33 O zO O) O<|B 30 O (fun g1_14=>yV O el33 O) O<|rL0 O (fun g1_14=>zM O O) O<|B 32 O (fun g1_14=>yV O el33 O) O<|rLz [(31,_),(33,_)] O gv1 ⟨O,O,O,O,T⟩ (fun g1_14=>zAi O O O) O<|r_or O (fun h=>(lzf h))<|G O<|rL0 O (fun g1_22=>qB O fd39_3 O) O<|B 37 O (fun g1_22=>zC O one3 O zO O) O<|rL0 O (fun g1_22=>zM O O) O<|rLz [(38,_),(39,_)] O gv1 ⟨O,O,O,O,T⟩ (fun g1_22=>zAi O O O) O<|r_or O (fun h=>(lzf h))<|zA<|zD O (fun c1=>?_) (fun c1=>?_)
 ·exact absurd c1 (by simp)
 ·refine zI<|zF<|R O<|G O<|zA<|zP<|zU ⟨[(11,.c _),(1,.c _),(2,.c _),(3,.c _),(5,.c _)],[]⟩ (Weak.mk [] ⟨zB,zB,zB,zB,zB,T⟩ O)<|qF 1 0 O O (Nat) (fun k=>[(11,vI k)]) (fun k=>[]) (fun k=>k<=u.Code.length) (fun k=>u.Code.length-k) ⟨0,(by omega),Weak.mk [] ⟨zB,zB,zB,zB,zB,T⟩ O⟩ ?_
  rintro k hk
  refine zF<|R O<|G O<|G O<|qD O el32<|yC O<|zA<|zD O (fun c2=>?_) (fun c2=>?_)
  ·try simp only [sx] at c2
   obtain ⟨x,hx⟩:=qU u.Code k (by omega)
   refine zI<|zF<|zP<|zF<|qW 10 mixed (by kernel_rfl) O O<|zL O O (qB O fd39_0 O)<|zL O O (zC O zIk O zO O)<|zL O O (zM O O)<|zL O O (qH O el32 O O (by omega) (v hx))<|zL O O (qC O agg46 O zO O)<|zL O O (zM O O)<|zL O O (zM O O)<|zL O O (qH O el32 O O (by omega) (v hx))<|zL O O (qC O agg46 O zO O)<|zL O O (det_aneq2 O fk46 O O O)<|yM<|zA<|zD O (fun c3=>?_) (fun c3=>?_)
   ·exact absurd c3 (by rw [show bF _ _=true from in_self x];simp)
   ·refine zI<|zK O<|G O<|qA O ⟨by omega,by omega⟩<|G O<|zA ?_
    refine ⟨k+1,(by omega),(by omega),Weak.mk [] ⟨zB,zB,zB,zB,zB,T⟩ O⟩
  ·try simp only [sx] at c2
   refine qK<|zF<|R O<|G O<|zA<|zP<|zU ⟨[(12,.c _),(2,.c _),(3,.c _),(5,.c _)],[]⟩ (Weak.mk [] ⟨zB,zB,zB,zB,T⟩ O)<|qF 1 0 O O (Nat) (fun k=>[(12,vI k)]) (fun k=>[]) (fun k=>k<=u.Types.length) (fun k=>u.Types.length-k) ⟨0,(by omega),Weak.mk [] ⟨zB,zB,zB,zB,T⟩ O⟩ ?_
   rintro k hk
   refine zF<|R O<|G O<|G O<|qD O el28<|yC O<|zA<|zD O (fun c4=>?_) (fun c4=>?_)
   ·try simp only [sx] at c4
    obtain ⟨x,hx⟩:=qU u.Types k (by omega)
    refine zI<|zF<|zP<|zF<|qW 10 mixed (by kernel_rfl) O O<|zL O O (qB O fd39_1 O)<|zL O O (zC O one28 O zO O)<|zL O O (zM O O)<|zL O O (qH O el28 O O (by omega) (v hx))<|zL O O (qC O yG O zO O)<|zL O O (zM O O)<|zL O O (zM O O)<|zL O O (qH O el28 O O (by omega) (v hx))<|zL O O (qC O yG O zO O)<|zL O O (zAw O fl31 O O O)<|yM<|zA<|zD O (fun c5=>?_) (fun c5=>?_)
    ·exact absurd c5 (by rw [show bF _ _=true from ty_self x];simp)
    ·refine zI<|zK O<|G O<|qA O ⟨by omega,by omega⟩<|G O<|zA ?_
     refine ⟨k+1,(by omega),(by omega),Weak.mk [] ⟨zB,zB,zB,zB,T⟩ O⟩
   ·try simp only [sx] at c4
    refine qK<|zF<|R O<|G O<|zA<|zP<|zU ⟨[(13,.c _),(3,.c _),(5,.c _)],[]⟩ (Weak.mk [] ⟨zB,zB,zB,T⟩ O)<|qF 1 0 O O (Nat) (fun k=>[(13,vI k)]) (fun k=>[]) (fun k=>k<=u.Slots.length) (fun k=>u.Slots.length-k) ⟨0,(by omega),Weak.mk [] ⟨zB,zB,zB,T⟩ O⟩ ?_
    rintro k hk
    refine zF<|R O<|G O<|G O<|qD O el33<|yC O<|zA<|zD O (fun c6=>?_) (fun c6=>?_)
    ·try simp only [sx] at c6
     obtain ⟨x,hx⟩:=qU u.Slots k (by omega)
     refine zI<|zF<|zP<|zF<|qW 10 mixed (by kernel_rfl) O O<|zL O O (qB O fd39_2 O)<|zL O O (zC O one33 O zO O)<|zL O O (zM O O)<|zL O O (qH O el33 O O (by omega) (v hx))<|zL O O (qC O agg48 O zO O)<|zL O O (zM O O)<|zL O O (zM O O)<|zL O O (qH O el33 O O (by omega) (v hx))<|zL O O (qC O agg48 O zO O)<|zL O O (zAw O fl48 O O O)<|yM<|zA<|zD O (fun c7=>?_) (fun c7=>?_)
     ·exact absurd c7 (by rw [show bF _ _=true from sl_self x];simp)
     ·refine zI<|zK O<|G O<|qA O ⟨by omega,by omega⟩<|G O<|zA ?_
      refine ⟨k+1,(by omega),(by omega),Weak.mk [] ⟨zB,zB,zB,T⟩ O⟩
    ·refine qK<|R O<|G O<|zA<|zN<|zV O ?_
     rfl
theorem zTf  :
    Pur cfg 9 [] (vB true):=by
 refine zW Tryz.func9 O Tryz.ntmps9 Tryz.results9 O ?_
 intro z hz
 refine R O<|G O<|zA<|R O<|yS O zr31 pl31<|zS O O (yZ O zr31) ?_
 rintro _ _ ⟨b1,rfl,rfl⟩
 refine Y 0 sz31 O<|qT _ (qM 0 O 1 _ PLe.ptr)<|zA<|zF ?_
 skip
 refine zK O<|zQ yG zO O<|zZ O (kT [none,none,none,none,none,none,some 1,none] O zr69 pl69 O O)<|zZ O (yJ O el22 zr69 O O O O)<|zQ yG zO O<|yS O zr44 pl44<|zZ O (kT [none,none,none,none,none,none,none,none,none,none,some 2,some 4,some 13] O zr57 pl57 O O)<|zZ O (kT [none,none,none,none,none,some 4,none,none,none,none,none,none,none,none,none,none,none,none,none,some 20] O zr59 pl59 O O)<|zZ O (yJ O el23 zr59 O O O O)<|yS O zr25 pl25<|zS O O (qQ [some 8,some 20] O zr25 O) ?_
 rintro _ _ ⟨b2,rfl,rfl⟩
 refine Y 0 sz25 O<|qT _ (qM 0 O 2 _ PLe.ptr)<|zA<|zF ?_
 skip
 refine zK O<|zQ zAm zO O<|qS O ok12 (cg_Compile bN bN_ok (by decide) (by decide)) ⟨zB,O,T⟩<|zZ O (yA O O)<|zZ O (kB O O O)<|kP O<|zS O O (qQ [some 11,some 5,some 3,none] O zr35 O) ?_
 rintro _ _ ⟨b3,rfl,rfl⟩
 refine Y 0 sz35 O<|qT _ (qM 0 O 3 _ PLe.ptr)<|G O<|zA<|zF ?_
 skip
 refine zK O<|G O<|yE O<|G O<|rL0 O (fun g4_2=>qB O fd35_0 O) O<|B 23 O (fun g4_2=>zC O zIk O zO O) O<|B 24 O (fun g4_2=>yV O el32 O) O<|B 25 O (fun g4_2=>kH O O O) O<|yW O (fun h=>h)<|G O<|rL0 O (fun g4_8=>qB O fd35_0 O) O<|B 29 O (fun g4_8=>zC O zIk O zO O) O<|B 30 O (fun g4_8=>qH O el32 O O (by omega) (v (show (lJ bN).1.Code[((10:Int)).toNat]? =some (iN 0 0 0 0) by kernel_rfl))) O<|B 31 O (fun g4_8=>qB O fd46_0 O) O<|B 32 O (fun g4_8=>zC O one3 O zO O) O<|B 33 O (fun g4_8=>kH O O O) O<|yW O (fun h=>h)<|G O<|rL0 O (fun g4_16=>qB O fd35_3 O) O<|B 37 O (fun g4_16=>zC O one3 O zO O) O<|B 38 O (fun g4_16=>kH O O O) O<|yW O (fun h=>h)<|G O<|rL0 O (fun g4_21=>qC O zAm O zO O) O<|B 42 O (fun g4_21=>qR O ok10 (OwnR.pur (cg_Types bN (by decide) (by decide))) ⟨zB,O,T⟩) O<|B 43 O (fun g4_21=>yV O el28 O) O<|B 44 O (fun g4_21=>kH O O O) O<|yW O (fun h=>h)<|G O<|zA<|zN<|zV O ?_
 exact congrArg vB (by decide+kernel)
end Go.W
