/-
  What functions compute.
  Conditions: none.
-/
import Derived.Test.YtdldhbfgfkebjaaGreatDoorHM
import Derived.Test.YtdldhbfgfkebjaaGreatDoorEngV2
set_option linter.unusedSimpArgs false
set_option linter.unusedVariables false
set_option maxRecDepth 10000
namespace Go.W
open Go Go.Eng Go.Proofs Go.L41 Go.Br
attribute [local irreducible] AWP RWP TD fT
theorem in_self (a:In):bE (List.take 11 a.cells) (List.take 11 a.cells)=true:=by simp [bE,cEq,In.cells]
theorem sl_self (a:Sl):bE (List.take 3 a.cells) (List.take 3 a.cells)=true:=by simp [bE,cEq,Sl.cells]
theorem ty_self (a:Ty):bE (List.take 5 (tyC a)) (List.take 5 (tyC a))=true:=by simp [bE,cEq,tyC]
theorem small3 {n:Ns} (c:(!(decide ((n.Bufs.length:Int)<=40)&&decide ((gJ n.Body 300:Int)<=300)))=false):n.Bufs.length<=40/\gJ n.Body 300<=300:=by
  rw [Bool.not_eq_false',Bool.and_eq_true,decide_eq_true_eq,decide_eq_true_eq] at c;omega
def bT:Ty:=⟨1,0,0,0,0⟩
def bN:Ns:=⟨[⟨bs [98],bT,[],2⟩],[.mk 2 (bs [98]) 0 0 0 [] (.mk 1 (bs []) ⟨2,1⟩ bT ⟨0,[]⟩ [] []) []]⟩
theorem bN_ok:bN.Ok:=⟨by decide,fun b hb=>by simp only [bN,List.mem_singleton] at hb;subst hb;decide,by decide⟩
theorem cmp_fine {n:Ns} (hv:(bY n).2=0) (hb:n.Bufs.length<=40):(lJ n).1.Code.length<=65536/\(lJ n).1.Types.length<=256/\(lJ n).1.Slots.length<=40:=by
  unfold lJ
  split
  · simp [zUn]
  · split
    · simp [zUn]
    · split
      · simp [zUn]
      · split
        · simp [zUn]
        · refine ⟨by dsimp only;omega,by dsimp only;omega,?_⟩
          show (gQ (bL n) (plF (bL n) (dI (bL n))).1).length<=40
          have hs:=szOk_of (zHj hv)
          have J:=(plJ hs (bL n).length (Nat.le_refl _)).pl
          have htk:(dI (bL n)).take (bL n).length=dI (bL n):=List.take_of_length_le (by rw [zFt];omega)
          rw [htk] at J
          rw [zDr J.len,zDp];exact hb
theorem cmp_len {n:Ns} (hb:n.Bufs.length<=40):(lJ n).1.Code.length<=65536/\(lJ n).1.Types.length<=256/\(lJ n).1.Slots.length<=40:=by
  by_cases hv:(bY n).2=0
  · exact cmp_fine hv hb
  · rw [cmp_1 hv];simp [zUn]
theorem fd35_0:bD Tryz.prog 35 0=some (0,32):=by kernel_rfl
theorem fd35_1:bD Tryz.prog 35 1=some (1,28):=by kernel_rfl
theorem fd35_2:bD Tryz.prog 35 2=some (2,33):=by kernel_rfl
theorem fd35_3:bD Tryz.prog 35 3=some (3,3):=by kernel_rfl
theorem fd39_0:bD Tryz.prog 39 0=some (0,32):=by kernel_rfl
theorem fd39_1:bD Tryz.prog 39 1=some (1,28):=by kernel_rfl
theorem fd39_2:bD Tryz.prog 39 2=some (2,33):=by kernel_rfl
theorem fd39_3:bD Tryz.prog 39 3=some (3,3):=by kernel_rfl
theorem fd46_0:bD Tryz.prog 46 0=some (0,3):=by kernel_rfl
theorem fk46:tD Tryz.prog 46=some [.int,.int,.int,.int,.int,.int,.int,.int,.int,.int,.int]:=by kernel_rfl
theorem fl48:pI Tryz.prog 48=some [.str,.int,.int]:=by kernel_rfl
theorem ok8:bA Tryz.prog 8=true:=by kernel_rfl
theorem ok9:bA Tryz.prog 9=true:=by kernel_rfl
theorem ok12:bA Tryz.prog 12=true:=by kernel_rfl
theorem ok13:bA Tryz.prog 13=true:=by kernel_rfl
theorem ok14:bA Tryz.prog 14=true:=by kernel_rfl
theorem pl25:fB Tryz.prog 25=some [(0,1),(1,1)]:=by kernel_rfl
theorem pl59:fB Tryz.prog 59=some [(0,1),(1,1),(2,1),(3,1),(4,1),(5,1),(6,13),(19,1)]:=by kernel_rfl
theorem sz25:(Tryz.prog.info? 25).map (·.size)=some 2:=by kernel_rfl
theorem zr25:dK Tryz.prog 25=some [(Value.slice none 0 0),(Value.slice none 0 0)]:=by kernel_rfl
theorem r48_Same (u:Un) (h1:u.Code.length<=1000000) (h2:u.Types.length<=1000000) (h3:u.Slots.length<=1000000):
    Pur cfg 14 [vUn u,.c (.sl 11 (u.Code.map In.cells)),xI u.Types,sV u.Slots,vI u.Words] (vB true):=by
 refine zW Tryz.func14 O Tryz.ntmps14 Tryz.results14 O ?_
 intro z hz
 refine R O<|zT O O (qP O O) ?_
 rintro _ _ ⟨b1,rfl,rfl⟩
 refine qW _ (qM 0 O 5 _ PLe.ptr)<|G O<|zA<|zE<|R O<|zS O fd39_0<|zF zIe Y O<|qC O el32<|G O<|qC O el32<|kZ O<|G O<|rL0 O (fun g1_6=>qA O fd39_1 O) O<|B 21 O (fun g1_6=>zD O one28 O Y O) O<|B 22 O (fun g1_6=>yS O el28 O) O<|rL0 O (fun g1_6=>zK O O) O<|B 24 O (fun g1_6=>yS O el28 O) O<|rLz [(23,_),(25,_)] O gv1 ⟨O,O,O,O,T⟩ (fun g1_6=>zAg O O O) O<|r_or O (fun h=>(lzf h))<|G O<|rL0 O (fun g1_14=>qA O fd39_2 O) O<|B 29 O (fun g1_14=>zD O one33 O Y O) O<|B 30 O (fun g1_14=>yS O el33 O) O<|rL0 O (fun g1_14=>zK O O) O<|B 32 O (fun g1_14=>yS O el33 O) O<|rLz [(31,_),(33,_)] O gv1 ⟨O,O,O,O,T⟩ (fun g1_14=>zAg O O O) O<|r_or O (fun h=>(lzf h))<|G O<|rL0 O (fun g1_22=>qA O fd39_3 O) O<|B 37 O (fun g1_22=>zD O one3 O Y O) O<|rL0 O (fun g1_22=>zK O O) O<|rLz [(38,_),(39,_)] O gv1 ⟨O,O,O,O,T⟩ (fun g1_22=>zAg O O O) O<|r_or O (fun h=>(lzf h))<|zA<|zC O (fun c1=>?_) (fun c1=>?_)
 ·exact absurd c1 (by simp)
 ·refine zI<|zE<|R O<|G O<|zA<|zP<|zU ⟨[(11,.c _),(1,.c _),(2,.c _),(3,.c _),(5,.c _)],[]⟩ (Weak.mk [] ⟨zB,zB,zB,zB,zB,T⟩ O)<|qF 1 0 O O (Nat) (fun k=>[(11,vI k)]) (fun k=>[]) (fun k=>k<=u.Code.length) (fun k=>u.Code.length-k) ⟨0,(by omega),Weak.mk [] ⟨zB,zB,zB,zB,zB,T⟩ O⟩ ?_
  rintro k hk
  refine zE<|R O<|G O<|G O<|qC O el32<|yC O<|zA<|zC O (fun c2=>?_) (fun c2=>?_)
  ·try simp only [sx] at c2
   obtain ⟨x,hx⟩:=qU u.Code k (by omega)
   refine zI<|zE<|zP<|zE<|qV 10 mixed (by kernel_rfl) O O<|zL O O (qA O fd39_0 O)<|zL O O (zD O zIe O Y O)<|zL O O (zK O O)<|zL O O (qI O el32 O O (by omega) (N hx))<|zL O O (qD O agg46 O Y O)<|zL O O (zK O O)<|zL O O (zK O O)<|zL O O (qI O el32 O O (by omega) (N hx))<|zL O O (qD O agg46 O Y O)<|zL O O (det_aneq2 O fk46 O O O)<|yJ<|zA<|zC O (fun c3=>?_) (fun c3=>?_)
   ·exact absurd c3 (by rw [show bE _ _=true from in_self x];simp)
   ·refine zI<|zJ O<|G O<|qB O ⟨by omega,by omega⟩<|G O<|zA ?_
    refine ⟨k+1,(by omega),(by omega),Weak.mk [] ⟨zB,zB,zB,zB,zB,T⟩ O⟩
  ·try simp only [sx] at c2
   refine qK<|zE<|R O<|G O<|zA<|zP<|zU ⟨[(12,.c _),(2,.c _),(3,.c _),(5,.c _)],[]⟩ (Weak.mk [] ⟨zB,zB,zB,zB,T⟩ O)<|qF 1 0 O O (Nat) (fun k=>[(12,vI k)]) (fun k=>[]) (fun k=>k<=u.Types.length) (fun k=>u.Types.length-k) ⟨0,(by omega),Weak.mk [] ⟨zB,zB,zB,zB,T⟩ O⟩ ?_
   rintro k hk
   refine zE<|R O<|G O<|G O<|qC O el28<|yC O<|zA<|zC O (fun c4=>?_) (fun c4=>?_)
   ·try simp only [sx] at c4
    obtain ⟨x,hx⟩:=qU u.Types k (by omega)
    refine zI<|zE<|zP<|zE<|qV 10 mixed (by kernel_rfl) O O<|zL O O (qA O fd39_1 O)<|zL O O (zD O one28 O Y O)<|zL O O (zK O O)<|zL O O (qI O el28 O O (by omega) (N hx))<|zL O O (qD O yG O Y O)<|zL O O (zK O O)<|zL O O (zK O O)<|zL O O (qI O el28 O O (by omega) (N hx))<|zL O O (qD O yG O Y O)<|zL O O (zAv O fl31 O O O)<|yJ<|zA<|zC O (fun c5=>?_) (fun c5=>?_)
    ·exact absurd c5 (by rw [show bE _ _=true from ty_self x];simp)
    ·refine zI<|zJ O<|G O<|qB O ⟨by omega,by omega⟩<|G O<|zA ?_
     refine ⟨k+1,(by omega),(by omega),Weak.mk [] ⟨zB,zB,zB,zB,T⟩ O⟩
   ·try simp only [sx] at c4
    refine qK<|zE<|R O<|G O<|zA<|zP<|zU ⟨[(13,.c _),(3,.c _),(5,.c _)],[]⟩ (Weak.mk [] ⟨zB,zB,zB,T⟩ O)<|qF 1 0 O O (Nat) (fun k=>[(13,vI k)]) (fun k=>[]) (fun k=>k<=u.Slots.length) (fun k=>u.Slots.length-k) ⟨0,(by omega),Weak.mk [] ⟨zB,zB,zB,T⟩ O⟩ ?_
    rintro k hk
    refine zE<|R O<|G O<|G O<|qC O el33<|yC O<|zA<|zC O (fun c6=>?_) (fun c6=>?_)
    ·try simp only [sx] at c6
     obtain ⟨x,hx⟩:=qU u.Slots k (by omega)
     refine zI<|zE<|zP<|zE<|qV 10 mixed (by kernel_rfl) O O<|zL O O (qA O fd39_2 O)<|zL O O (zD O one33 O Y O)<|zL O O (zK O O)<|zL O O (qI O el33 O O (by omega) (N hx))<|zL O O (qD O agg48 O Y O)<|zL O O (zK O O)<|zL O O (zK O O)<|zL O O (qI O el33 O O (by omega) (N hx))<|zL O O (qD O agg48 O Y O)<|zL O O (zAv O fl48 O O O)<|yJ<|zA<|zC O (fun c7=>?_) (fun c7=>?_)
     ·exact absurd c7 (by rw [show bE _ _=true from sl_self x];simp)
     ·refine zI<|zJ O<|G O<|qB O ⟨by omega,by omega⟩<|G O<|zA ?_
      refine ⟨k+1,(by omega),(by omega),Weak.mk [] ⟨zB,zB,zB,T⟩ O⟩
    ·refine qK<|R O<|G O<|zA<|zN<|zV O ?_
     rfl
theorem zTb  :
    Pur cfg 9 [] (vB true):=by
 refine zW Tryz.func9 O Tryz.ntmps9 Tryz.results9 O ?_
 intro z hz
 refine R O<|G O<|zA<|R O<|yT O zr31 pl31<|zT O O (yZ O zr31) ?_
 rintro _ _ ⟨b1,rfl,rfl⟩
 refine D 0 sz31 O<|qW _ (qM 0 O 1 _ PLe.ptr)<|zA<|zE ?_
 skip
 refine zJ O<|zQ yG Y O<|zZ O (kS [none,none,none,none,none,none,some 1,none] O zr69 pl69 O O)<|zZ O (yO O el22 zr69 O O O O)<|zQ yG Y O<|yT O zr44 pl44<|zZ O (kS [none,none,none,none,none,none,none,none,none,none,some 2,some 4,some 13] O zr57 pl57 O O)<|zZ O (kS [none,none,none,none,none,some 4,none,none,none,none,none,none,none,none,none,none,none,none,none,some 20] O zr59 pl59 O O)<|zZ O (yO O el23 zr59 O O O O)<|yT O zr25 pl25<|zT O O (qQ [some 8,some 20] O zr25 O) ?_
 rintro _ _ ⟨b2,rfl,rfl⟩
 refine D 0 sz25 O<|qW _ (qM 0 O 2 _ PLe.ptr)<|zA<|zE ?_
 skip
 refine zJ O<|zQ zAr Y O<|qS O ok12 (cg_Compile bN bN_ok (by decide) (by decide)) ⟨zB,O,T⟩<|zZ O (yA O O)<|zZ O (kA O O O)<|kP O<|zT O O (qQ [some 11,some 5,some 3,none] O zr35 O) ?_
 rintro _ _ ⟨b3,rfl,rfl⟩
 refine D 0 sz35 O<|qW _ (qM 0 O 3 _ PLe.ptr)<|G O<|zA<|zE ?_
 skip
 refine zJ O<|G O<|yD O<|G O<|rL0 O (fun g4_2=>qA O fd35_0 O) O<|B 23 O (fun g4_2=>zD O zIe O Y O) O<|B 24 O (fun g4_2=>yS O el32 O) O<|B 25 O (fun g4_2=>kD O O O) O<|yU O (fun h=>h)<|G O<|rL0 O (fun g4_8=>qA O fd35_0 O) O<|B 29 O (fun g4_8=>zD O zIe O Y O) O<|B 30 O (fun g4_8=>qI O el32 O O (by omega) (N (show (lJ bN).1.Code[((10:Int)).toNat]? =some (iN 0 0 0 0) by kernel_rfl))) O<|B 31 O (fun g4_8=>qA O fd46_0 O) O<|B 32 O (fun g4_8=>zD O one3 O Y O) O<|B 33 O (fun g4_8=>kD O O O) O<|yU O (fun h=>h)<|G O<|rL0 O (fun g4_16=>qA O fd35_3 O) O<|B 37 O (fun g4_16=>zD O one3 O Y O) O<|B 38 O (fun g4_16=>kD O O O) O<|yU O (fun h=>h)<|G O<|rL0 O (fun g4_21=>qD O zAr O Y O) O<|B 42 O (fun g4_21=>qR O ok10 (OwnR.pur (cg_Types bN (by decide) (by decide))) ⟨zB,O,T⟩) O<|B 43 O (fun g4_21=>yS O el28 O) O<|B 44 O (fun g4_21=>kD O O O) O<|yU O (fun h=>h)<|G O<|zA<|zN<|zV O ?_
 exact congrArg vB (by decide+kernel)
theorem law_CodegenCompiles (n:Ns) (hf:n.Fit):
    Pur cfg 4 [vNs n] (vB true):=by
 refine zW Tryz.func4 O Tryz.ntmps4 Tryz.results4 O ?_
 intro z hz
 refine R O<|zT O O (qP O O) ?_
 rintro _ _ ⟨b1,rfl,rfl⟩
 refine qW _ (qM 0 O 1 _ PLe.ptr)<|G O<|zA<|zE<|R O<|zQ zAr Y O<|qS O ok8 (r48_Short n hf) ⟨zB,O,T⟩<|wD O<|zA<|zC O (fun c1=>?_) (fun c1=>?_)
 ·refine R O<|qS O ok9 zTb T<|G O<|zA<|zN<|zV O ?_
  rfl
 ·obtain ⟨k1,k2⟩:=small3 c1
  have hok:=Ns.Fit.ok hf (m:=300) (by omega) (by omega) k2
  have hw:=weighB_wt k2
  have hbl:=wI n.Body
  obtain ⟨e1,e2,e3⟩:=cmp_len (n:=n) k1
  refine zI<|R O<|zQ zAr Y O<|qS O ok12 (cg_Compile n hok (by omega) (by omega)) ⟨zB,O,T⟩<|zZ O (yA O O)<|zZ O (kA O O O)<|kP O<|zT O O (qQ [some 11,some 5,some 3,none] O zr35 O) ?_
  rintro _ _ ⟨b2,rfl,rfl⟩
  refine D 0 sz35 O<|qW _ (qM 0 O 3 _ PLe.ptr)<|G O<|zA<|zE ?_
  skip
  refine zJ O<|zQ zAr Y O<|qS O ok13 (r48_Compile n hok (by omega) (by omega)) ⟨zB,O,T⟩<|zZ O (yA O O)<|zZ O (kA O O O)<|kP O<|zT O O (qQ [some 11,some 5,some 3,none] O zr39 O) ?_
  rintro _ _ ⟨b3,rfl,rfl⟩
  refine D 0 sz39 O<|qW _ (qM 0 O 5 _ PLe.ptr)<|G O<|zA<|zE ?_
  skip
  refine zJ O<|zQ agg39 Y O<|zS O fd35_0<|zF zIe Y O<|zS O fd35_1<|zF one28 Y O<|zS O fd35_2<|zF one33 Y O<|zS O fd35_3<|zF one3 Y O<|qS O ok14 (r48_Same (lJ n).1 (by omega) (by omega) (by omega)) ⟨zB,O,zB,O,zB,O,zB,O,zB,O,T⟩<|G O<|rL0 O (fun g5_10=>zK O O) O<|rL0 O (fun g5_10=>zK O O) O<|rLz [(32,_),(33,_)] O gv1 ⟨O,O,O,O,T⟩ (fun g5_10=>kD O O O) O<|yU O (fun h=>h)<|G O<|rL0 O (fun g5_15=>qR O ok9 zTb T) O<|yU O (fun h=>h)<|G O<|zA<|zN<|zV O ?_
  exact congrArg vB (by simp)
end Go.W
