/-
  What functions compute.
  Conditions: none.
-/
import Derived.Test.YtgfomfnjionbeaaGreatDoorWA
set_option linter.unusedSimpArgs false
set_option linter.unusedVariables false
set_option maxRecDepth 10000
namespace Go.W
open Go Go.Eng Go.Proofs Go.L41 Go.Br
attribute [local irreducible] AWP RWP TD fQ
theorem zFt:mJ Tryz.prog 54=some 2:=by kernel_rfl
theorem qZ:mJ Tryz.prog 56=some 5:=by kernel_rfl
theorem zGv:bD Tryz.prog 54 0=some (0,2):=by kernel_rfl
theorem zIe:bD Tryz.prog 54 1=some (1,2):=by kernel_rfl
theorem zFq:bD Tryz.prog 56 0=some (0,3):=by kernel_rfl
theorem zLb:bD Tryz.prog 56 1=some (1,3):=by kernel_rfl
theorem zQb:bD Tryz.prog 56 2=some (2,3):=by kernel_rfl
theorem zTp:bD Tryz.prog 56 3=some (3,3):=by kernel_rfl
theorem zTo:bD Tryz.prog 56 4=some (4,3):=by kernel_rfl
theorem fl56:flatK Tryz.prog 56=some [.int,.int,.int,.int,.int]:=by kernel_rfl
theorem ik154:sZ Tryz.prog 154=some .u64:=by kernel_rfl
theorem ik240:sZ Tryz.prog 240=some .u64:=by kernel_rfl
theorem ok107:bA Tryz.prog 107=true:=by kernel_rfl
theorem ok167:bA Tryz.prog 167=true:=by kernel_rfl
theorem ok206:bA Tryz.prog 206=true:=by kernel_rfl
theorem ok207:bA Tryz.prog 207=true:=by kernel_rfl
theorem ok238:bA Tryz.prog 238=true:=by kernel_rfl
theorem ok245:bA Tryz.prog 245=true:=by kernel_rfl
theorem ok268:bA Tryz.prog 268=true:=by kernel_rfl
theorem ok269:bA Tryz.prog 269=true:=by kernel_rfl
theorem ok292:bA Tryz.prog 292=true:=by kernel_rfl
theorem ok293:bA Tryz.prog 293=true:=by kernel_rfl
theorem ok296:bA Tryz.prog 296=true:=by kernel_rfl
theorem ok304:bA Tryz.prog 304=true:=by kernel_rfl
theorem ok305:bA Tryz.prog 305=true:=by kernel_rfl
theorem ok306:bA Tryz.prog 306=true:=by kernel_rfl
theorem one3:gB Tryz.prog 3=true:=by kernel_rfl
theorem pl54:dL Tryz.prog 54=some [(0,1),(1,1)]:=by kernel_rfl
theorem pl56:dL Tryz.prog 56=some [(0,1),(1,1),(2,1),(3,1),(4,1)]:=by kernel_rfl
theorem sz54:(Tryz.prog.info? 54).map (·.size)=some 2:=by kernel_rfl
theorem us2:(Tryz.prog.underlying 2).isSome=true:=by kernel_rfl
theorem us3:(Tryz.prog.underlying 3).isSome=true:=by kernel_rfl
theorem zr54:dO Tryz.prog 54=some [(Value.int IntKind.i64 0),(Value.int IntKind.i64 0)]:=by kernel_rfl
theorem zr56:dO Tryz.prog 56=some [(Value.int IntKind.i64 0),(Value.int IntKind.i64 0),(Value.int IntKind.i64 0),(Value.int IntKind.i64 0),(Value.int IntKind.i64 0)]:=by kernel_rfl
theorem zRs (t:Ty):
    Pur cfg 206 [vTy t] (vB (tJ t)):=by
 refine zV Tryz.func206 O Tryz.ntmps206 Tryz.results206 O ?_
 intro z hz
 refine Y O<|zY O O (qL O O) ?_
 rintro _ _ ⟨b1,rfl,rfl⟩
 refine G O<|zA<|Y O<|zM qZ (J 0 O) O<|zD O zFq<|zG one3 (J 0 O) O<|yI O zr56 pl56<|zW O (det_aeql O fl56 O O O)<|G O<|zA<|zJ<|zT O ?_
 exact congrArg vB (plainT_eq t)
theorem zDf (t:Ty):
    Pur cfg 207 [vTy t] (vI (bif fY t then 0 else 10)):=by
 refine zV Tryz.func207 O Tryz.ntmps207 Tryz.results207 O ?_
 intro z hz
 refine Y O<|zY O O (qL O O) ?_
 rintro _ _ ⟨b1,rfl,rfl⟩
 refine G O<|zA<|Y O<|zD O zTp<|zG one3 (J 0 O) O<|zW O (wQ O O O)<|G O<|rL0 O (fun g1_3=>zF O zTp O) O<|rL1 8 O (fun g1_3=>zK O one3 O (J 0 O) O) O<|rL1 9 O (fun g1_3=>wN O O O) O<|kB O (fun h=>h)<|G O<|rL0 O (fun g1_8=>zF O zTo O) O<|rL1 13 O (fun g1_8=>zK O one3 O (J 0 O) O) O<|rL1 14 O (fun g1_8=>yR O O O) O<|rL1 15 O (fun g1_8=>zP O O) O<|rLz [] O gv2 T (fun g1_12=>zF O zTo O) O<|rLz [(17,_)] O gv2 ⟨O,O,T⟩ (fun g1_12=>zK O one3 O (J 0 O) O) O<|rLz [(18,_)] O gv2 ⟨O,O,T⟩ (fun g1_12=>yR O O O) O<|rL1 16 O (fun g1_8=>zAy O O O O (fun h=>kM uD (lzf h))) O<|kB O (fun h=>h)<|G O<|zA<|zH<|Y O<|zD O zFq<|zG one3 (J 0 O) O<|yN O<|G O<|rL0 O (fun g2_3=>zF O zLb O) O<|rL1 26 O (fun g2_3=>zK O one3 O (J 0 O) O) O<|rL1 27 O (fun g2_3=>zDk O O O) O<|r_or O (fun h=>(lzf h))<|G O<|rL0 O (fun g2_8=>zF O zLb O) O<|rL1 31 O (fun g2_8=>zK O one3 O (J 0 O) O) O<|rL1 32 O (fun g2_8=>yF O O O) O<|r_or O (fun h=>(lzf h))<|G O<|rL0 O (fun g2_13=>zF O zQb O) O<|rL1 36 O (fun g2_13=>zK O one3 O (J 0 O) O) O<|rL1 37 O (fun g2_13=>zDk O O O) O<|r_or O (fun h=>(lzf h))<|G O<|rL0 O (fun g2_18=>zF O zQb O) O<|rL1 41 O (fun g2_18=>zK O one3 O (J 0 O) O) O<|rL1 42 O (fun g2_18=>yF O O O) O<|r_or O (fun h=>(lzf h))<|G O<|rL0 O (fun g2_23=>zP O O) O<|rL1 46 O (fun g2_23=>wJ O O) O<|r_or O (fun h=>(lzf h))<|zA<|zE O (fun c1=>?_) (fun c1=>?_)
 ·refine Y O<|G O<|zA<|zJ<|zT O ?_
  rw [show fY t=false from fix_no c1];rfl
 ·refine zI<|Y O<|G O<|zA<|zJ<|zT O ?_
  rw [show fY t=true from fix_yes c1];rfl
theorem wH (t:Ty):
    Pur cfg 167 [vTy t] (vI (bU t)):=by
 refine zV Tryz.func167 O Tryz.ntmps167 Tryz.results167 O ?_
 intro z hz
 refine Y O<|zY O O (qL O O) ?_
 rintro _ _ ⟨b1,rfl,rfl⟩
 refine G O<|zA<|zH<|Y O<|zD O zFq<|zG one3 (J 0 O) O<|zA<|zR<|zH<|Y O<|yJ O<|G O<|zA<|zE O (fun c1=>?_) (fun c1=>?_)
 ·try simp only [sx] at c1
  refine zI<|zE O (fun c2=>?_) (fun c2=>?_)
  ·exact v23
  ·exact l8
 ·try simp only [sx] at c1
  refine zO O<|yJ O<|G O<|zA<|zE O (fun c2=>?_) (fun c2=>?_)
  ·exact v23
  ·exact l8
theorem base_Type (t:Ty):
    Pur cfg 107 [vTy t] (vB (dV t)):=by
 refine zV Tryz.func107 O Tryz.ntmps107 Tryz.results107 O ?_
 intro z hz
 refine Y O<|zY O O (qL O O) ?_
 rintro _ _ ⟨b1,rfl,rfl⟩
 refine G O<|zA<|zH<|Y O<|zD O zFq<|zG one3 (J 0 O) O<|yJ O<|G O<|rL0 O (fun g1_3=>zF O zFq O) O<|rL1 7 O (fun g1_3=>zK O one3 O (J 0 O) O) O<|rL1 8 O (fun g1_3=>yR O O O) O<|r_or O (fun h=>(lzf h))<|zA<|zE O (fun c1=>?_) (fun c1=>?_)
 ·refine Y O<|zD O zLb<|zG one3 (J 0 O) O<|yJ O<|G O<|rL0 O (fun g2_3=>zF O zQb O) O<|rL1 15 O (fun g2_3=>zK O one3 O (J 0 O) O) O<|rL1 16 O (fun g2_3=>yR O O O) O<|kB O (fun h=>h)<|G O<|rL0 O (fun g2_8=>zF O zTp O) O<|rL1 20 O (fun g2_8=>zK O one3 O (J 0 O) O) O<|rL1 21 O (fun g2_8=>yR O O O) O<|kB O (fun h=>h)<|G O<|rL0 O (fun g2_13=>zF O zTo O) O<|rL1 25 O (fun g2_13=>zK O one3 O (J 0 O) O) O<|rL1 26 O (fun g2_13=>yR O O O) O<|kB O (fun h=>h)<|G O<|zA<|zJ<|zT O ?_
  exact congrArg vB (type1 c1)
 ·refine zI<|Y O<|zD O zFq<|zG one3 (J 0 O) O<|yJ O<|G O<|rL0 O (fun g3_3=>zF O zLb O) O<|rL1 33 O (fun g3_3=>zK O one3 O (J 0 O) O) O<|rL1 34 O (fun g3_3=>wQ O O O) O<|kB O (fun h=>h)<|G O<|rL0 O (fun g3_8=>zF O zLb O) O<|rL1 38 O (fun g3_8=>zK O one3 O (J 0 O) O) O<|rL1 39 O (fun g3_8=>wN O O O) O<|kB O (fun h=>h)<|G O<|rL0 O (fun g3_13=>zF O zQb O) O<|rL1 43 O (fun g3_13=>zK O one3 O (J 0 O) O) O<|rL1 44 O (fun g3_13=>wQ O O O) O<|kB O (fun h=>h)<|G O<|rL0 O (fun g3_18=>zF O zQb O) O<|rL1 48 O (fun g3_18=>zK O one3 O (J 0 O) O) O<|rL1 49 O (fun g3_18=>wN O O O) O<|kB O (fun h=>h)<|G O<|rL0 O (fun g3_23=>zF O zTp O) O<|rL1 53 O (fun g3_23=>zK O one3 O (J 0 O) O) O<|rL1 54 O (fun g3_23=>wQ O O O) O<|kB O (fun h=>h)<|G O<|rL0 O (fun g3_28=>zF O zTp O) O<|rL1 58 O (fun g3_28=>zK O one3 O (J 0 O) O) O<|rL1 59 O (fun g3_28=>wN O O O) O<|kB O (fun h=>h)<|G O<|rL0 O (fun g3_33=>zF O zTo O) O<|rL1 63 O (fun g3_33=>zK O one3 O (J 0 O) O) O<|rL1 64 O (fun g3_33=>yR O O O) O<|rL1 65 O (fun g3_33=>zP O O) O<|rLz [] O gv2 T (fun g3_37=>zF O zTo O) O<|rLz [(67,_)] O gv2 ⟨O,O,T⟩ (fun g3_37=>zK O one3 O (J 0 O) O) O<|rLz [(68,_)] O gv2 ⟨O,O,T⟩ (fun g3_37=>yR O O O) O<|rL1 66 O (fun g3_33=>zAy O O O O (fun h=>kM uD (lzf h))) O<|kB O (fun h=>h)<|G O<|zA<|zJ<|zT O ?_
  exact congrArg vB (type2 c1)
theorem zSh (b:Int):
    Pur cfg 296 [vI b] (vB (decide (2<=b)&&decide (b<=31))):=by
 refine zV Tryz.func296 O Tryz.ntmps296 Tryz.results296 O ?_
 exact o8
theorem round_MinInt (b:Int) (h1:2<=b) (h2:b<=31):
    Pur cfg 268 [vI b] (vI (-lO b)):=by
 refine zV Tryz.func268 O Tryz.ntmps268 Tryz.results268 O ?_
 intro z hz
 refine Y O<|G O<|zA<|zH<|Y O<|G O<|qJ O ok296 (zSh _) ⟨zB,O,T⟩<|kZ O<|zA<|zE O (fun c1=>?_) (fun c1=>?_)
 ·try simp only [sx] at c1
  exact absurd c1 zC
 ·try simp only [sx] at c1
  refine zI<|Y O<|G O<|zW O (yM O O O ⟨zC,zC⟩)<|zW O (zCb O us3 ik240 O)<|zW O (det_shl O O O (by rw [zJy zC];omega))<|zW O (zPc O O)<|G O<|zA<|zJ<|zT O ?_
  exact congrArg vI (min_eq h1 h2)
theorem round_MaxInt (b:Int) (h1:2<=b) (h2:b<=31):
    Pur cfg 269 [vI b] (vI (lO b-1)):=by
 refine zV Tryz.func269 O Tryz.ntmps269 Tryz.results269 O ?_
 intro z hz
 refine Y O<|G O<|zA<|zH<|Y O<|G O<|qJ O ok296 (zSh _) ⟨zB,O,T⟩<|kZ O<|zA<|zE O (fun c1=>?_) (fun c1=>?_)
 ·try simp only [sx] at c1
  exact absurd c1 zC
 ·try simp only [sx] at c1
  refine zI<|Y O<|G O<|zW O (yM O O O ⟨zC,zC⟩)<|zW O (zCb O us3 ik240 O)<|zW O (det_shl O O O (by rw [zJy zC];omega))<|zW O (det_sub O O O)<|G O<|zA<|zJ<|zT O ?_
  exact congrArg vI (max_eq h1 h2)
theorem zTm (t:Ty) (v:Vl):
    Pur cfg 238 [vTy t,vN v] (vB (fY t&&(decide (v.D=1)&&decide (-lO t.Bits<=v.N)&&decide (v.N<lO t.Bits)))):=by
 refine zV Tryz.func238 O Tryz.ntmps238 Tryz.results238 O ?_
 intro z hz
 refine Y O<|zY O O (qL O O) ?_
 rintro _ _ ⟨b1,rfl,rfl⟩
 refine zY O O (qL O O) ?_
 rintro _ _ ⟨b2,rfl,rfl⟩
 refine G O<|zA<|zH<|yE 25 mixed uC O O<|zN O O (qA O qZ O (J 1 O) O)<|zN O O (qS O ok207 (zDf _) ⟨zB,O,T⟩)<|zN O O (yR O O O)<|zN O O (zP O O)<|qP [] O O O O gv1 T (fun g1_3=>zF O zIe O) O<|qP [(9,_)] O O O O gv1 ⟨O,O,T⟩ (fun g1_3=>zK O W O (J 0 O) O) O<|qP [(10,_)] O O O O gv1 ⟨O,O,T⟩ (fun g1_3=>yR O O O) O<|zN O O (zAc O O O (fun h=>h) O)<|zN O O (zP O O)<|qP [] O O O O gv1 T (fun g1_8=>zF O zGv O) O<|qP [(14,_)] O O O O gv1 ⟨O,O,T⟩ (fun g1_8=>zK O W O (J 0 O) O) O<|qP [] O O O O gv1 T (fun g1_8=>zF O zLb O) O<|qP [(16,_)] O O O O gv1 ⟨O,O,T⟩ (fun g1_8=>zK O one3 O (J 1 O) O) O<|qP [(17,_)] O O O O gv1 ⟨O,O,T⟩ (fun g1_8=>qS O ok268 (round_MinInt _ (fixB (fxa g1_8)).1 (fixB (fxa g1_8)).2) ⟨zB,O,T⟩) O<|qP [(15,_),(18,_)] O O O O gv1 ⟨O,O,O,O,T⟩ (fun g1_8=>wQ O O O) O<|zN O O (zAc O O O (fun h=>h) O)<|zN O O (zP O O)<|qP [] O O O O gv1 T (fun g1_16=>zF O zGv O) O<|qP [(22,_)] O O O O gv1 ⟨O,O,T⟩ (fun g1_16=>zK O W O (J 0 O) O) O<|qP [] O O O O gv1 T (fun g1_16=>zF O zLb O) O<|qP [(24,_)] O O O O gv1 ⟨O,O,T⟩ (fun g1_16=>zK O one3 O (J 1 O) O) O<|qP [(25,_)] O O O O gv1 ⟨O,O,T⟩ (fun g1_16=>qS O ok269 (round_MaxInt _ (fixB (fxb g1_16)).1 (fixB (fxb g1_16)).2) ⟨zB,O,T⟩) O<|qP [(23,_),(26,_)] O O O O gv1 ⟨O,O,O,O,T⟩ (fun g1_16=>wN O O O) O<|zN O O (zAc O O O (fun h=>h) O)<|zN O O (yL O O)<|kE<|zA<|zJ<|zT O ?_
 exact congrArg vB (fixV t v)
theorem value_whole (n:Int):
    Pur cfg 292 [vI n] (vB (pJ n)):=by
 refine zV Tryz.func292 O Tryz.ntmps292 Tryz.results292 O ?_
 exact o8
theorem frac_inRange (n:Int):
    Pur cfg 304 [vI n] (vB (pJ n)):=by
 refine zV Tryz.func304 O Tryz.ntmps304 Tryz.results304 O ?_
 exact o8
theorem frac_magnitude (n:Int) (hn: -9223372036854775808<=n) (hm:n<=9223372036854775807):
    Pur cfg 306 [vI n] (rJ n.natAbs):=by
 refine zV Tryz.func306 O Tryz.ntmps306 Tryz.results306 O ?_
 intro z hz
 refine Y O<|G O<|zA<|zH<|Y O<|G O<|yA O<|zA<|zE O (fun c1=>?_) (fun c1=>?_)
 ·try simp only [sx] at c1
  refine Y O<|G O<|zW O (zCb O us2 ik154 O)<|zW O (zPc O O)<|G O<|zA<|zJ<|zT O ?_
  exact congrArg rJ (mag_neg c1 hn)
 ·try simp only [sx] at c1
  refine zI<|Y O<|G O<|zW O (zCb O us2 ik154 O)<|G O<|zA<|zJ<|zT O ?_
  exact congrArg rJ (mag_pos zC hm)
theorem frac_gcd (a b:Nat):
    Pur cfg 305 [rJ a,rJ b] (rJ (Nat.gcd a b)):=by
 refine zV Tryz.func305 O Tryz.ntmps305 Tryz.results305 O ?_
 intro z hz
 refine Y O<|G O<|zA<|zH<|zR<|zU ⟨[(0,.c _),(1,.c _)],[]⟩ (Weak.mk [] ⟨zB,zB,T⟩ O)<|qF 2 0 O O (Nat×Nat) (fun ⟨x,y⟩=>[(0,rJ x),(1,rJ y)]) (fun ⟨x,y⟩=>[]) (fun ⟨x,y⟩=>Nat.gcd a b=Nat.gcd x y) (fun ⟨x,y⟩=>y) ⟨⟨a,b⟩,O,Weak.mk [] ⟨zB,zB,T⟩ O⟩ ?_
 rintro ⟨x,y⟩ hg
 refine zH<|Y O<|G O<|yN O<|zA<|zE O (fun c1=>?_) (fun c1=>?_)
 ·try simp only [sx] at c1
  refine zI<|zR<|yE 6 mixed uC O O<|zN O O (zP O O)<|zN O O (zP O O)<|zN O O (zP O O)<|zN O O (det_rem O O O zC)<|zN O O (yL O O)<|zN O O (yL O O)<|kE<|zA ?_
  refine ⟨⟨y,x%y⟩,(by rw [hg];exact gcd_step zC),(Nat.mod_lt _ zC),Weak.mk [] ⟨zB,VLe.of_eq (congrArg rJ (Int.ofNat_tmod x y).symm),T⟩ O⟩
 ·try simp only [sx] at c1
  refine qM<|Y O<|G O<|G O<|zA<|zJ<|zT O ?_
  exact congrArg rJ (by rw [hg,show y=0 by omega,Nat.gcd_zero_right])
theorem base_gcd (a b:Nat):
    Pur cfg 245 [vI a,vI b] (vI (Nat.gcd a b)):=by
 refine zV Tryz.func245 O Tryz.ntmps245 Tryz.results245 O ?_
 intro z hz
 refine Y O<|G O<|zA<|zH<|zR<|zU ⟨[(0,.c _),(1,.c _)],[]⟩ (Weak.mk [] ⟨zB,zB,T⟩ O)<|qF 2 0 O O (Nat×Nat) (fun ⟨x,y⟩=>[(0,vI x),(1,vI y)]) (fun ⟨x,y⟩=>[]) (fun ⟨x,y⟩=>Nat.gcd a b=Nat.gcd x y) (fun ⟨x,y⟩=>y) ⟨⟨a,b⟩,O,Weak.mk [] ⟨zB,zB,T⟩ O⟩ ?_
 rintro ⟨x,y⟩ hg
 refine zH<|Y O<|G O<|yN O<|zA<|zE O (fun c1=>?_) (fun c1=>?_)
 ·try simp only [sx] at c1
  refine zI<|zR<|yE 6 mixed uC O O<|zN O O (zP O O)<|zN O O (zP O O)<|zN O O (zP O O)<|zN O O (det_rem O O O zC)<|zN O O (yL O O)<|zN O O (yL O O)<|kE<|zA ?_
  refine ⟨⟨y,x%y⟩,(by rw [hg];exact gcd_step zC),(Nat.mod_lt _ zC),Weak.mk [] ⟨zB,VLe.of_eq (congrArg vI (Int.ofNat_tmod x y).symm),T⟩ O⟩
 ·try simp only [sx] at c1
  refine qM<|Y O<|G O<|G O<|zA<|zJ<|zT O ?_
  exact congrArg vI (by rw [hg,show y=0 by omega,Nat.gcd_zero_right])
theorem frac_Valid (v:Vl):
    Pur cfg 293 [vN v] (vB (decide (1<=v.D)&&decide (v.D<=2147483647)&&pJ v.N&&decide (Int.gcd v.N v.D=1))):=by
 refine zV Tryz.func293 O Tryz.ntmps293 Tryz.results293 O ?_
 intro z hz
 refine Y O<|zY O O (qL O O) ?_
 rintro _ _ ⟨b1,rfl,rfl⟩
 refine G O<|zA<|zH<|yE 24 mixed uC O O<|zN O O (zF O zIe O)<|zN O O (zK O W O (J 0 O) O)<|zN O O (wQ O O O)<|zN O O (zP O O)<|qP [] O O O O gv1 T (fun g1_3=>zF O zIe O) O<|qP [(7,_)] O O O O gv1 ⟨O,O,T⟩ (fun g1_3=>zK O W O (J 0 O) O) O<|qP [(8,_)] O O O O gv1 ⟨O,O,T⟩ (fun g1_3=>wN O O O) O<|zN O O (zAc O O O (fun h=>h) O)<|zN O O (zP O O)<|qP [] O O O O gv1 T (fun g1_8=>zF O zGv O) O<|qP [(12,_)] O O O O gv1 ⟨O,O,T⟩ (fun g1_8=>zK O W O (J 0 O) O) O<|qP [(13,_)] O O O O gv1 ⟨O,O,T⟩ (fun g1_8=>qS O ok304 (frac_inRange _) ⟨zB,O,T⟩) O<|zN O O (zAc O O O (fun h=>h) O)<|zN O O (zP O O)<|qP [] O O O O gv1 T (fun g1_13=>zF O zGv O) O<|qP [(17,_)] O O O O gv1 ⟨O,O,T⟩ (fun g1_13=>zK O W O (J 0 O) O) O<|qP [(18,_)] O O O O gv1 ⟨O,O,T⟩ (fun g1_13=>qS O ok306 (frac_magnitude v.N (frV g1_13).2.2.1 (frV g1_13).2.2.2) ⟨zB,O,T⟩) O<|qP [] O O O O gv1 T (fun g1_13=>zF O zIe O) O<|qP [(20,_)] O O O O gv1 ⟨O,O,T⟩ (fun g1_13=>zK O W O (J 0 O) O) O<|qP [(21,_)] O O O O gv1 ⟨O,O,T⟩ (fun g1_13=>zCb O us2 ik154 O) O<|qP [(19,_),(22,_)] O O O O gv1 ⟨O,O,O,O,T⟩ (fun g1_13=>qS O ok305 (show Pur cfg 305 [rJ v.N.natAbs,rJ (IntKind.u64.wrap v.D)] (rJ (Nat.gcd v.N.natAbs v.D.natAbs)) from by rw [u64_D (frV g1_13).1 (frV g1_13).2.1];exact frac_gcd _ _) ⟨zB,O,zB,O,T⟩) O<|qP [(23,_)] O O O O gv1 ⟨O,O,T⟩ (fun g1_13=>yR O O O) O<|zN O O (zAc O O O (fun h=>h) O)<|zN O O (yL O O)<|kE<|zA<|zJ<|zT O ?_
 exact congrArg vB (by rw [show (decide (((Nat.gcd v.N.natAbs v.D.natAbs:Nat):Int)=1))=decide (Int.gcd v.N v.D=1) from decide_eq_decide.2 (by unfold Int.gcd;omega)])
theorem value_Valid (t:Ty) (v:Vl):
    Pur cfg 260 [vTy t,vN v] (vB (dV t&&jA t v)):=by
 refine zV Tryz.func260 O Tryz.ntmps260 Tryz.results260 O ?_
 intro z hz
 refine Y O<|zY O O (qL O O) ?_
 rintro _ _ ⟨b1,rfl,rfl⟩
 refine zY O O (qL O O) ?_
 rintro _ _ ⟨b2,rfl,rfl⟩
 refine G O<|zA<|zH<|Y O<|zM qZ (J 1 O) O<|qJ O ok167 (wH _) ⟨zB,O,T⟩<|yN O<|zA<|zE O (fun c1=>?_) (fun c1=>?_)
 ·try simp only [sx] at c1
  have ht:dV t=false:=zJz c1
  refine Y O<|G O<|zA<|zJ<|zT O ?_
  rw [ht];rfl
 ·try simp only [sx] at c1
  have ht:dV t=true:=zBc c1
  refine zI<|zH<|Y O<|zD O zFq<|zG one3 (J 1 O) O<|zA<|zR<|Y O<|yJ O<|G O<|zA<|zE O (fun c2=>?_) (fun c2=>?_)
  ·try simp only [sx] at c2
   refine Y O<|zM qZ (J 1 O) O<|zM zFt (J 0 O) O<|qJ O ok238 (zTm _ _) ⟨zB,O,zB,O,T⟩<|G O<|zA<|zJ<|zT O ?_
   exact congrArg vB (by rw [ht,jA,c2,←zBp c2,ht];rfl)
  ·try simp only [sx] at c2
   refine Y O<|yJ O<|G O<|zA<|zE O (fun c3=>?_) (fun c3=>?_)
   ·try simp only [sx] at c3
    refine Y O<|zD O zIe<|zG W (J 0 O) O<|yJ O<|G O<|rL0 O (fun g7_3=>zF O zGv O) O<|rL1 21 O (fun g7_3=>zK O W O (J 0 O) O) O<|rL1 22 O (fun g7_3=>qS O ok292 (value_whole _) ⟨zB,O,T⟩) O<|kB O (fun h=>h)<|G O<|zA<|zJ<|zT O ?_
    exact congrArg vB (by rw [ht,jA,kF c2,c3];rfl)
   ·try simp only [sx] at c3
    refine zI<|Y O<|zM zFt (J 0 O) O<|qJ O ok293 (frac_Valid _) ⟨zB,O,T⟩<|G O<|zA<|zJ<|zT O ?_
    exact congrArg vB (by rw [ht,jA,kF c2,kF c3];rfl)
theorem base_Val (t:Ty) (v:Vl) (ht:dV t=true):
    Pur cfg 202 [vTy t,vN v] (vB (jA t v)):=by
 refine zV Tryz.func202 O Tryz.ntmps202 Tryz.results202 O ?_
 intro z hz
 refine Y O<|zY O O (qL O O) ?_
 rintro _ _ ⟨b1,rfl,rfl⟩
 refine zY O O (qL O O) ?_
 rintro _ _ ⟨b2,rfl,rfl⟩
 refine G O<|zA<|zH<|Y O<|zD O zFq<|zG one3 (J 1 O) O<|yJ O<|zA<|zE O (fun c1=>?_) (fun c1=>?_)
 ·try simp only [sx] at c1
  obtain ⟨b1,b2⟩:=fixB (by rw [←zBp c1];exact ht)
  refine Y O<|zD O zLb<|zG one3 (J 1 O) O<|zW O (yM O O O ⟨zC,zC⟩)<|zW O (det_shl O O O zC)<|G O<|zA<|Y O<|zD O zIe<|zG W (J 0 O) O<|yJ O<|G O<|rL0 O (fun g3_3=>zF O zGv O) O<|rL1 17 O (fun g3_3=>zK O W O (J 0 O) O) O<|rL0 O (fun g3_3=>zP O O) O<|rL1 19 O (fun g3_3=>zPc O O) O<|rLz [(18,_),(20,_)] O gv1 ⟨O,O,O,O,T⟩ (fun g3_3=>wQ O O O) O<|kB O (fun h=>h)<|G O<|rL0 O (fun g3_10=>zF O zGv O) O<|rL1 24 O (fun g3_10=>zK O W O (J 0 O) O) O<|rL0 O (fun g3_10=>zP O O) O<|rLz [(25,_),(26,_)] O gv1 ⟨O,O,O,O,T⟩ (fun g3_10=>zDk O O O) O<|kB O (fun h=>h)<|G O<|zA<|zJ<|zT O ?_
  exact congrArg vB (valfix c1 b1 b2)
 ·try simp only [sx] at c1
  refine zI<|zH<|Y O<|zD O zGv<|zG W (J 0 O) O<|zW O (yF O O O)<|G O<|rL0 O (fun g4_3=>zF O zGv O) O<|rL1 33 O (fun g4_3=>zK O W O (J 0 O) O) O<|rL1 34 O (fun g4_3=>zDk O O O) O<|r_or O (fun h=>(lzf h))<|G O<|rL0 O (fun g4_8=>zF O zIe O) O<|rL1 38 O (fun g4_8=>zK O W O (J 0 O) O) O<|rL1 39 O (fun g4_8=>zDk O O O) O<|r_or O (fun h=>(lzf h))<|G O<|rL0 O (fun g4_13=>zF O zIe O) O<|rL1 43 O (fun g4_13=>zK O W O (J 0 O) O) O<|rL1 44 O (fun g4_13=>yF O O O) O<|r_or O (fun h=>(lzf h))<|zA<|zE O (fun c2=>?_) (fun c2=>?_)
  ·refine Y O<|G O<|zA<|zJ<|zT O ?_
   exact congrArg vB (val_out c1 c2).symm
  ·obtain ⟨hN1,hN2,hD1,hD2⟩:=val_in c2
   refine zI<|zH<|Y O<|zD O zFq<|zG one3 (J 1 O) O<|yJ O<|zA<|zE O (fun c3=>?_) (fun c3=>?_)
   ·try simp only [sx] at c3
    refine Y O<|zD O zIe<|zG W (J 0 O) O<|yJ O<|G O<|zA<|zJ<|zT O ?_
    exact congrArg vB (by rw [jA,kF c1,c3];simp [pJ,hN1,hN2])
   ·try simp only [sx] at c3
    refine zI<|Y O<|zD O zGv<|zG W (J 0 O) O<|zD O zGv<|zG W (J 0 O) O<|zW O (zPc O O)<|zW O (zPe O O O)<|zD O zIe<|zG W (J 0 O) O<|qJ O ok245 (show Pur cfg 245 [vI (max v.N (IntKind.i64.wrap (-v.N))),vI v.D] (vI (Int.gcd v.N v.D)) from by rw [max_abs hN1 hN2,show v.D=(v.D.natAbs:Int) by omega];exact base_gcd _ _) ⟨zB,O,zB,O,T⟩<|yJ O<|G O<|zA<|zJ<|zT O ?_
    exact congrArg vB (by rw [jA,kF c1,kF c3];simp [pJ,hN1,hN2,hD1,hD2];omega)
theorem value_Zero (t:Ty):
    Pur cfg 191 [vTy t] (vN (tW t)):=by
 refine zV Tryz.func191 O Tryz.ntmps191 Tryz.results191 O ?_
 intro z hz
 refine Y O<|zY O O (qL O O) ?_
 rintro _ _ ⟨b1,rfl,rfl⟩
 refine zY O O (yC O zr54) ?_
 rintro _ _ ⟨b2,rfl,rfl⟩
 refine zA<|zH<|Y O<|zM qZ (J 1 O) O<|qJ O ok167 (wH _) ⟨zB,O,T⟩<|yN O<|zA<|zE O (fun c1=>?_) (fun c1=>?_)
 ·try simp only [sx] at c1
  refine Y O<|yI O zr54 pl54<|D 0 sz54 O<|zA<|zJ<|fin1 (zZ zFt O (J 0 O) O) ?_
  rw [tW,zJz c1];rfl
 ·try simp only [sx] at c1
  refine zI<|Y O<|yI O zr54 pl54<|D 0 sz54 O<|zA<|zJ<|fin1 (zZ zFt O (J 0 O) O) ?_
  rw [tW,zBc c1];rfl
end Go.W
