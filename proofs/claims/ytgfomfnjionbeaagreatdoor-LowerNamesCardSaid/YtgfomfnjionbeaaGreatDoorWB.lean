/-
  Walks: what functions of the program compute. Printed by wip/gen/mk2.py.
  Conditions: none.
-/
import Derived.Test.YtgfomfnjionbeaaGreatDoorWA
set_option linter.unusedSimpArgs false
set_option linter.unusedVariables false
set_option maxRecDepth 10000
namespace Go.W
open Go Go.Eng Go.Proofs Go.L41 Go.Br
attribute [local irreducible] AWP RWP TD finQ
theorem zGk:aggT Tryz.prog 54=some 2:=by kernel_rfl
theorem qZ:aggT Tryz.prog 56=some 5:=by kernel_rfl
theorem zPx:fieldT Tryz.prog 54 0=some (0,2):=by kernel_rfl
theorem zPw:fieldT Tryz.prog 54 1=some (1,2):=by kernel_rfl
theorem zKw:fieldT Tryz.prog 56 0=some (0,3):=by kernel_rfl
theorem fd56_1:fieldT Tryz.prog 56 1=some (1,3):=by kernel_rfl
theorem fd56_2:fieldT Tryz.prog 56 2=some (2,3):=by kernel_rfl
theorem fd56_3:fieldT Tryz.prog 56 3=some (3,3):=by kernel_rfl
theorem fd56_4:fieldT Tryz.prog 56 4=some (4,3):=by kernel_rfl
theorem fl56:flatK Tryz.prog 56=some [.int,.int,.int,.int,.int]:=by kernel_rfl
theorem ik154:intT Tryz.prog 154=some .u64:=by kernel_rfl
theorem ik240:intT Tryz.prog 240=some .u64:=by kernel_rfl
theorem ok167:callOk Tryz.prog 167=true:=by kernel_rfl
theorem ok206:callOk Tryz.prog 206=true:=by kernel_rfl
theorem ok207:callOk Tryz.prog 207=true:=by kernel_rfl
theorem ok238:callOk Tryz.prog 238=true:=by kernel_rfl
theorem ok268:callOk Tryz.prog 268=true:=by kernel_rfl
theorem ok269:callOk Tryz.prog 269=true:=by kernel_rfl
theorem ok292:callOk Tryz.prog 292=true:=by kernel_rfl
theorem ok293:callOk Tryz.prog 293=true:=by kernel_rfl
theorem ok296:callOk Tryz.prog 296=true:=by kernel_rfl
theorem ok304:callOk Tryz.prog 304=true:=by kernel_rfl
theorem ok305:callOk Tryz.prog 305=true:=by kernel_rfl
theorem ok306:callOk Tryz.prog 306=true:=by kernel_rfl
theorem one3:oneT Tryz.prog 3=true:=by kernel_rfl
theorem pl54:placesT Tryz.prog 54=some [(0,1),(1,1)]:=by kernel_rfl
theorem pl56:placesT Tryz.prog 56=some [(0,1),(1,1),(2,1),(3,1),(4,1)]:=by kernel_rfl
theorem sz54:(Tryz.prog.info? 54).map (·.size)=some 2:=by kernel_rfl
theorem us2:(Tryz.prog.underlying 2).isSome=true:=by kernel_rfl
theorem us3:(Tryz.prog.underlying 3).isSome=true:=by kernel_rfl
theorem zr54:zeroT Tryz.prog 54=some [(Value.int IntKind.i64 0),(Value.int IntKind.i64 0)]:=by kernel_rfl
theorem zr56:zeroT Tryz.prog 56=some [(Value.int IntKind.i64 0),(Value.int IntKind.i64 0),(Value.int IntKind.i64 0),(Value.int IntKind.i64 0),(Value.int IntKind.i64 0)]:=by kernel_rfl
theorem zOk (t:Ty):
    Pur cfg 206 [vTy t] (vB (plainT t)):=by
 refine zW Tryz.func206 O Tryz.ntmps206 Tryz.results206 O ?_
 intro z hz
 refine Y O<|zZ O O (qO O O) ?_
 rintro _ _ ⟨b1,rfl,rfl⟩
 refine G O<|zA<|Y O<|zM qZ (J 0 O) O<|zD O zKw<|zI one3 (J 0 O) O<|yF O zr56 pl56<|zR O (det_aeql O fl56 O O O)<|G O<|zA<|zG<|zV O ?_
 exact congrArg vB (plainT_eq t)
theorem zCe (t:Ty):
    Pur cfg 207 [vTy t] (vI (bif fixOk t then 0 else 10)):=by
 refine zW Tryz.func207 O Tryz.ntmps207 Tryz.results207 O ?_
 intro z hz
 refine Y O<|zZ O O (qO O O) ?_
 rintro _ _ ⟨b1,rfl,rfl⟩
 refine G O<|zA<|Y O<|zD O fd56_3<|zI one3 (J 0 O) O<|zR O (wT O O O)<|G O<|rL0 O (fun g1_3=>zJ O fd56_3 O) O<|rL1 8 O (fun g1_3=>zK O one3 O (J 0 O) O) O<|rL1 9 O (fun g1_3=>zBb O O O) O<|wC O (fun h=>h)<|G O<|rL0 O (fun g1_8=>zJ O fd56_4 O) O<|rL1 13 O (fun g1_8=>zK O one3 O (J 0 O) O) O<|rL1 14 O (fun g1_8=>kC O O O) O<|rL1 15 O (fun g1_8=>zS O O) O<|rLz [] O gv2 T (fun g1_12=>zJ O fd56_4 O) O<|rLz [(17,_)] O gv2 ⟨O,O,T⟩ (fun g1_12=>zK O one3 O (J 0 O) O) O<|rLz [(18,_)] O gv2 ⟨O,O,T⟩ (fun g1_12=>kC O O O) O<|rL1 16 O (fun g1_8=>zDh O O O O (fun h=>kU (by assumption) (lzf h))) O<|wC O (fun h=>h)<|G O<|zA<|zH<|Y O<|zD O zKw<|zI one3 (J 0 O) O<|yM O<|G O<|rL0 O (fun g2_3=>zJ O fd56_1 O) O<|rL1 26 O (fun g2_3=>zK O one3 O (J 0 O) O) O<|rL1 27 O (fun g2_3=>zGd O O O) O<|r_or O (fun h=>(lzf h))<|G O<|rL0 O (fun g2_8=>zJ O fd56_1 O) O<|rL1 31 O (fun g2_8=>zK O one3 O (J 0 O) O) O<|rL1 32 O (fun g2_8=>yU O O O) O<|r_or O (fun h=>(lzf h))<|G O<|rL0 O (fun g2_13=>zJ O fd56_2 O) O<|rL1 36 O (fun g2_13=>zK O one3 O (J 0 O) O) O<|rL1 37 O (fun g2_13=>zGd O O O) O<|r_or O (fun h=>(lzf h))<|G O<|rL0 O (fun g2_18=>zJ O fd56_2 O) O<|rL1 41 O (fun g2_18=>zK O one3 O (J 0 O) O) O<|rL1 42 O (fun g2_18=>yU O O O) O<|r_or O (fun h=>(lzf h))<|G O<|rL0 O (fun g2_23=>zS O O) O<|rL1 46 O (fun g2_23=>zAz O O) O<|r_or O (fun h=>(lzf h))<|zA<|zE O (fun c1=>?_) (fun c1=>?_)
 ·refine Y O<|G O<|zA<|zG<|zV O ?_
  rw [show fixOk t=false from fix_no c1];rfl
 ·refine zF<|Y O<|G O<|zA<|zG<|zV O ?_
  rw [show fixOk t=true from fix_yes c1];rfl
theorem kW (t:Ty):
    Pur cfg 167 [vTy t] (vI (tyErr t)):=by
 refine zW Tryz.func167 O Tryz.ntmps167 Tryz.results167 O ?_
 intro z hz
 refine Y O<|zZ O O (qO O O) ?_
 rintro _ _ ⟨b1,rfl,rfl⟩
 refine G O<|zA<|zH<|Y O<|zD O zKw<|zI one3 (J 0 O) O<|zA<|zT<|zH<|Y O<|yX O<|G O<|zA<|zE O (fun c1=>?_) (fun c1=>?_)
 ·try simp only [sx] at c1
  refine zF<|zE O (fun c2=>?_) (fun c2=>?_)
  ·exact v10
  ·exact m5
 ·try simp only [sx] at c1
  refine zP O<|yX O<|G O<|zA<|zE O (fun c2=>?_) (fun c2=>?_)
  ·exact v10
  ·exact m5
theorem zOx (b:Int):
    Pur cfg 296 [vI b] (vB (decide (2<=b)&&decide (b<=31))):=by
 refine zW Tryz.func296 O Tryz.ntmps296 Tryz.results296 O ?_
 exact o1
theorem round_MinInt (b:Int) (h1:2<=b) (h2:b<=31):
    Pur cfg 268 [vI b] (vI (-half b)):=by
 refine zW Tryz.func268 O Tryz.ntmps268 Tryz.results268 O ?_
 intro z hz
 refine Y O<|G O<|zA<|zH<|Y O<|G O<|qK O ok296 (zOx _) ⟨zB,O,T⟩<|wG O<|zA<|zE O (fun c1=>?_) (fun c1=>?_)
 ·try simp only [sx] at c1
  exact absurd c1 (by omega)
 ·try simp only [sx] at c1
  refine zF<|Y O<|G O<|zR O (yO O O O ⟨by omega,by omega⟩)<|zR O (zAv O us3 ik240 O)<|zR O (det_shl O O O (by rw [zJs (by omega)];omega))<|zR O (det_neg O O)<|G O<|zA<|zG<|zV O ?_
  exact congrArg vI (min_eq h1 h2)
theorem round_MaxInt (b:Int) (h1:2<=b) (h2:b<=31):
    Pur cfg 269 [vI b] (vI (half b-1)):=by
 refine zW Tryz.func269 O Tryz.ntmps269 Tryz.results269 O ?_
 intro z hz
 refine Y O<|G O<|zA<|zH<|Y O<|G O<|qK O ok296 (zOx _) ⟨zB,O,T⟩<|wG O<|zA<|zE O (fun c1=>?_) (fun c1=>?_)
 ·try simp only [sx] at c1
  exact absurd c1 (by omega)
 ·try simp only [sx] at c1
  refine zF<|Y O<|G O<|zR O (yO O O O ⟨by omega,by omega⟩)<|zR O (zAv O us3 ik240 O)<|zR O (det_shl O O O (by rw [zJs (by omega)];omega))<|zR O (det_sub O O O)<|G O<|zA<|zG<|zV O ?_
  exact congrArg vI (max_eq h1 h2)
theorem zPu (t:Ty) (v:Vl):
    Pur cfg 238 [vTy t,vVal v] (vB (fixOk t&&(decide (v.D=1)&&decide (-half t.Bits<=v.N)&&decide (v.N<half t.Bits)))):=by
 refine zW Tryz.func238 O Tryz.ntmps238 Tryz.results238 O ?_
 intro z hz
 refine Y O<|zZ O O (qO O O) ?_
 rintro _ _ ⟨b1,rfl,rfl⟩
 refine zZ O O (qO O O) ?_
 rintro _ _ ⟨b2,rfl,rfl⟩
 refine G O<|zA<|zH<|yL 25 mixed (by kernel_rfl) O O<|zQ O O (qA O qZ O (J 1 O) O)<|zQ O O (qR O ok207 (zCe _) ⟨zB,O,T⟩)<|zQ O O (kC O O O)<|zQ O O (zS O O)<|qQ [] O O O O gv1 T (fun g1_3=>zJ O zPw O) O<|qQ [(9,_)] O O O O gv1 ⟨O,O,T⟩ (fun g1_3=>zK O one2 O (J 0 O) O) O<|qQ [(10,_)] O O O O gv1 ⟨O,O,T⟩ (fun g1_3=>kC O O O) O<|zQ O O (zCj O O O (fun h=>h) O)<|zQ O O (zS O O)<|qQ [] O O O O gv1 T (fun g1_8=>zJ O zPx O) O<|qQ [(14,_)] O O O O gv1 ⟨O,O,T⟩ (fun g1_8=>zK O one2 O (J 0 O) O) O<|qQ [] O O O O gv1 T (fun g1_8=>zJ O fd56_1 O) O<|qQ [(16,_)] O O O O gv1 ⟨O,O,T⟩ (fun g1_8=>zK O one3 O (J 1 O) O) O<|qQ [(17,_)] O O O O gv1 ⟨O,O,T⟩ (fun g1_8=>qR O ok268 (round_MinInt _ (fixB (fxa g1_8)).1 (fixB (fxa g1_8)).2) ⟨zB,O,T⟩) O<|qQ [(15,_),(18,_)] O O O O gv1 ⟨O,O,O,O,T⟩ (fun g1_8=>wT O O O) O<|zQ O O (zCj O O O (fun h=>h) O)<|zQ O O (zS O O)<|qQ [] O O O O gv1 T (fun g1_16=>zJ O zPx O) O<|qQ [(22,_)] O O O O gv1 ⟨O,O,T⟩ (fun g1_16=>zK O one2 O (J 0 O) O) O<|qQ [] O O O O gv1 T (fun g1_16=>zJ O fd56_1 O) O<|qQ [(24,_)] O O O O gv1 ⟨O,O,T⟩ (fun g1_16=>zK O one3 O (J 1 O) O) O<|qQ [(25,_)] O O O O gv1 ⟨O,O,T⟩ (fun g1_16=>qR O ok269 (round_MaxInt _ (fixB (fxb g1_16)).1 (fixB (fxb g1_16)).2) ⟨zB,O,T⟩) O<|qQ [(23,_),(26,_)] O O O O gv1 ⟨O,O,O,O,T⟩ (fun g1_16=>zBb O O O) O<|zQ O O (zCj O O O (fun h=>h) O)<|zQ O O (yV O O)<|kL<|zA<|zG<|zV O ?_
 exact congrArg vB (fixV t v)
theorem value_whole (n:Int):
    Pur cfg 292 [vI n] (vB (num31 n)):=by
 refine zW Tryz.func292 O Tryz.ntmps292 Tryz.results292 O ?_
 exact o1
theorem frac_inRange (n:Int):
    Pur cfg 304 [vI n] (vB (num31 n)):=by
 refine zW Tryz.func304 O Tryz.ntmps304 Tryz.results304 O ?_
 exact o1
theorem frac_magnitude (n:Int) (hn: -9223372036854775808<=n) (hm:n<=9223372036854775807):
    Pur cfg 306 [vI n] (vU64 n.natAbs):=by
 refine zW Tryz.func306 O Tryz.ntmps306 Tryz.results306 O ?_
 intro z hz
 refine Y O<|G O<|zA<|zH<|Y O<|G O<|yB O<|zA<|zE O (fun c1=>?_) (fun c1=>?_)
 ·try simp only [sx] at c1
  refine Y O<|G O<|zR O (zAv O us2 ik154 O)<|zR O (det_neg O O)<|G O<|zA<|zG<|zV O ?_
  exact congrArg vU64 (mag_neg c1 hn)
 ·try simp only [sx] at c1
  refine zF<|Y O<|G O<|zR O (zAv O us2 ik154 O)<|G O<|zA<|zG<|zV O ?_
  exact congrArg vU64 (mag_pos (by omega) hm)
theorem frac_gcd (a b:Nat):
    Pur cfg 305 [vU64 a,vU64 b] (vU64 (Nat.gcd a b)):=by
 refine zW Tryz.func305 O Tryz.ntmps305 Tryz.results305 O ?_
 intro z hz
 refine Y O<|G O<|zA<|zH<|zT<|zU ⟨[(0,.c _),(1,.c _)],[]⟩ (Weak.mk [] ⟨zB,zB,T⟩ O)<|qJ 2 0 O O (Nat×Nat) (fun ⟨x,y⟩=>[(0,vU64 x),(1,vU64 y)]) (fun ⟨x,y⟩=>[]) (fun ⟨x,y⟩=>Nat.gcd a b=Nat.gcd x y) (fun ⟨x,y⟩=>y) ⟨⟨a,b⟩,O,Weak.mk [] ⟨zB,zB,T⟩ O⟩ ?_
 rintro ⟨x,y⟩ hg
 refine zH<|Y O<|G O<|yM O<|zA<|zE O (fun c1=>?_) (fun c1=>?_)
 ·try simp only [sx] at c1
  refine zF<|zT<|yL 6 mixed (by kernel_rfl) O O<|zQ O O (zS O O)<|zQ O O (zS O O)<|zQ O O (zS O O)<|zQ O O (det_rem O O O (by omega))<|zQ O O (yV O O)<|zQ O O (yV O O)<|kL<|zA ?_
  refine ⟨⟨y,x%y⟩,(by rw [hg];exact gcd_step (by omega)),(Nat.mod_lt _ (by omega)),Weak.mk [] ⟨zB,VLe.of_eq (congrArg vU64 (Int.ofNat_tmod x y).symm),T⟩ O⟩
 ·try simp only [sx] at c1
  refine qP<|Y O<|G O<|G O<|zA<|zG<|zV O ?_
  exact congrArg vU64 (by rw [hg,show y=0 by omega,Nat.gcd_zero_right])
theorem frac_Valid (v:Vl):
    Pur cfg 293 [vVal v] (vB (decide (1<=v.D)&&decide (v.D<=2147483647)&&num31 v.N&&decide (Int.gcd v.N v.D=1))):=by
 refine zW Tryz.func293 O Tryz.ntmps293 Tryz.results293 O ?_
 intro z hz
 refine Y O<|zZ O O (qO O O) ?_
 rintro _ _ ⟨b1,rfl,rfl⟩
 refine G O<|zA<|zH<|yL 24 mixed (by kernel_rfl) O O<|zQ O O (zJ O zPw O)<|zQ O O (zK O one2 O (J 0 O) O)<|zQ O O (wT O O O)<|zQ O O (zS O O)<|qQ [] O O O O gv1 T (fun g1_3=>zJ O zPw O) O<|qQ [(7,_)] O O O O gv1 ⟨O,O,T⟩ (fun g1_3=>zK O one2 O (J 0 O) O) O<|qQ [(8,_)] O O O O gv1 ⟨O,O,T⟩ (fun g1_3=>zBb O O O) O<|zQ O O (zCj O O O (fun h=>h) O)<|zQ O O (zS O O)<|qQ [] O O O O gv1 T (fun g1_8=>zJ O zPx O) O<|qQ [(12,_)] O O O O gv1 ⟨O,O,T⟩ (fun g1_8=>zK O one2 O (J 0 O) O) O<|qQ [(13,_)] O O O O gv1 ⟨O,O,T⟩ (fun g1_8=>qR O ok304 (frac_inRange _) ⟨zB,O,T⟩) O<|zQ O O (zCj O O O (fun h=>h) O)<|zQ O O (zS O O)<|qQ [] O O O O gv1 T (fun g1_13=>zJ O zPx O) O<|qQ [(17,_)] O O O O gv1 ⟨O,O,T⟩ (fun g1_13=>zK O one2 O (J 0 O) O) O<|qQ [(18,_)] O O O O gv1 ⟨O,O,T⟩ (fun g1_13=>qR O ok306 (frac_magnitude v.N (frV g1_13).2.2.1 (frV g1_13).2.2.2) ⟨zB,O,T⟩) O<|qQ [] O O O O gv1 T (fun g1_13=>zJ O zPw O) O<|qQ [(20,_)] O O O O gv1 ⟨O,O,T⟩ (fun g1_13=>zK O one2 O (J 0 O) O) O<|qQ [(21,_)] O O O O gv1 ⟨O,O,T⟩ (fun g1_13=>zAv O us2 ik154 O) O<|qQ [(19,_),(22,_)] O O O O gv1 ⟨O,O,O,O,T⟩ (fun g1_13=>qR O ok305 (show Pur cfg 305 [vU64 v.N.natAbs,vU64 (IntKind.u64.wrap v.D)] (vU64 (Nat.gcd v.N.natAbs v.D.natAbs)) from by rw [u64_D (frV g1_13).1 (frV g1_13).2.1];exact frac_gcd _ _) ⟨zB,O,zB,O,T⟩) O<|qQ [(23,_)] O O O O gv1 ⟨O,O,T⟩ (fun g1_13=>kC O O O) O<|zQ O O (zCj O O O (fun h=>h) O)<|zQ O O (yV O O)<|kL<|zA<|zG<|zV O ?_
 exact congrArg vB (by rw [show (decide (((Nat.gcd v.N.natAbs v.D.natAbs:Nat):Int)=1))=decide (Int.gcd v.N v.D=1) from decide_eq_decide.2 (by unfold Int.gcd;omega)])
theorem value_Valid (t:Ty) (v:Vl):
    Pur cfg 260 [vTy t,vVal v] (vB (tyOk t&&valOk t v)):=by
 refine zW Tryz.func260 O Tryz.ntmps260 Tryz.results260 O ?_
 intro z hz
 refine Y O<|zZ O O (qO O O) ?_
 rintro _ _ ⟨b1,rfl,rfl⟩
 refine zZ O O (qO O O) ?_
 rintro _ _ ⟨b2,rfl,rfl⟩
 refine G O<|zA<|zH<|Y O<|zM qZ (J 1 O) O<|qK O ok167 (kW _) ⟨zB,O,T⟩<|yM O<|zA<|zE O (fun c1=>?_) (fun c1=>?_)
 ·try simp only [sx] at c1
  have ht:tyOk t=false:=zIi c1
  refine Y O<|G O<|zA<|zG<|zV O ?_
  rw [ht];rfl
 ·try simp only [sx] at c1
  have ht:tyOk t=true:=zAi c1
  refine zF<|zH<|Y O<|zD O zKw<|zI one3 (J 1 O) O<|zA<|zT<|Y O<|yX O<|G O<|zA<|zE O (fun c2=>?_) (fun c2=>?_)
  ·try simp only [sx] at c2
   refine Y O<|zM qZ (J 1 O) O<|zM zGk (J 0 O) O<|qK O ok238 (zPu _ _) ⟨zB,O,zB,O,T⟩<|G O<|zA<|zG<|zV O ?_
   exact congrArg vB (by rw [ht,valOk,c2,←zAs c2,ht];rfl)
  ·try simp only [sx] at c2
   refine Y O<|yX O<|G O<|zA<|zE O (fun c3=>?_) (fun c3=>?_)
   ·try simp only [sx] at c3
    refine Y O<|zD O zPw<|zI one2 (J 0 O) O<|yX O<|G O<|rL0 O (fun g7_3=>zJ O zPx O) O<|rL1 21 O (fun g7_3=>zK O one2 O (J 0 O) O) O<|rL1 22 O (fun g7_3=>qR O ok292 (value_whole _) ⟨zB,O,T⟩) O<|wC O (fun h=>h)<|G O<|zA<|zG<|zV O ?_
    exact congrArg vB (by rw [ht,valOk,wH c2,c3];rfl)
   ·try simp only [sx] at c3
    refine zF<|Y O<|zM zGk (J 0 O) O<|qK O ok293 (frac_Valid _) ⟨zB,O,T⟩<|G O<|zA<|zG<|zV O ?_
    exact congrArg vB (by rw [ht,valOk,wH c2,wH c3];rfl)
theorem value_Zero (t:Ty):
    Pur cfg 191 [vTy t] (vVal (zeroV t)):=by
 refine zW Tryz.func191 O Tryz.ntmps191 Tryz.results191 O ?_
 intro z hz
 refine Y O<|zZ O O (qO O O) ?_
 rintro _ _ ⟨b1,rfl,rfl⟩
 refine zZ O O (qX O zr54) ?_
 rintro _ _ ⟨b2,rfl,rfl⟩
 refine zA<|zH<|Y O<|zM qZ (J 1 O) O<|qK O ok167 (kW _) ⟨zB,O,T⟩<|yM O<|zA<|zE O (fun c1=>?_) (fun c1=>?_)
 ·try simp only [sx] at c1
  refine Y O<|yF O zr54 pl54<|D 0 sz54 O<|zA<|zG<|fin1 (zY zGk O (J 0 O) O) ?_
  rw [zeroV,zIi c1];rfl
 ·try simp only [sx] at c1
  refine zF<|Y O<|yF O zr54 pl54<|D 0 sz54 O<|zA<|zG<|fin1 (zY zGk O (J 0 O) O) ?_
  rw [zeroV,zAi c1];rfl
end Go.W
