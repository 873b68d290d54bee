/-
  Walks: what functions of the program compute. Printed by wip/gen/mk2.py.
  Conditions: none.
-/
import Derived.Test.YtkijgodlhljgdaaGreatDoorVA
import Derived.Test.YtkijgodlhljgdaaGreatDoorPlain2
import Derived.Test.YtkijgodlhljgdaaGreatDoorEngZ
set_option linter.unusedSimpArgs false
set_option linter.unusedVariables false
set_option maxRecDepth 10000
namespace Go.W
open Go Go.Eng Go.Proofs Go.L41 Go.Br
attribute [local irreducible] AWP RWP TD finQ
theorem ok69:callOk Tryz.prog 69=true:=by kernel_rfl
theorem sz22:(Tryz.prog.info? 22).map (·.size)=some 1:=by kernel_rfl
theorem zr22:zeroT Tryz.prog 22=some [(Value.slice none 0 0)]:=by kernel_rfl
theorem zDn (e:Ex) (he:e.wt<=1073741824):
    OwnR cfg 28 [vE e] 9 1 (strRows (indexT e)):=by
 refine zT Tryz.func28 O Tryz.ntmps28 Tryz.results28 O ?_
 intro z hz
 refine B O<|zZ O O (qI O O) ?_
 rintro _ _ ⟨b1,rfl,rfl⟩
 refine zX O (yU 1 O O)<|U<|B O<|zZ O O (yB O zr22) ?_
 rintro _ _ ⟨b2,rfl,rfl⟩
 refine yY _ (kM 9 1)<|U<|zI<|B O<|zL qN (J 2 O) O<|qK O ok67 (zNw _) ⟨Y,O,T⟩<|U<|zP<|zU _ (Weak.mem [true,true,false] O)<|zOj (ps:=[10]) hz (Value) 2 O O ok150 (zLz e (by omega)) (fun _ _=>O) O (fun pre sv=>True) (fun pre sv=>[E.vec sv 9 1 (strRows (namesA pre)),E.row b2 22 [.lit sv]]) ⟨.slice none 0 0,T,O⟩ ?_ ?_
 ·intro pre x suf sv hxs hi z hz
  show AWP _ _ _ _ _ ⟨_,[E.vec sv 9 1 (strRows (namesA pre)),E.row b2 22 [.lit sv]]++_⟩
  have hlen:=namesP_len (pre:=pre++[x]) (suf:=suf) (by rw [hxs];simp)
  rw [namesA_one,List.length_append] at hlen
  have hxw:x.wt<=e.wt:=zEr e x (by rw [hxs];simp)
  refine zS O<|zZ O O (qH [none,none,none,none,none,none,none,none,none,none,some 2,some 4,some 13] O zr38 O) ?_
  rintro _ _ ⟨b4,rfl,rfl⟩
  refine N 0 sz38 O<|U ?_
  intro z hz
  refine zP<|B O<|zL qN (J 0 O) O<|qK O ok68 (expr_forms _) ⟨Y,O,T⟩<|U<|zP<|zU _ (Weak.mem [false,true,true] O)<|zOj (ps:=[13]) hz (Value) 2 O O ok152 (forms_iter x (by omega)) (fun _ _=>O) O (fun pre2 sw=>True) (fun pre2 sw=>[E.vec sw 9 1 (strRows (namesA pre++pre2.flatMap namesF)),E.row b2 22 [.lit sw]]) ⟨sv,T,(by exact zNi (by simp))⟩ ?_ ?_
  ·intro pre2 l suf2 sw hxl hi2 z hz
   show AWP _ _ _ _ _ ⟨_,[E.vec sw 9 1 (strRows (namesA pre++pre2.flatMap namesF)),E.row b2 22 [.lit sw]]++_⟩
   have hl2:=namesX_len (pre:=pre2++[l]) (suf:=suf2) (by rw [hxl];simp)
   have hfl:(namesF l).length=l.L.length:=by unfold namesF;rw [List.length_map]
   rw [namesF_one,List.length_append] at hl2
   refine zS O<|zZ O O (qH [none,some 2] O zr34 O) ?_
   rintro _ _ ⟨b5,rfl,rfl⟩
   refine N 0 sz34 O<|U ?_
   intro z hz
   refine zP<|B O<|zG O wU<|zK zBv (J 0 O) O<|zY O el32<|G O<|U<|zP<|zU ⟨[(17,.c _),(3,.c _),(15,.c _),(16,.c _)],[_,_]⟩ (Weak.mk [false,true,true] ⟨Y,Y,Y,Y,T⟩ O)<|qF 1 2 O O (Nat×Value) (fun ⟨k,sy⟩=>[(17,vI k)]) (fun ⟨k,sy⟩=>[E.vec sy 9 1 (strRows (namesA pre++pre2.flatMap namesF++(l.L.take k).map Mono.Name)),E.row b2 22 [.lit sy]]) (fun ⟨k,sy⟩=>k<=l.L.length) (fun ⟨k,sy⟩=>l.L.length-k) ⟨⟨0,_⟩,(by omega),Weak.mk [true,true] ⟨Y,Y,Y,Y,T⟩ (by exact zNi (by simp))⟩ ?_
   rintro ⟨k,sy⟩ hk
   show AWP _ _ _ _ _ ⟨[(17,vI k)]++_,[E.vec sy 9 1 (strRows (namesA pre++pre2.flatMap namesF++(l.L.take k).map Mono.Name)),E.row b2 22 [.lit sy]]++_⟩
   refine B O<|yA O<|U<|zI<|zE O (fun c1=>?_) (fun c1=>?_)
   ·try simp only [W] at c1
    obtain ⟨m,hm2⟩:=qQ l.L k (by omega)
    refine zJ<|zI<|zP<|B O<|qE O el32 (by omega) (getm (by assumption))<|zL zHa qB O<|zZ O O (yB O zr101) ?_
    rintro _ _ ⟨b6,rfl,rfl⟩
    refine N 0 sz101 O<|U<|zS O<|zK wY (J 2 O) O<|zG O zBj<|zK one9 (J 0 O) O<|yE O el22 zr9<|zZ O O (qY 1 O el22 O O O (by have hkk:=List.length_take_le' k l.L;simp only [List.length_map,List.length_append,List.length_cons,List.length_nil];omega) (by have hkk:=List.length_take_le' k l.L;simp only [List.length_map,List.length_append,List.length_cons,List.length_nil];omega)) ?_
    rintro _ _ ⟨sv7,rfl,rfl⟩
    refine N 2 sz22 O<|U<|zS O<|qJ O ⟨by omega,by omega⟩<|G O<|U ?_
    refine ⟨⟨k+1,_⟩,(by omega),(by show l.L.length-(k+1)<l.L.length-k;omega),Weak.mk [false,true,true] ⟨Y,Y,Y,Y,T⟩ (by exact zNi (by rw [namesM_next hm2];simp [strRows]))⟩
   ·try simp only [W] at c1
    refine qO ?_
    exact zCh (τ:=⟨[],_⟩) (Weak.mk [true,true] T O) ⟨_,T,(by exact zNi (by rw [qX (l:=l.L) (by omega),namesF_one,←List.append_assoc];rfl))⟩
  ·intro sw hd2
   exact zCh (τ:=⟨[],_⟩) (Weak.mk [true,true] T O) ⟨_,T,(by exact zNi (by rw [namesA_one];rfl))⟩
 ·intro sv hd
  refine B O<|zK wY (J 1 O) O<|zZ O O (zKp 0 O O ok69 (expr_sorted sv (namesA (nodes e)) (by have:=zJz e;omega)) ⟨Y,O,T⟩) ?_
  rintro _ _ ⟨sv8,rfl,rfl⟩
  refine G O<|U<|zU _ (Weak.mem [true,false] O)<|zH<|zQ O ?_
  exact ⟨_,O,O⟩
end Go.W
