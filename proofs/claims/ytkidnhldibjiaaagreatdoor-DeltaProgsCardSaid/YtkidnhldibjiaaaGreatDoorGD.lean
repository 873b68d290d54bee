/-
  What functions compute.
  What functions compute.
  What functions compute.
  What functions compute.
  What functions compute.
  What functions compute.
  Conditions: none.
-/
import Derived.Test.YtkidnhldibjiaaaGreatDoorGC
import Derived.Test.YtkidnhldibjiaaaGreatDoorPlain2
import Derived.Test.YtkidnhldibjiaaaGreatDoorGB
import Derived.Test.YtkidnhldibjiaaaGreatDoorEngZ
set_option linter.unusedSimpArgs false
set_option linter.unusedVariables false
section
set_option maxRecDepth 10000
namespace Go.W
open Go Go.Eng Go.Proofs Go.L41 Go.Br
attribute [local irreducible] AWP RWP TD fL
theorem ok61:bA Tryz.prog 61=true:=by kernel_rfl
theorem delta_Solve_ex:Pur cfg 61 [vE exC,vS (bs [107])] (.tup [dK ⟨0,[⟨bs [105],1⟩]⟩,vB true]):=by
  have h:=zSq exC (bs [107]) exC_wt
  rw [solve_ex] at h
  exact h
theorem zJx  :
    Pur cfg 23 [] (vB true):=by
 refine zW Tryz.func23 O Tryz.ntmps23 Tryz.results23 O ?_
 intro z hz
 refine Y O<|G O<|W<|Y O<|yN O zCy pl107<|yV O D zCy<|yN O v pl40<|yF [none,none,none,none,none,none,none,none,none,none,none,some 4,some 13] O zr44 pl44<|yN O zCy pl107<|yV O D zCy<|yN O v pl40<|yF [none,none,none,none,none,none,none,none,none,none,none,some 4,some 13] O zr44 pl44<|zY O O (qF [none,none,none,none,none,none,none,none,none,none,some 2,some 4,some 13] O zr44 O) ?_
 rintro _ _ ⟨b1,rfl,rfl⟩
 refine zY O O (qF [none,none,none,none,none,none,none,none,none,none,some 2,some 4,some 13] O zr44 O) ?_
 rintro _ _ ⟨b2,rfl,rfl⟩
 refine rStR 1 sz44 O<|rStR 0 sz44 O<|W<|Y O<|zP yG (J 1 O) O<|zP yG (J 0 O) O<|yV O el42 zr44<|yF [none,none,none,none,none,none,none,none,none,none,some 2,some 4,none] O zr44 pl44<|qQ O ok61 delta_Solve_ex ⟨U,O,U,O,T⟩<|yH O<|qA O (yA O O O)<|yX O<|zY O O (qF [none,some 2] O v O) ?_
 rintro _ _ ⟨b3,rfl,rfl⟩
 refine rStR 0 sz40 O<|G O<|W<|Y O<|G O<|G O<|rL0 O (fun g3_1=>zE O yP O) O<|rL1 23 O (fun g3_1=>zJ O kQ O (J 0 O) O) O<|rL1 24 O (fun g3_1=>qX O D O) O<|rL1 25 O (fun g3_1=>yM O O O) O<|yZ O (fun h=>h)<|G O<|rL0 O (fun g3_7=>zE O yP O) O<|rL1 29 O (fun g3_7=>zJ O kQ O (J 0 O) O) O<|rL1 30 O (fun g3_7=>qH O D O O (by omega) O) O<|rL1 31 O (fun g3_7=>qP O wF O) O<|rL1 32 O (fun g3_7=>zJ O one9 O qE O) O<|rL1 33 O (fun g3_7=>zLt O O O) O<|yZ O (fun h=>h)<|G O<|W<|zO<|zV O ?_
 exact congrArg (fun b=>V.c (C.lit (Value.bool b))) (by decide)
end Go.W
end
section
set_option maxRecDepth 10000
namespace Go.W
open Go Go.Eng Go.Proofs Go.L41 Go.Br
attribute [local irreducible] AWP RWP TD fL
theorem ok172:bA Tryz.prog 172=true:=by kernel_rfl
theorem ok173:bA Tryz.prog 173=true:=by kernel_rfl
theorem ok179:bA Tryz.prog 179=true:=by kernel_rfl
theorem ok180:bA Tryz.prog 180=true:=by kernel_rfl
theorem zJd (c:Ex) (ih:∀x,x∈c.Args->dQ x=0->x.wt<=4294967296->OwnR cfg 173 [vE x] 44 13 ((gA x).map Ex.cells)) (hp:dQ c=0) (hw:c.wt<=4294967296):
    OwnR cfg 173 [vE c] 44 13 ((gA c).map Ex.cells):=by
 refine zW Tryz.func173 O Tryz.ntmps173 Tryz.results173 O ?_
 intro z hz
 refine Y O<|zY O O (qN O O) ?_
 rintro _ _ ⟨b1,rfl,rfl⟩
 refine qA O (yQ 13 O O)<|W<|zM<|Y O<|zF O kE<|zK one3 (J 0 O) O<|yW O<|W<|zH O (fun c1=>?_) (fun c1=>?_)
 ·try simp only [sx] at c1
  refine Y O<|zP yG (J 0 O) O<|zY O O (zAa O el42 zr44 O O O O) ?_
  rintro _ _ ⟨sv2,rfl,rfl⟩
  refine G O<|W<|qC _ (Weak.mem [true,false] O)<|zO<|zV O ?_
  exact ⟨_,O,by rw [conj_one c1,←map_cs];rfl⟩
 ·try simp only [sx] at c1
  obtain ⟨a,b,hab,hPa,hPb⟩:=zKt hp (by rw [c1];rfl)
  have ha0:c.Args[0]? =some a:=by rw [hab];rfl
  have hb0:c.Args[1]? =some b:=by rw [hab];rfl
  have hwa:=Ex.arg_wt (zX ha0)
  have hwb:=Ex.arg_wt (zX hb0)
  have hla:=zLw a
  have hlb:=zLw b
  refine zN<|zM<|zIx 10 [.q,.q,.q,.q,.f,.q,.q,.q,.q,.q] tA mixed (by kernel_rfl) O O O<|yS O O (zE O kO O)<|yS O O (zJ O zAj O (J 0 O) O)<|yS O O (qH O el42 O O (by omega) (zBj ha0))<|yS O O (zU O yG O qE O)<|zGo<|yS O O (zE O kO O)<|yS O O (zJ O zAj O (J 0 O) O)<|yS O O (qH O el42 O O (by omega) (zBj hb0))<|yS O O (zU O yG O qE O)<|yS O O (qL O ok173 (OwnR.pur (ih b (zX hb0) hPb (by omega))) ⟨U,O,T⟩)<|zJo<|wN<|wN<|wN<|wN<|zEm (fresh_own (zCf O ok173 (ih a (zX ha0) hPa (by omega)) ⟨U,O,T⟩))<|wN<|wN<|wN<|wN<|wN<|zJp<|zDh ?_
  rintro _ _ ⟨sv3,rfl,rfl⟩
  refine zEy ?_
  refine ⟨_,qV 0 O el42 O O O (by first|omega|(simp only [List.length_append,List.length_nil];omega)) (by first|omega|(simp only [List.length_append,List.length_nil];omega)),(fun _ _ _=>T),?_⟩
  rintro _ _ ⟨sv4,rfl,rfl⟩
  refine G O<|W<|qC _ (Weak.mem [true,false] O)<|zO<|zV O ?_
  exact ⟨_,O,by rw [conj_two c1 hab,List.map_append];rfl⟩
theorem zSp (c:Ex) (hp:dQ c=0) (hw:c.wt<=4294967296):OwnR cfg 173 [vE c] 44 13 ((gA c).map Ex.cells):=by
  induction c using Ex.ind with
  |_ c ih=>exact zJd c (fun x hx h1 h2=>ih x hx h1 h2) hp hw
theorem zJc (c:Ex) (ih:∀x,x∈c.Args->dQ x=0->x.wt<=4294967296->OwnR cfg 180 [vE x] 44 13 ((gA x).map Ex.cells)) (hp:dQ c=0) (hw:c.wt<=4294967296):
    OwnR cfg 180 [vE c] 44 13 ((gA c).map Ex.cells):=by
 refine zW Tryz.func180 O Tryz.ntmps180 Tryz.results180 O ?_
 intro z hz
 refine Y O<|zY O O (qN O O) ?_
 rintro _ _ ⟨b1,rfl,rfl⟩
 refine qA O (yQ 13 O O)<|W<|zM<|Y O<|zF O kE<|zK one3 (J 0 O) O<|yW O<|W<|zH O (fun c1=>?_) (fun c1=>?_)
 ·try simp only [sx] at c1
  refine Y O<|zP yG (J 0 O) O<|zY O O (zAa O el42 zr44 O O O O) ?_
  rintro _ _ ⟨sv2,rfl,rfl⟩
  refine G O<|W<|qC _ (Weak.mem [true,false] O)<|zO<|zV O ?_
  exact ⟨_,O,by rw [conj_one c1,←map_cs];rfl⟩
 ·try simp only [sx] at c1
  obtain ⟨a,b,hab,hPa,hPb⟩:=zKt hp (by rw [c1];rfl)
  have ha0:c.Args[0]? =some a:=by rw [hab];rfl
  have hb0:c.Args[1]? =some b:=by rw [hab];rfl
  have hwa:=Ex.arg_wt (zX ha0)
  have hwb:=Ex.arg_wt (zX hb0)
  have hla:=zLw a
  have hlb:=zLw b
  refine zN<|Y O<|G O<|yE _ (yU 44 13)<|W<|Y O<|G O<|zF O kO<|zK zAj (J 1 O) O<|qJ O el42 (by omega) (zBj ha0)<|zP yG qE O<|qQ O ok180 (OwnR.pur (ih a (zX ha0) hPa (by omega))) ⟨U,O,T⟩<|zY O O (qV 0 O el42 O O O (by first|omega|(simp only [List.length_append,List.length_nil];omega)) (by first|omega|(simp only [List.length_append,List.length_nil];omega))) ?_
  rintro _ _ ⟨sv4,rfl,rfl⟩
  refine G O<|W<|Y O<|G O<|zF O kO<|zK zAj (J 1 O) O<|qJ O el42 (by omega) (zBj hb0)<|zP yG qE O<|qQ O ok180 (OwnR.pur (ih b (zX hb0) hPb (by omega))) ⟨U,O,T⟩<|zY O O (qV 0 O el42 O O O (by first|omega|(simp only [List.length_append,List.length_nil];omega)) (by first|omega|(simp only [List.length_append,List.length_nil];omega))) ?_
  rintro _ _ ⟨sv5,rfl,rfl⟩
  refine G O<|W<|Y O<|G O<|G O<|W<|qC _ (Weak.mem [true,false] O)<|zO<|zV O ?_
  exact ⟨_,O,by rw [conj_two c1 hab,List.map_append];rfl⟩
theorem zQn (c:Ex) (hp:dQ c=0) (hw:c.wt<=4294967296):OwnR cfg 180 [vE c] 44 13 ((gA c).map Ex.cells):=by
  induction c using Ex.ind with
  |_ c ih=>exact zJc c (fun x hx h1 h2=>ih x hx h1 h2) hp hw
theorem delta_Guard (e:Ex) (he:e.wt<=4294967296):
    Pur cfg 119 [vE e] (.tup [vEs (bC e).conds,vE (bC e).val,vB (bC e).ok]):=by
 refine zW Tryz.func119 O Tryz.ntmps119 Tryz.results119 O ?_
 intro z hz
 refine Y O<|zY O O (qN O O) ?_
 rintro _ _ ⟨b1,rfl,rfl⟩
 refine qA O (yQ 13 O O)<|zY O O (qF [none,none,none,none,none,none,none,none,none,none,some 2,some 4,some 13] O zr44 O) ?_
 rintro _ _ ⟨b2,rfl,rfl⟩
 refine G O<|W<|zM<|Y O<|zP yG (J 1 O) O<|qQ O ok113 (zEc e (by omega)) ⟨U,O,T⟩<|yW O<|G O<|rL0 O (fun g1_3=>zE O kE O) O<|rL1 10 O (fun g1_3=>zJ O one3 O (J 1 O) O) O<|rL1 11 O (fun g1_3=>zAg O O O) O<|r_or O (fun h=>(lzf h))<|W<|zH O (fun c1=>?_) (fun c1=>?_)
 ·try simp only [sx] at c1
  have hS:bC e=zG:=by simp only [bC,guard_c1 c1];rfl
  refine Y O<|yF [none,none,none,none,none,none,none,none,none,none,some 2,some 4,some 13] O zr44 pl44<|qA O (yQ 13 O O)<|rStR 0 sz44 O<|G O<|W<|zO<|fin3 (rs_c O) (zZ yG O (J 0 O) O) (rs_c O) ?_
  rw [hS];rfl
 ·try simp only [sx] at c1
  obtain ⟨hv,hop⟩:=c1
  have hP:=wS hv
  obtain ⟨a,b,z,habc,hPa,hPb,hPz⟩:=zMk hP (by rw [hop];rfl)
  have ha0:e.Args[0]? =some a:=by rw [habc];rfl
  have hb0:e.Args[1]? =some b:=by rw [habc];rfl
  have hz0:e.Args[2]? =some z:=by rw [habc];rfl
  have hwa:=Ex.arg_wt (zX ha0)
  have hS:bC e=lN a b z:=by simp only [bC,hv,hop,bT,habc];rfl
  refine zN<|Y O<|zF O kO<|zK zAj (J 1 O) O<|qJ O el42 (by omega) (zBj hz0)<|zP yG qE O<|zY O O (qF [none,none,none,none,none,none,none,none,none,none,some 2,some 4,some 13] O zr44 O) ?_
  rintro _ _ ⟨b3,rfl,rfl⟩
  refine rStR 0 sz44 O<|W<|zM<|zM<|qW 11 mixed (by kernel_rfl) O O<|zQ O O (zE O kE O)<|zQ O O (zJ O one3 O (J 0 O) O)<|zQ O O (zAg O O O)<|zQ O O (zS O O)<|qI [] O O O O gv1 T (fun g4_3=>zE O zHe O) O<|qI [(23,_)] O O O O gv1 ⟨O,O,T⟩ (fun g4_3=>zU O zJe O (J 0 O) O) O<|qI [] O O O O gv1 T (fun g4_3=>zE O zCw O) O<|qI [(25,_)] O O O O gv1 ⟨O,O,T⟩ (fun g4_3=>zU O yO O (J 0 O) O) O<|qI [(26,_)] O O O O gv1 ⟨O,O,T⟩ (fun g4_3=>qL O ok172 (value_Zero _) ⟨U,O,T⟩) O<|qI [(24,_),(27,_)] O O O O gv1 ⟨O,O,O,O,T⟩ (fun g4_3=>zBg O fl35 O O O) O<|zQ O O (zBc O O O O (fun h=>(lzf h)))<|yR<|W<|zH O (fun c2=>?_) (fun c2=>?_)
  ·refine Y O<|yF [none,none,none,none,none,none,none,none,none,none,some 2,some 4,some 13] O zr44 pl44<|qA O (yQ 13 O O)<|rStR 1 sz44 O<|G O<|W<|zO<|fin3 (rs_c O) (zZ yG O (J 1 O) O) (rs_c O) ?_
   rw [hS,lN,guard_no c2];rfl
  ·refine zN<|Y O<|zP yG (J 2 O) O<|qQ O ok32 (zSg e he) ⟨U,O,T⟩<|rStR 2 sz44 O<|W<|zM<|qW 10 mixed (by kernel_rfl) O O<|zQ O O (zE O kO O)<|zQ O O (zJ O zAj O (J 2 O) O)<|zQ O O (qH O el42 O O (by omega) (zBj ha0))<|zQ O O (zU O yG O qE O)<|zQ O O (qL O ok173 (OwnR.pur (zSp a hPa (by omega))) ⟨U,O,T⟩)<|zQ O O (zE O kO O)<|zQ O O (zJ O zAj O (J 2 O) O)<|zQ O O (qH O el42 O O (by omega) (zBj hb0))<|zQ O O (zU O yG O qE O)<|zQ O O (yY O O)<|yR<|rStR 1 sz44 O<|G O<|W<|zO<|fin3 (rs_c O) (zZ yG O (J 1 O) O) (rs_c O) ?_
   rw [hS,lN,guard_yes c2];rfl
theorem ref22_Guard (e:Ex) (he:e.wt<=4294967296):
    Pur cfg 133 [vE e] (.tup [vEs (bC e).conds,vE (bC e).val,vB (bC e).ok]):=by
 refine zW Tryz.func133 O Tryz.ntmps133 Tryz.results133 O ?_
 intro z hz
 refine Y O<|zY O O (qN O O) ?_
 rintro _ _ ⟨b1,rfl,rfl⟩
 refine qA O (yQ 13 O O)<|zY O O (qF [none,none,none,none,none,none,none,none,none,none,some 2,some 4,some 13] O zr44 O) ?_
 rintro _ _ ⟨b2,rfl,rfl⟩
 refine G O<|W<|zM<|Y O<|zP yG (J 1 O) O<|qQ O ok160 (zDi e (by omega)) ⟨U,O,T⟩<|yW O<|G O<|rL0 O (fun g1_3=>zE O kE O) O<|rL1 10 O (fun g1_3=>zJ O one3 O (J 1 O) O) O<|rL1 11 O (fun g1_3=>zAg O O O) O<|r_or O (fun h=>(lzf h))<|W<|zH O (fun c1=>?_) (fun c1=>?_)
 ·try simp only [sx] at c1
  have hS:bC e=zG:=by simp only [bC,guard_c1 c1];rfl
  refine Y O<|yF [none,none,none,none,none,none,none,none,none,none,some 2,some 4,some 13] O zr44 pl44<|qA O (yQ 13 O O)<|rStR 0 sz44 O<|G O<|W<|zO<|fin3 (rs_c O) (zZ yG O (J 0 O) O) (rs_c O) ?_
  rw [hS];rfl
 ·try simp only [sx] at c1
  obtain ⟨hv,hop⟩:=c1
  have hP:=wS hv
  obtain ⟨a,b,z,habc,hPa,hPb,hPz⟩:=zMk hP (by rw [hop];rfl)
  have ha0:e.Args[0]? =some a:=by rw [habc];rfl
  have hb0:e.Args[1]? =some b:=by rw [habc];rfl
  have hz0:e.Args[2]? =some z:=by rw [habc];rfl
  have hwa:=Ex.arg_wt (zX ha0)
  have hS:bC e=lN a b z:=by simp only [bC,hv,hop,bT,habc];rfl
  refine zN<|Y O<|zF O kO<|zK zAj (J 1 O) O<|qJ O el42 (by omega) (zBj hz0)<|zP yG qE O<|zY O O (qF [none,none,none,none,none,none,none,none,none,none,some 2,some 4,some 13] O zr44 O) ?_
  rintro _ _ ⟨b3,rfl,rfl⟩
  refine rStR 0 sz44 O<|W<|zM<|zM<|qW 11 mixed (by kernel_rfl) O O<|zQ O O (zE O kE O)<|zQ O O (zJ O one3 O (J 0 O) O)<|zQ O O (zAg O O O)<|zQ O O (zS O O)<|qI [] O O O O gv1 T (fun g4_3=>zE O zHe O) O<|qI [(23,_)] O O O O gv1 ⟨O,O,T⟩ (fun g4_3=>zU O zJe O (J 0 O) O) O<|qI [] O O O O gv1 T (fun g4_3=>zE O zCw O) O<|qI [(25,_)] O O O O gv1 ⟨O,O,T⟩ (fun g4_3=>zU O yO O (J 0 O) O) O<|qI [(26,_)] O O O O gv1 ⟨O,O,T⟩ (fun g4_3=>qL O ok179 (ref04_Zero _) ⟨U,O,T⟩) O<|qI [(24,_),(27,_)] O O O O gv1 ⟨O,O,O,O,T⟩ (fun g4_3=>zBg O fl35 O O O) O<|zQ O O (zBc O O O O (fun h=>(lzf h)))<|yR<|W<|zH O (fun c2=>?_) (fun c2=>?_)
  ·refine Y O<|yF [none,none,none,none,none,none,none,none,none,none,some 2,some 4,some 13] O zr44 pl44<|qA O (yQ 13 O O)<|rStR 1 sz44 O<|G O<|W<|zO<|fin3 (rs_c O) (zZ yG O (J 1 O) O) (rs_c O) ?_
   rw [hS,lN,guard_no c2];rfl
  ·refine zN<|zM<|qW 10 mixed (by kernel_rfl) O O<|zQ O O (zE O kO O)<|zQ O O (zJ O zAj O (J 2 O) O)<|zQ O O (qH O el42 O O (by omega) (zBj ha0))<|zQ O O (zU O yG O qE O)<|zQ O O (qL O ok180 (OwnR.pur (zQn a hPa (by omega))) ⟨U,O,T⟩)<|zQ O O (zE O kO O)<|zQ O O (zJ O zAj O (J 2 O) O)<|zQ O O (qH O el42 O O (by omega) (zBj hb0))<|zQ O O (zU O yG O qE O)<|zQ O O (yY O O)<|yR<|rStR 1 sz44 O<|G O<|W<|zO<|fin3 (rs_c O) (zZ yG O (J 1 O) O) (rs_c O) ?_
   rw [hS,lN,guard_yes c2];rfl
end Go.W
end
section
set_option maxRecDepth 10000
namespace Go.W
open Go Go.Eng Go.Proofs Go.L41 Go.Br
attribute [local irreducible] AWP RWP TD fL
theorem ok37:bA Tryz.prog 37=true:=by kernel_rfl
theorem ok83:bA Tryz.prog 83=true:=by kernel_rfl
theorem ok86:bA Tryz.prog 86=true:=by kernel_rfl
theorem ok117:bA Tryz.prog 117=true:=by kernel_rfl
theorem ok122:bA Tryz.prog 122=true:=by kernel_rfl
theorem ok174:bA Tryz.prog 174=true:=by kernel_rfl
theorem ok175:bA Tryz.prog 175=true:=by kernel_rfl
theorem ok232:bA Tryz.prog 232=true:=by kernel_rfl
theorem pl101:fR Tryz.prog 101=some [(0,2),(2,1)]:=by kernel_rfl
theorem pl111:fR Tryz.prog 111=some [(0,1),(1,2)]:=by kernel_rfl
theorem sz23:(Tryz.prog.info? 23).map (·.size)=some 1:=by kernel_rfl
theorem sz24:(Tryz.prog.info? 24).map (·.size)=some 1:=by kernel_rfl
theorem sz61:(Tryz.prog.info? 61).map (·.size)=some 1:=by kernel_rfl
theorem zJs (rows:List (List C)) (g cap i j:Nat) (hij:i<j) (hj:j<=rows.length) (hcap:rows.length<=cap) (hcm:cap<=maxLen):
    Con cfg 127 ([]++ .c (.lit (.slice (some ⟨g,0,none⟩) rows.length cap))::[vI i,vI j]) [.vec (.slice (some ⟨g,0,none⟩) rows.length cap) 111 3 rows] fun r μ'=>∃sv',r=.c (.lit sv')/\μ'=[.vec sv' 111 3 (rows.take i++rows.drop j)]:=by
 refine zW Tryz.func127 O Tryz.ntmps127 Tryz.results127 O ?_
 intro z hz
 have hml:maxLen=9223372036854775807:=rfl
 have hlr:(rows.take i++rows.drop j).length=i+(rows.length-j):=by rw [List.length_append,List.length_take,List.length_drop];omega
 refine Y O<|qA O (yQ 3 O O)<|W<|Y O<|G O<|G O<|G O<|G O<|qA O (zEv 0 O N O O)<|qA O (det_cut3_un i j rows.length O N O O O O (by omega) (by omega) hcap)<|W<|zM<|Y O<|G O<|G O<|yK O<|W<|zH O (fun c1=>?_) (fun c1=>?_)
 ·try simp only [sx] at c1
  exact absurd c1 (by omega)
 ·try simp only [sx] at c1
  refine zN<|Y O<|G O<|qA O (zEv 0 O N O O)<|G O<|W<|zM<|qW 6 mixed (by kernel_rfl) O O<|zQ O O (zS O O)<|zQ O O (zS O O)<|zQ O O (zKd 0 i O N O O ⟨.i64,_,O,O⟩ (by omega) (by omega))<|zQ O O (zS O O)<|zQ O O (zS O O)<|zQ O O (zKd j rows.length O N O ⟨.i64,_,O,O⟩ O (by omega) (by omega))<|yR<|qA O (zSm 0 O N (by exact congrArg (fun z=>V.c (.lit (.slice (some z) (i-0) (cap-0)))) (ite_self _)) O O O (by omega) (by omega) hcap (by omega))<|G O<|W<|Y O<|G O<|G O<|qA O (zEv 0 O N O O)<|G O<|qA O (zKd (i+(rows.length-j)) rows.length O N O ⟨.i64,_,O,by simp only [List.length_append,List.length_take,List.length_drop];omega⟩ ⟨.i64,_,O,O⟩ (by omega) (by omega))<|zFa O O (zOt 0 O N zJb O O hlr.symm (by omega) (by omega))<|W<|Y O<|G O<|G O<|W<|zO<|zV O ?_
  exact ⟨_,O,O⟩
theorem zOn (sv:Value) (rows:List (List C)) (i j:Nat) (hij:i<j) (hj:j<=rows.length):Con cfg 127 [.c (.lit sv),vI i,vI j] [.vec sv 111 3 rows] fun r μ'=>∃sv',r=.c (.lit sv')/\μ'=[.vec sv' 111 3 (rows.take i++rows.drop j)]:=
  Con.spell (xs:=[]) (ys:=[vI i,vI j]) (φ:=[]) (by rintro rfl;simp at hj;omega) fun g cap h1 h2 _=>zJs rows g cap i j hij hj h1 h2
theorem zHo (l:List Ax) (hl:l.length<=4294967296):
    OwnR cfg 126 [.c (.sl 3 (l.map Ax.cells))] 111 3 (l.map Ax.cells):=by
 refine zW Tryz.func126 O Tryz.ntmps126 Tryz.results126 O ?_
 intro z hz
 refine Y O<|qA O (yQ 3 O O)<|W<|zM<|Y O<|G O<|zY O O (zFy O N O O) ?_
 rintro _ _ ⟨nb1,rfl,hnil1,rfl⟩
 refine W<|zH O (fun c1=>?_) (fun c1=>?_)
 ·try simp only [sx] at c1
  refine Y O<|G O<|yE _ (yU 111 3)<|W<|zO<|zV O ?_
  exact ⟨_,O,by rw [hnil1 c1]⟩
 ·try simp only [sx] at c1
  refine zN<|Y O<|zY O O (zAa O N zJb O O O O) ?_
  rintro _ _ ⟨sv3,rfl,rfl⟩
  refine G O<|zY O O (qV 0 O N O O O (by simp only [List.length_map,List.length_nil,Nat.zero_add];omega) (by simp only [List.length_map,List.length_nil,Nat.zero_add];omega)) ?_
  rintro _ _ ⟨sv4,rfl,rfl⟩
  refine G O<|W<|zO<|zV O ?_
  exact ⟨_,O,O⟩
theorem zBx (l:List ByteArray) (hl:l.length<=4294967296):
    OwnR cfg 83 [.c (.sl 1 (l.map fun s=>[cS s]))] 9 1 (l.map (fun s=>[cS s])):=by
 refine zW Tryz.func83 O Tryz.ntmps83 Tryz.results83 O ?_
 intro z hz
 refine Y O<|qA O (yQ 1 O O)<|W<|zM<|Y O<|G O<|zY O O (zFy O el22 O O) ?_
 rintro _ _ ⟨nb1,rfl,hnil1,rfl⟩
 refine W<|zH O (fun c1=>?_) (fun c1=>?_)
 ·try simp only [sx] at c1
  refine Y O<|G O<|yE _ (yU 9 1)<|W<|zO<|zV O ?_
  exact ⟨_,O,by rw [hnil1 c1]⟩
 ·try simp only [sx] at c1
  refine zN<|Y O<|zY O O (zAa O el22 zr9 O O O O) ?_
  rintro _ _ ⟨sv3,rfl,rfl⟩
  refine G O<|zY O O (qV 0 O el22 O O O (by simp only [List.length_map,List.length_nil,Nat.zero_add];omega) (by simp only [List.length_map,List.length_nil,Nat.zero_add];omega)) ?_
  rintro _ _ ⟨sv4,rfl,rfl⟩
  refine G O<|W<|zO<|zV O ?_
  exact ⟨_,O,O⟩
theorem zBz (l:List Ax) (hl:l.length<=4294967296) (hx0:∀x,x∈l->x.Size.L.length<=5864062014805):
    OwnR cfg 86 [.c (.sl 3 (l.map Ax.cells))] 111 3 (l.map Ax.cells):=by
 refine zW Tryz.func86 O Tryz.ntmps86 Tryz.results86 O ?_
 intro z hz
 refine Y O<|qA O (yQ 3 O O)<|W<|Y O<|G O<|yE _ (yU 111 3)<|W<|zM<|Y O<|G O<|qB O N<|G O<|W<|zR<|qC ⟨[(8,.c _),(3,.c _),(6,.c _),(7,.c _)],[_]⟩ (Weak.mk [true] ⟨U,U,U,U,T⟩ O)<|qG 2 1 O O (Nat×Value) (fun ⟨k,sv⟩=>[(8,vI k),(3,.c (.lit sv))]) (fun ⟨k,sv⟩=>[E.vec sv 111 3 ((l.take k).map Ax.cells)]) (fun ⟨k,sv⟩=>k<=l.length) (fun ⟨k,sv⟩=>l.length-k) ⟨⟨0,(.slice none 0 0)⟩,(by omega),Weak.mk [true] ⟨U,U,U,U,T⟩ O⟩ ?_
 rintro ⟨k,sv⟩ hk
 show AWP _ _ _ _ _ ⟨[(8,vI k),(3,.c (.lit sv))]++_,[E.vec sv 111 3 ((l.take k).map Ax.cells)]++_⟩
 refine Y O<|yI O<|W<|zM<|zH O (fun c1=>?_) (fun c1=>?_)
 ·try simp only [sx] at c1
  obtain ⟨x,hx⟩:=qU l k (by omega)
  refine zN<|zM<|zR<|Y O<|qJ O N (by omega) (getm (by assumption))<|zP zMf qE O<|zY O O (qF [none,none,some 2] O zJb O) ?_
  rintro _ _ ⟨b2,rfl,rfl⟩
  refine rStR 0 sz111 O<|W<|qW 8 mixed (by kernel_rfl) O O<|zQ O O (zS O O)<|zQ O O (zE O zAm O)<|zQ O O (zJ O one9 O (J 0 O) O)<|zQ O O (zE O zEu O)<|zQ O O (zU O yB O (J 0 O) O)<|zQ O O (qL O ok84 (zBb _ (hx0 _ (zX hx))) ⟨U,O,T⟩)<|zQ O O (kW O zJb pl111 O)<|zQ O O (wG O N zJb O O O O)<|yR<|zY O O (qV 1 O N O O O (by first|omega|(simp only [List.length_take,List.length_map,List.length_append,List.length_nil,List.length_cons];omega)) (by first|omega|(simp only [List.length_take,List.length_map,List.length_append,List.length_nil,List.length_cons];omega))) ?_
  rintro _ _ ⟨sv3,rfl,rfl⟩
  refine G O<|W<|zT O<|qK O ⟨by omega,by omega⟩<|G O<|W ?_
  refine ⟨⟨k+1,sv3⟩,(by omega),(by show l.length-(k+1)<l.length-k;omega),Weak.mk [false,true] ⟨U,U,U,U,T⟩ (by exact mem1_eq (by rw [qT hx,List.map_append];rfl))⟩
 ·try simp only [sx] at c1
  refine qO<|Y O<|G O<|G O<|W<|zO<|zV O ?_
  exact ⟨_,O,by rw [qY (by omega)];rfl⟩
theorem program_Copy (p:Pg) (hP:p.OkC):
    Pur cfg 37 [vPg p] (vPg p):=by
 refine zW Tryz.func37 O Tryz.ntmps37 Tryz.results37 O ?_
 intro z hz
 have hP1:=hP.wh
 have hP2:=hP.params
 have hP3:=hP.defs
 refine Y O<|zY O O (qN O O) ?_
 rintro _ _ ⟨b1,rfl,rfl⟩
 refine zY O O (qF [some 1,some 3,some 7,some 22,some 1] O zr27 O) ?_
 rintro _ _ ⟨b2,rfl,rfl⟩
 refine W<|zM<|kI 8 1 [⟨0,.q []⟩,⟨1,.q [2]⟩,⟨2,.q []⟩,⟨3,.q []⟩,⟨4,.q [2]⟩,⟨5,.q []⟩,⟨6,.q []⟩,⟨7,.f 0⟩] mixed (by kernel_rfl) (by kernel_rfl) O O O<|qD O<|qD O<|qD O<|qD O<|qD O<|qD O<|qD O<|zGv O O (wH (yJ O zr27)) ⟨_,_,0,O,O⟩<|zBq<|qM O (by decide) O O (zE O zCl O)<|qM O (by decide) O O (zJ O zBn O (J 0 O) O)<|qM O (by decide) O O (qL O ok83 (OwnR.pur (zBx p.Sizes hP.sizes)) ⟨U,O,T⟩)<|qM O (by decide) O O (zE O zFh O)<|qM O (by decide) O O (zJ O zBn O (J 0 O) O)<|qM O (by decide) O O (qL O ok83 (OwnR.pur (zBx p.Outs hP.outs)) ⟨U,O,T⟩)<|qM O (by decide) O O (kW O zr27 pl27 O)<|zGr O O ?_
 rintro _ _ ⟨b3,rfl,rfl⟩
 refine zBp O<|rStR 0 sz27 O<|W<|zM<|Y O<|yE _ (yU 101 3)<|yE _ (yU 67 7)<|yE _ (yU 63 22)<|zF O zBu<|zK zHj (J 5 O) O<|qB O el23<|G O<|W<|zR<|qC ⟨[(20,.c _),(1,.c _),(2,.c _),(3,.c _),(18,.c _),(19,.c _)],[_,_,_,_,_,_]⟩ (Weak.mk [true,true,true,true,true,true] ⟨U,U,U,U,U,U,T⟩ O)<|qG 1 4 O O (Nat×Value) (fun ⟨k,sv⟩=>[(20,vI k)]) (fun ⟨k,sv⟩=>[E.vec (.slice none 0 0) 63 22 ([]),E.vec (.slice none 0 0) 67 7 ([]),E.vec sv 101 3 ((p.Where.take k).map Cn.cells),E.row b3 27 [.sl 1 (p.Sizes.map fun s=>[cS s]),.lit sv,.lit (.slice none 0 0),.lit (.slice none 0 0),.sl 1 (p.Outs.map fun s=>[cS s])]]) (fun ⟨k,sv⟩=>k<=p.Where.length) (fun ⟨k,sv⟩=>p.Where.length-k) ⟨⟨0,(.slice none 0 0)⟩,(by omega),Weak.mk [true,true,true,true,true,true] ⟨U,U,U,U,U,U,T⟩ O⟩ ?_
 rintro ⟨k,sv⟩ hk
 show AWP _ _ _ _ _ ⟨[(20,vI k)]++_,[E.vec (.slice none 0 0) 63 22 ([]),E.vec (.slice none 0 0) 67 7 ([]),E.vec sv 101 3 ((p.Where.take k).map Cn.cells),E.row b3 27 [.sl 1 (p.Sizes.map fun s=>[cS s]),.lit sv,.lit (.slice none 0 0),.lit (.slice none 0 0),.sl 1 (p.Outs.map fun s=>[cS s])]]++_⟩
 refine Y O<|yI O<|W<|zM<|zH O (fun c1=>?_) (fun c1=>?_)
 ·try simp only [sx] at c1
  obtain ⟨x,hx⟩:=qU p.Where k (by omega)
  refine zN<|zM<|zR<|Y O<|qJ O el23 (by omega) (getm (by assumption))<|zP zTe qE O<|zY O O (qF [none,some 2,none] O zr101 O) ?_
  rintro _ _ ⟨b4,rfl,rfl⟩
  refine rStR 0 sz101 O<|W<|qW 9 mixed (by kernel_rfl) O O<|zQ O O (zE O zBu O)<|zQ O O (zJ O zHj O (J 4 O) O)<|zQ O O (zE O zGw O)<|zQ O O (zU O yB O (J 0 O) O)<|zQ O O (qL O ok84 (zBb x.Lin (hP.whs x (zX hx))) ⟨U,O,T⟩)<|zQ O O (zE O zSb O)<|zQ O O (zJ O one4 O (J 0 O) O)<|zQ O O (kW O zr101 pl101 O)<|zQ O O (wG O el23 zr101 O O O O)<|yR<|zY O O (qV 3 O el23 O O O (by simp only [List.length_take,List.length_map,List.length_append,List.length_cons,List.length_nil];omega) (by simp only [List.length_take,List.length_map,List.length_append,List.length_cons,List.length_nil];omega)) ?_
  rintro _ _ ⟨sv5,rfl,rfl⟩
  refine zF O zBu<|rStR 4 sz23 O<|W<|zT O<|qK O ⟨by omega,by omega⟩<|G O<|W ?_
  refine ⟨⟨k+1,sv5⟩,(by omega),(by show p.Where.length-(k+1)<p.Where.length-k;omega),Weak.mk [false,true,true,true,true,true,true] ⟨U,U,U,U,U,U,T⟩ (by exact mem4_eq (by rw [qT hx,List.map_append];rfl))⟩
 ·try simp only [sx] at c1
  rw [qY (l:=p.Where) (k:=k) (by omega)]
  refine qC _ (yC 2 O (regs':=[]) (μ':=[_,_,_,_,_]) T ⟨EFle.refl _,EFle.refl _,EFle.row (ds:=[_,_,_,_,_]) ⟨.inl O,.inr ⟨O,O⟩,.inl O,.inl O,.inl O,T⟩,EFle.refl _,EFle.refl _,T⟩)<|qO<|zM<|Y O<|zF O wM<|zK zBm (J 4 O) O<|qB O el24<|G O<|W<|zR<|qC ⟨[(39,.c _),(1,.c _),(2,.c _),(3,.c _),(37,.c _),(38,.c _)],[_,_,_,_,_]⟩ (Weak.mk [true,true,true,true,true] ⟨U,U,U,U,U,U,T⟩ O)<|qG 1 3 O O (Nat×Value) (fun ⟨k,sw⟩=>[(39,vI k)]) (fun ⟨k,sw⟩=>[E.vec (.slice none 0 0) 63 22 ([]),E.vec sw 67 7 ((p.Params.take k).map Pm.cells),E.row b3 27 [.sl 1 (p.Sizes.map fun s=>[cS s]),.sl 3 (p.Where.map Cn.cells),.lit sw,.lit (.slice none 0 0),.sl 1 (p.Outs.map fun s=>[cS s])]]) (fun ⟨k,sw⟩=>k<=p.Params.length) (fun ⟨k,sw⟩=>p.Params.length-k) ⟨⟨0,(.slice none 0 0)⟩,(by omega),Weak.mk [true,true,true,true,true] ⟨U,U,U,U,U,U,T⟩ O⟩ ?_
  rintro ⟨k,sw⟩ hk
  show AWP _ _ _ _ _ ⟨[(39,vI k)]++_,[E.vec (.slice none 0 0) 63 22 ([]),E.vec sw 67 7 ((p.Params.take k).map Pm.cells),E.row b3 27 [.sl 1 (p.Sizes.map fun s=>[cS s]),.sl 3 (p.Where.map Cn.cells),.lit sw,.lit (.slice none 0 0),.sl 1 (p.Outs.map fun s=>[cS s])]]++_⟩
  refine Y O<|yI O<|W<|zM<|zH O (fun c2=>?_) (fun c2=>?_)
  ·try simp only [sx] at c2
   obtain ⟨y,hy⟩:=qU p.Params k (by omega)
   refine zN<|zM<|zR<|Y O<|qJ O el24 (by omega) (getm (by assumption))<|zP agg67 qE O<|zY O O (qF [none,none,none,none,none,none,some 2] O zr67 O) ?_
   rintro _ _ ⟨b6,rfl,rfl⟩
   refine rStR 0 sz67 O<|W<|Y O<|zF O zCj<|zK zAp (J 0 O) O<|qQ O ok85 (OwnR.pur (zDb y.Dims (hP.ps y (zX hy)).1 (hP.ps y (zX hy)).2)) ⟨U,O,T⟩<|zF O zCj<|rStR 0 sz65 O<|W<|zT O<|zF O wM<|zK zBm (J 3 O) O<|zP agg67 (J 0 O) O<|yV O el24 zr67<|zY O O (qV 2 O el24 O O O (by simp only [List.length_take,List.length_map,List.length_append,List.length_cons,List.length_nil];omega) (by simp only [List.length_take,List.length_map,List.length_append,List.length_cons,List.length_nil];omega)) ?_
   rintro _ _ ⟨sv7,rfl,rfl⟩
   refine zF O wM<|rStR 3 sz24 O<|W<|zT O<|qK O ⟨by omega,by omega⟩<|G O<|W ?_
   refine ⟨⟨k+1,sv7⟩,(by omega),(by show p.Params.length-(k+1)<p.Params.length-k;omega),Weak.mk [false,true,true,true,true,true] ⟨U,U,U,U,U,U,T⟩ (by exact zRl (by rw [qT hy,List.map_append];rfl))⟩
  ·try simp only [sx] at c2
   rw [qY (l:=p.Params) (k:=k) (by omega)]
   refine qC _ (yC 1 O (regs':=[]) (μ':=[_,_,_,_]) T ⟨EFle.refl _,EFle.row (ds:=[_,_,_,_,_]) ⟨.inl O,.inl O,.inr ⟨O,O⟩,.inl O,.inl O,T⟩,EFle.refl _,EFle.refl _,T⟩)<|qO<|zM<|Y O<|zF O kV<|zK zAq (J 3 O) O<|qB O el25<|G O<|W<|zR<|qC ⟨[(57,.c _),(2,.c _),(3,.c _),(55,.c _),(56,.c _)],[_,_,_]⟩ (Weak.mk [true,true,true,false] ⟨U,U,U,U,U,T⟩ O)<|qG 1 2 O O (Nat×Value) (fun ⟨k,su⟩=>[(57,vI k)]) (fun ⟨k,su⟩=>[E.vec su 63 22 ((p.Defs.take k).map Df.cells),E.row b3 27 [.sl 1 (p.Sizes.map fun s=>[cS s]),.sl 3 (p.Where.map Cn.cells),.sl 7 (p.Params.map Pm.cells),.lit su,.sl 1 (p.Outs.map fun s=>[cS s])]]) (fun ⟨k,su⟩=>k<=p.Defs.length) (fun ⟨k,su⟩=>p.Defs.length-k) ⟨⟨0,(.slice none 0 0)⟩,(by omega),Weak.mk [true,true,true] ⟨U,U,U,U,U,T⟩ O⟩ ?_
   rintro ⟨k,su⟩ hk
   show AWP _ _ _ _ _ ⟨[(57,vI k)]++_,[E.vec su 63 22 ((p.Defs.take k).map Df.cells),E.row b3 27 [.sl 1 (p.Sizes.map fun s=>[cS s]),.sl 3 (p.Where.map Cn.cells),.sl 7 (p.Params.map Pm.cells),.lit su,.sl 1 (p.Outs.map fun s=>[cS s])]]++_⟩
   refine Y O<|yI O<|W<|zM<|zH O (fun c3=>?_) (fun c3=>?_)
   ·try simp only [sx] at c3
    obtain ⟨d,hd⟩:=qU p.Defs k (by omega)
    refine zN<|zM<|zR<|Y O<|qJ O el25 (by omega) (getm (by assumption))<|zP zAi qE O<|zY O O (qF [none,none,none,none,none,none,some 3,some 3,none,none,none,none,none,none,none,none,none,none,none,some 2,some 4,some 13] O zr63 O) ?_
    rintro _ _ ⟨b8,rfl,rfl⟩
    refine rStR 0 sz63 O<|W<|zM<|qW 10 mixed (by kernel_rfl) O O<|zQ O O (zE O zAt O)<|zQ O O (zJ O kY O (J 0 O) O)<|zQ O O (qL O ok86 (OwnR.pur (zBz d.Dims (by have:=(hP.ds d (zX hd)).1;omega) (hP.ds d (zX hd)).2.2.1)) ⟨U,O,T⟩)<|zQ O O (zE O kU O)<|zQ O O (zJ O kY O (J 0 O) O)<|zQ O O (qL O ok86 (OwnR.pur (zBz d.Red (by have:=(hP.ds d (zX hd)).2.1;omega) (hP.ds d (zX hd)).2.2.2.1)) ⟨U,O,T⟩)<|zQ O O (zE O zCv O)<|zQ O O (zU O yG O (J 0 O) O)<|zQ O O (qL O ok32 (zNn d.Body (hP.ds d (zX hd)).2.2.2.2.1 (hP.ds d (zX hd)).2.2.2.2.2) ⟨U,O,T⟩)<|zQ O O (zE O zAt O)<|yR<|rStR 0 sz61 O<|zF O kU<|rStR 0 sz61 O<|zF O zCv<|rStR 0 sz44 O<|W<|zT O<|zF O kV<|zK zAq (J 2 O) O<|zP zAi (J 0 O) O<|yV O el25 zr63<|zY O O (qV 1 O el25 O O O (by simp only [List.length_take,List.length_map,List.length_append,List.length_cons,List.length_nil];omega) (by simp only [List.length_take,List.length_map,List.length_append,List.length_cons,List.length_nil];omega)) ?_
    rintro _ _ ⟨sv9,rfl,rfl⟩
    refine zF O kV<|rStR 2 sz25 O<|W<|zT O<|qK O ⟨by omega,by omega⟩<|G O<|W ?_
    refine ⟨⟨k+1,sv9⟩,(by omega),(by show p.Defs.length-(k+1)<p.Defs.length-k;omega),Weak.mk [false,true,true,true] ⟨U,U,U,U,U,T⟩ (by exact zDn (by rw [qT hd,List.map_append];rfl))⟩
   ·try simp only [sx] at c3
    rw [qY (l:=p.Defs) (k:=k) (by omega)]
    refine qC _ (yC 0 O (regs':=[]) (μ':=[_,_]) T ⟨EFle.row (ds:=[_,_,_,_,_]) ⟨.inl O,.inl O,.inl O,.inr ⟨O,O⟩,.inl O,T⟩,EFle.refl _,T⟩)<|qO<|Y O<|zP wY (J 0 O) O<|rStR 1 sz27 O<|W<|zO<|fin1 (zZ wY O (J 1 O) O) ?_
    exact O
theorem zOi (d:Df) (hd:d.okC):
    Pur cfg 128 [vDf d] (vDf d):=by
 refine zW Tryz.func128 O Tryz.ntmps128 Tryz.results128 O ?_
 intro z hz
 refine Y O<|zY O O (qN O O) ?_
 rintro _ _ ⟨b1,rfl,rfl⟩
 refine zY O O (qF [none,none,none,none,none,none,some 3,some 3,none,none,none,none,none,none,none,none,none,none,none,some 2,some 4,some 13] O zr63 O) ?_
 rintro _ _ ⟨b2,rfl,rfl⟩
 refine W<|Y O<|zP zAi (J 1 O) O<|yV O el25 zr63<|yF [some 1,some 3,some 7,none,some 1] O zr27 pl27<|qQ O ok37 (program_Copy ⟨[],[],[],[d],[]⟩ (one_ok hd)) ⟨U,O,T⟩<|qA O (det_part_one O kV zAq O O)<|qJ O el25 (by decide) O<|zP zAi qE O<|rStR 0 sz63 O<|W<|zO<|fin1 (zZ zAi O (J 0 O) O) ?_
 exact O
theorem delta_node (op:Int) (l:List Ex):
    Pur cfg 124 [vI op,vEs l] (vE (bV op l)):=by
 refine zW Tryz.func124 O Tryz.ntmps124 Tryz.results124 O ?_
 intro z hz
 refine Y O<|zY O O (qF [none,none,none,none,none,none,none,none,none,none,some 2,some 4,some 13] O zr44 O) ?_
 rintro _ _ ⟨b1,rfl,rfl⟩
 refine W<|Y O<|G O<|G O<|yF [none,none,none,none,none,none,none,none,none,none,some 2,some 4,none] O zr44 pl44<|rStR 0 sz44 O<|W<|zO<|fin1 (zZ yG O (J 0 O) O) ?_
 exact O
theorem zKf (f:Lf):
    Pur cfg 125 [dK f] (vE (gR f)):=by
 refine zW Tryz.func125 O Tryz.ntmps125 Tryz.results125 O ?_
 intro z hz
 refine Y O<|zY O O (qN O O) ?_
 rintro _ _ ⟨b1,rfl,rfl⟩
 refine zY O O (qF [none,none,none,none,none,none,none,none,none,none,some 2,some 4,some 13] O zr44 O) ?_
 rintro _ _ ⟨b2,rfl,rfl⟩
 refine W<|Y O<|zP yB (J 1 O) O<|yF [none,none,none,none,none,none,none,none,none,none,none,some 4,some 13] O zr44 pl44<|rStR 0 sz44 O<|W<|zO<|fin1 (zZ yG O (J 0 O) O) ?_
 exact O
theorem zHr (op:Int) (a b:Ex):
    Pur cfg 232 [vI op,vE a,vE b] (vE (bV op [a,b])):=by
 refine zW Tryz.func232 O Tryz.ntmps232 Tryz.results232 O ?_
 intro z hz
 refine Y O<|zY O O (qN O O) ?_
 rintro _ _ ⟨b1,rfl,rfl⟩
 refine zY O O (qN O O) ?_
 rintro _ _ ⟨b2,rfl,rfl⟩
 refine zY O O (qF [none,none,none,none,none,none,none,none,none,none,some 2,some 4,some 13] O zr44 O) ?_
 rintro _ _ ⟨b3,rfl,rfl⟩
 refine W<|Y O<|G O<|zP yG (J 2 O) O<|zP yG (J 1 O) O<|yV O el42 zr44<|yF [none,none,none,none,none,none,none,none,none,none,some 2,some 4,none] O zr44 pl44<|rStR 0 sz44 O<|W<|zO<|fin1 (zZ yG O (J 0 O) O) ?_
 exact (congrArg V.agg (node_two op a b)).symm
theorem ref22_inside (g n:Lf):
    Pur cfg 184 [dK g,dK n] (vE (dO g n)):=by
 refine zW Tryz.func184 O Tryz.ntmps184 Tryz.results184 O ?_
 intro z hz
 refine Y O<|zY O O (qN O O) ?_
 rintro _ _ ⟨b1,rfl,rfl⟩
 refine zY O O (qN O O) ?_
 rintro _ _ ⟨b2,rfl,rfl⟩
 refine zY O O (qF [none,none,none,none,none,none,none,none,none,none,some 2,some 4,some 13] O zr44 O) ?_
 rintro _ _ ⟨b3,rfl,rfl⟩
 refine W<|Y O<|yN O zr35 pl35<|yN O zr37 pl37<|yF [none,none,none,none,none,none,none,none,none,none,some 2,some 4,some 13] O zr44 pl44<|zY O O (qF [none,none,none,none,none,none,none,none,none,none,some 2,some 4,some 13] O zr44 O) ?_
 rintro _ _ ⟨b4,rfl,rfl⟩
 refine rStR 0 sz44 O<|W<|Y O<|zP yB (J 3 O) O<|yF [none,none,none,none,none,none,none,none,none,none,none,some 4,some 13] O zr44 pl44<|zY O O (qF [none,none,none,none,none,none,none,none,none,none,some 2,some 4,some 13] O zr44 O) ?_
 rintro _ _ ⟨b5,rfl,rfl⟩
 refine rStR 0 sz44 O<|W<|zM<|qW 8 mixed (by kernel_rfl) O O<|zQ O O (zU O yG O (J 1 O) O)<|zQ O O (zU O yG O (J 0 O) O)<|zQ O O (qL O ok232 (zHr 14 zeroE (gR g)) ⟨U,O,U,O,U,O,T⟩)<|zQ O O (zU O yG O (J 0 O) O)<|zQ O O (zU O yB O (J 3 O) O)<|zQ O O (zIv [none,none,none,none,none,none,none,none,none,none,none,some 4,some 13] O zr44 pl44 O O)<|zQ O O (qL O ok232 (zHr 13 (gR g) (gR n)) ⟨U,O,U,O,U,O,T⟩)<|zQ O O (qL O ok232 (zHr 16 (bV 14 [zeroE,gR g]) (bV 13 [gR g,gR n])) ⟨U,O,U,O,U,O,T⟩)<|yR<|rStR 2 sz44 O<|W<|zO<|fin1 (zZ yG O (J 2 O) O) ?_
 exact O
theorem zEn (l:List Ax) (c:C) (p:Ax->Bool) (hl:l.length<=4294967296) (hc:∀x,x∈l->FnPur cfg c [vAx x] (vB (p x))):
    Pur cfg 117 [.c (.sl 3 (l.map Ax.cells)),.c c] (vI (dI p l)):=by
 refine zW Tryz.func117 O Tryz.ntmps117 Tryz.results117 O ?_
 intro z hz
 refine Y O<|G O<|W<|zM<|Y O<|G O<|qB O N<|G O<|W<|zR<|qC ⟨[(8,.c _),(0,.c _),(1,.c _),(7,.c _)],[]⟩ (Weak.mk [] ⟨U,U,U,U,T⟩ O)<|qG 1 0 O O (Nat) (fun k=>[(8,vI k)]) (fun k=>[]) (fun k=>k<=l.length/\((l.take k).any p=false)) (fun k=>l.length-k) ⟨0,⟨by omega,O⟩,Weak.mk [] ⟨U,U,U,U,T⟩ O⟩ ?_
 rintro k ⟨hk,hp⟩
 refine Y O<|yI O<|W<|zM<|zH O (fun c1=>?_) (fun c1=>?_)
 ·try simp only [sx] at c1
  obtain ⟨x,hx⟩:=qU l k (by omega)
  refine zN<|zM<|zR<|Y O<|G O<|G O<|W<|Y O<|G O<|G O<|G O<|qJ O N (by omega) (getm (by assumption))<|zP zMf qE O<|qA O (zBl O O (hc _ (zX hx)) ⟨U,O,T⟩)<|W<|zH O (fun c2=>?_) (fun c2=>?_)
  ·try simp only [sx] at c2
   refine Y O<|G O<|G O<|W<|zO<|zV O ?_
   rw [zFf hx c2 hp]
  ·try simp only [sx] at c2
   refine zN<|zT O<|qK O ⟨by omega,by omega⟩<|G O<|W ?_
   refine ⟨k+1,⟨by omega,zCb hx hp c2⟩,(by omega),Weak.mk [] ⟨U,U,U,U,T⟩ O⟩
 ·try simp only [sx] at c1
  refine qO<|Y O<|G O<|W<|zO<|zV O ?_
  rw [zDf (by rw [qY (by omega)] at hp;exact hp)]
theorem zHi (l:List Ax) (c:C) (p:Ax->Bool) (hl:l.length<=4294967296) (hc:∀x,x∈l->FnPur cfg c [vAx x] (vB (p x))):
    Pur cfg 174 [.c (.sl 3 (l.map Ax.cells)),.c c] (vB (l.any p)):=by
 refine zW Tryz.func174 O Tryz.ntmps174 Tryz.results174 O ?_
 intro z hz
 refine Y O<|G O<|W<|Y O<|G O<|G O<|qQ O ok117 (zEn l c p hl hc) ⟨U,O,U,O,T⟩<|qA O (wJ O O O)<|G O<|W<|zO<|zV O ?_
 rw [zRu]
theorem delta_free_1 (a:Ax) (f:Lf) (hf:f.L.length<=4294967296):
    Pur cfg 175 [vAx a,.c (.iptr f.cells)] (vB (gM f.L a.Name)):=by
 refine zW Tryz.func175 O Tryz.ntmps175 Tryz.results175 O ?_
 intro z hz
 refine Y O<|zY O O (qN O O) ?_
 rintro _ _ ⟨b1,rfl,rfl⟩
 refine G O<|W<|Y O<|zP yB qE O<|zF O zAm<|zK one9 (J 0 O) O<|qQ O ok116 (zFq f a.Name (by omega)) ⟨U,O,U,O,T⟩<|G O<|W<|zO<|zV O ?_
 exact O
theorem delta_free (f:Lf) (l:List Ax) (hf:f.L.length<=4294967296) (hl:l.length<=4294967296):
    Pur cfg 122 [dK f,.c (.sl 3 (l.map Ax.cells))] (vB (jW f l)):=by
 refine zW Tryz.func122 O Tryz.ntmps122 Tryz.results122 O ?_
 intro z hz
 refine Y O<|zY O O (qN O O) ?_
 rintro _ _ ⟨b1,rfl,rfl⟩
 refine G O<|W<|Y O<|G O<|yE _ (kD 0 O 2 _ PLe.ptr)<|qA O (zEf O O O O O)<|qQ O ok174 (zHi l _ (fun a=>gM f.L a.Name) hl (fun a _=>FnPur.of_pur (first:=[]) (cap:=[.iptr f.cells]) ok175 (delta_free_1 a f hf))) ⟨U,O,U,O,T⟩<|wE O<|G O<|W<|zO<|zV O ?_
 exact congrArg vB (free_any f l)
theorem delta_Def_1 (a:Ax) (s:ByteArray):
    Pur cfg 118 [vAx a,.c (.iptr [cS s])] (vB (decide (a.Name=s))):=by
 refine zW Tryz.func118 O Tryz.ntmps118 Tryz.results118 O ?_
 intro z hz
 refine Y O<|zY O O (qN O O) ?_
 rintro _ _ ⟨b1,rfl,rfl⟩
 refine G O<|W<|Y O<|zF O zAm<|zK one9 (J 0 O) O<|zK one9 qE O<|wD O<|G O<|W<|zO<|zV O ?_
 exact O
theorem ref22_find (l:List Ax) (s:ByteArray) (hl:l.length<=4294967296):
    Pur cfg 132 [.c (.sl 3 (l.map Ax.cells)),vS s] (vI (axN s l)):=by
 refine zW Tryz.func132 O Tryz.ntmps132 Tryz.results132 O ?_
 intro z hz
 refine Y O<|G O<|W<|zM<|Y O<|G O<|W<|zR<|qC ⟨[(5,.c _),(0,.c _),(1,.c _)],[]⟩ (Weak.mk [] ⟨U,U,U,T⟩ O)<|qG 1 0 O O (Nat) (fun k=>[(5,vI k)]) (fun k=>[]) (fun k=>k<=l.length/\((l.take k).any (fun a=>decide (a.Name=s))=false)) (fun k=>l.length-k) ⟨0,⟨by omega,O⟩,Weak.mk [] ⟨U,U,U,T⟩ O⟩ ?_
 rintro k ⟨hk,hp⟩
 refine zM<|Y O<|G O<|G O<|qB O N<|yI O<|W<|zH O (fun c1=>?_) (fun c1=>?_)
 ·try simp only [sx] at c1
  obtain ⟨x,hx⟩:=qU l k (by omega)
  refine zN<|zM<|zR<|Y O<|G O<|G O<|qJ O N (by omega) (getm (by assumption))<|qS O zAm<|zK one9 qE O<|G O<|wD O<|W<|zH O (fun c2=>?_) (fun c2=>?_)
  ·try simp only [sx] at c2
   refine Y O<|G O<|G O<|W<|zO<|zV O ?_
   rw [axN,zFf hx (kR c2) hp]
  ·try simp only [sx] at c2
   refine zN<|zT O<|G O<|qK O ⟨by omega,by omega⟩<|G O<|W ?_
   refine ⟨k+1,⟨by omega,zCb hx hp (yD c2)⟩,(by omega),Weak.mk [] ⟨U,U,U,T⟩ O⟩
 ·try simp only [sx] at c1
  refine qO<|Y O<|G O<|W<|zO<|zV O ?_
  rw [axN,zDf (by rw [qY (by omega)] at hp;exact hp)]
theorem delta_Def_2 (s:ByteArray) (d:Df) (n b:Nat) (g0:Lf) (c:Ex) (hc:c.wt<=4294967296) (hn:n<d.Red.length) (hr:d.Red.length<=4294967296):
    Con cfg 121 [vE c,.c (.iptr [cS s]),.c (.iptr d.cells),.c (.iptr [cI n]),.c (.lit (.pointer (some ⟨b,0,none⟩)))] [E.row b 40 g0.cells] fun r μ'=>r=vB (lL d n s c)/\μ'=[E.row b 40 (if lL d n s c=true then (bX c s).1 else g0).cells]:=by
 refine zW Tryz.func121 O Tryz.ntmps121 Tryz.results121 O ?_
 intro z hz
 have hsl:=zQd c s
 refine Y O<|zY O O (qN O O) ?_
 rintro _ _ ⟨b1,rfl,rfl⟩
 refine G O<|W<|Y O<|zP yG (J 0 O) O<|zK one9 qE O<|qQ O ok61 (zSq c s hc) ⟨U,O,U,O,T⟩<|yH O<|qA O (yA O O O)<|yX O<|zY O O (qF [none,some 2] O v O) ?_
 rintro _ _ ⟨b2,rfl,rfl⟩
 refine rStR 0 sz40 O<|G O<|W<|zM<|zM<|qW 10 mixed (by kernel_rfl) O O<|zQ O O (zS O O)<|zQ O O (zS O O)<|qI [] O O O O gv1 T (fun g2_1=>zU O yB O (J 0 O) O) O<|qI [] O O O O gv1 T (fun g2_1=>qP O kU O) O<|qI [(18,_)] O O O O gv1 ⟨O,O,T⟩ (fun g2_1=>zJ O kY O qE O) O<|qI [] O O O O gv1 T (fun g2_1=>zJ O one3 O qE O) O<|qI [(20,_)] O O O O gv1 ⟨O,O,T⟩ (fun g2_1=>zGj O O O ⟨by omega,by omega⟩) O<|qI [(19,_),(21,_)] O O O O gv1 ⟨O,O,O,O,T⟩ (fun g2_1=>zDu (k:=n+1) O N O O (by omega)) O<|qI [(17,_),(22,_)] O O O O gv1 ⟨O,O,O,O,T⟩ (fun g2_1=>qL O ok122 (delta_free (bX c s).1 (d.Red.drop (n+1)) (by omega) (by rw [List.length_drop];omega)) ⟨U,O,U,O,T⟩) O<|zQ O O (wK O O O (fun h=>h) O)<|yR<|W<|zH O (fun c1=>?_) (fun c1=>?_)
 ·try simp only [sx] at c1
  refine Y O<|zP yB (J 0 O) O<|rStR 2 sz40 O<|W<|Y O<|G O<|W<|qC _ (Weak.mem [false,false,true] O)<|zO<|zV O ?_
  exact ⟨by rw [sel_t c1],by rw [if_pos (sel_t c1)];rfl⟩
 ·try simp only [sx] at c1
  refine zN<|Y O<|G O<|W<|qC _ (Weak.mem [false,false,true] O)<|zO<|zV O ?_
  exact ⟨by rw [sel_f c1],by rw [if_neg (by rw [sel_f c1];simp)];rfl⟩
end Go.W
end
section
set_option maxRecDepth 10000
namespace Go.W
open Go Go.Eng Go.Proofs Go.L41 Go.Br
attribute [local irreducible] AWP RWP TD fL
theorem ok118:bA Tryz.prog 118=true:=by kernel_rfl
theorem ok119:bA Tryz.prog 119=true:=by kernel_rfl
theorem ok120:bA Tryz.prog 120=true:=by kernel_rfl
theorem ok121:bA Tryz.prog 121=true:=by kernel_rfl
theorem ok123:bA Tryz.prog 123=true:=by kernel_rfl
theorem ok124:bA Tryz.prog 124=true:=by kernel_rfl
theorem ok125:bA Tryz.prog 125=true:=by kernel_rfl
theorem ok126:bA Tryz.prog 126=true:=by kernel_rfl
theorem ok127:bA Tryz.prog 127=true:=by kernel_rfl
theorem ok128:bA Tryz.prog 128=true:=by kernel_rfl
theorem pl63:fR Tryz.prog 63=some [(0,1),(1,5),(6,1),(7,1),(8,1),(9,13)]:=by kernel_rfl
theorem indexFunc_mem (l:List Ex) (p:Ex->Bool) (hl:l.length<=4294967296):
    ∀(y:C) (μ0:List E) (μ1:Ex->List E),(∀x,x∈l->FnCon cfg y [vE x] μ0 fun r m=>∃b,r=.c (.lit (.bool b))/\b=p x/\m=if p x=true then μ1 x else μ0)->Con cfg 120 [vEs l,.c y] μ0 fun r μ'=>r=vI (dI p l)/\μ'=match l.find? p with|some x=>μ1 x|none=>μ0:=by
 intro y μ0 μ1 hy
 refine zW Tryz.func120 O Tryz.ntmps120 Tryz.results120 O ?_
 intro z hz
 refine Y O<|G O<|W<|zM<|Y O<|G O<|qB O el42<|G O<|W<|zR<|qC ⟨[(8,.c _),(0,.c _),(1,.c _),(7,.c _)],_⟩ (Weak.regs ⟨U,U,U,U,T⟩)<|zGl 1 O (Nat) (fun k=>[(8,vI k)]) (fun k=>μ0) (fun k=>k<=l.length/\((l.take k).any p=false)) (fun k=>l.length-k) ⟨0,⟨by omega,O⟩,Weak.regs ⟨U,U,U,U,T⟩⟩ ?_
 rintro k ⟨hk,hp⟩
 refine Y O<|yI O<|W<|zM<|zH O (fun c1=>?_) (fun c1=>?_)
 ·try simp only [sx] at c1
  obtain ⟨x,hx⟩:=qU l k (by omega)
  refine zN<|zM<|zR<|Y O<|G O<|G O<|W<|Y O<|G O<|G O<|G O<|qJ O el42 (by omega) (zBj (by assumption))<|zP yG qE O<|zY O O (zAw O O (hy x (zX hx)) ⟨U,O,T⟩) ?_
  rintro _ m ⟨bb,rfl,hb,hm⟩
  refine W<|zH O (fun c2=>?_) (fun c2=>?_)
  ·have hp1:p x=true:=hb.symm.trans c2
   rw [if_pos hp1] at hm
   subst hm
   refine Y O<|G O<|G O<|W<|zO<|zV O ?_
   exact ⟨by rw [zFf hx hp1 hp],by rw [zQk hx hp1 hp]⟩
  ·have hp1:p x=false:=hb.symm.trans c2
   rw [if_neg (by rw [hp1];simp)] at hm
   subst hm
   refine zN<|zT O<|qK O ⟨by omega,by omega⟩<|G O<|W ?_
   refine ⟨k+1,⟨by omega,zCb hx hp hp1⟩,(by omega),Weak.regs ⟨U,U,U,U,T⟩⟩
 ·try simp only [sx] at c1
  refine qO<|Y O<|G O<|W<|zO<|zV O ?_
  rw [qY (by omega)] at hp
  exact ⟨by rw [zDf hp],by rw [sel_none hp]⟩
theorem indexFunc_Def (l:List Ex) (s:ByteArray) (d:Df) (n b:Nat) (hl:l.length<=4294967296) (hw:∀x,x∈l->x.wt<=4294967296) (hn:n<d.Red.length) (hr:d.Red.length<=4294967296):
    Con cfg 120 [vEs l,.c (.fn (.func 121) [] [.iptr [cS s],.iptr d.cells,.iptr [cI n],.lit (.pointer (some ⟨b,0,none⟩))])] [E.row b 40 zL.cells] fun r μ'=>r=vI (dI (lL d n s) l)/\μ'=[E.row b 40 (gG d n s l).cells]:=by
  refine (indexFunc_mem l (lL d n s) hl _ _ (fun x=>[E.row b 40 (bX x s).1.cells]) fun x hx=>?_).mono ?_
  · refine FnCon.of_con (first:=[]) (cap:=[.iptr [cS s],.iptr d.cells,.iptr [cI n],.lit (.pointer (some ⟨b,0,none⟩))]) ok121 ((delta_Def_2 s d n b zL x (hw x hx) hn hr).mono ?_)
    rintro r μ' ⟨rfl,rfl⟩
    refine ⟨_,O,O,?_⟩
    by_cases h:lL d n s x=true
    · rw [if_pos h,if_pos h]
    · rw [if_neg h,if_neg h]
  · rintro r μ' ⟨rfl,rfl⟩
    refine ⟨O,?_⟩
    unfold gG
    cases l.find? (lL d n s)<;>rfl
theorem zSf (e:Ex) (s:ByteArray) (u:Lf) (he:e.wt<=4294967296) (hP:e.allF Lf.rng) (ht:u.L.length<=4294967296) (hrt:u.rng):Pur cfg 123 [vE e,vS s,dK u] (.tup [vE (lD (mEx (fun l=>bO l s u) e)),vI (lT (mEx (fun l=>bO l s u) e))]):=by
  have h:=zSe e s u he hP ht hrt
  rw [mEx_congr (g:=fun l=>bO l s u) (fun l hl=>subst_eq hl) e hP] at h
  exact h
theorem zKe (op:Int) (a b:Ex):Pur cfg 124 [vI op,.c (.sl 13 [a.cs,b.cs])] (vE (bV op [a,b])):=by
  have h:=delta_node op [a,b]
  rw [←Ex.cells_eq a,←Ex.cells_eq b];exact h
theorem zSo (op:Int) (a b c:Ex):Pur cfg 124 [vI op,.c (.sl 13 [a.cs,b.cs,c.cs])] (vE (bV op [a,b,c])):=by
  have h:=delta_node op [a,b,c]
  rw [←Ex.cells_eq a,←Ex.cells_eq b,←Ex.cells_eq c];exact h
end Go.W
end
section
set_option maxRecDepth 10000
namespace Go.W
open Go Go.Eng Go.Proofs Go.L41 Go.Br
attribute [local irreducible] AWP RWP TD fL
theorem ok132:bA Tryz.prog 132=true:=by kernel_rfl
theorem ok133:bA Tryz.prog 133=true:=by kernel_rfl
theorem ok134:bA Tryz.prog 134=true:=by kernel_rfl
theorem ok136:bA Tryz.prog 136=true:=by kernel_rfl
theorem ok184:bA Tryz.prog 184=true:=by kernel_rfl
theorem zFx (a b c:Ex) (h:(bV 11 [a,b,c]).wt<=6000000000000):Pur cfg 160 [.agg [cI 11,cS (bs []),cI 0,cI 0,cI 0,cI 0,cI 0,cI 0,cI 0,cI 0,.sl 2 [],.sl 4 [],.sl 13 [a.cs,b.cs,c.cs]]] (vI (bP (bV 11 [a,b,c]))):=by
  have k:=zDi (bV 11 [a,b,c]) h
  rw [show vE (bV 11 [a,b,c])=.agg [cI 11,cS (bs []),cI 0,cI 0,cI 0,cI 0,cI 0,cI 0,cI 0,cI 0,.sl 2 [],.sl 4 [],.sl 13 [a.cs,b.cs,c.cs]] from congrArg V.agg (node_three 11 a b c)] at k
  exact k
theorem row_eq {b:Nat} {t:TypeId} {cs cs':List C} {μ:List E} (h:cs=cs'):E.row b t cs::μ=[E.row b t cs']++μ:=by rw [h];rfl
theorem df_node (nm:ByteArray) (t:Ty) (ds rs:List Ax) (f:Int) (a b c:Ex):(⟨nm,t,ds,rs,f,bV 11 [a,b,c]⟩:Df).cells=[cS nm,cI t.Kind,cI t.Bits,cI t.Frac,cI t.Round,cI t.Over,.sl 3 (ds.map Ax.cells),.sl 3 (rs.map Ax.cells),cI f,cI 11,cS (bs []),cI 0,cI 0,cI 0,cI 0,cI 0,cI 0,cI 0,cI 0,.sl 2 [],.sl 4 [],.sl 13 [a.cs,b.cs,c.cs]]:=by
  rw [←Ex.cells_eq a,←Ex.cells_eq b,←Ex.cells_eq c];rfl
end Go.W
end
section
set_option maxRecDepth 10000
namespace Go.W
open Go Go.Eng Go.Proofs Go.L41 Go.Br
attribute [local irreducible] AWP RWP TD fL
end Go.W
end
