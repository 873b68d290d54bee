/-
  What functions compute.
  Conditions: none.
-/
import Derived.Test.YtdldhbfgfkebjaaGreatDoorWT
import Derived.Test.YtdldhbfgfkebjaaGreatDoorPlain2
import Derived.Test.YtdldhbfgfkebjaaGreatDoorEngZ
set_option linter.unusedSimpArgs false
set_option linter.unusedVariables false
set_option maxRecDepth 10000
namespace Go.W
open Go Go.Eng Go.Proofs Go.L41 Go.Br
attribute [local irreducible] AWP RWP TD fY
theorem ok145:bA Tryz.prog 145=true:=by kernel_rfl
theorem ok175:bA Tryz.prog 175=true:=by kernel_rfl
theorem ok176:bA Tryz.prog 176=true:=by kernel_rfl
theorem zIh:jQ Tryz.prog 78=true:=by kernel_rfl
theorem sz78:(Tryz.prog.info? 78).map (·.size)=some 1:=by kernel_rfl
theorem zr78:dS Tryz.prog 78=some [(Value.slice none 0 0)]:=by kernel_rfl
theorem expr_sorted (sv:Value) (l:List ByteArray) (hl:l.length<=4294967296):
    Con cfg 145 [.c (.lit sv)] [.vec sv 9 1 (dA l)] fun r μ'=>∃sv',r=.c (.lit sv')/\μ'=[.vec sv' 9 1 (dA (lJ (lM l)))]:=by
 refine zU Tryz.func145 O Tryz.ntmps145 Tryz.results145 O ?_
 intro z hz
 refine R O<|zW O (yX 1 O O)<|zA<|R O<|G O<|zW O (zIv [0] O ok175 (sort_con sv l hl) ⟨zB,O,T⟩ O)<|zA<|R O<|G O<|zV O O (wE 0 O O ok176 (thin_con sv (lM l) (by rw [sortB_len];exact hl)) ⟨zB,O,T⟩) ?_
 rintro _ _ ⟨sv1,rfl,rfl⟩
 refine G O<|zA<|zK<|zR O ?_
 exact ⟨_,O,O⟩
theorem expr_Reads (e:Ex) (he:e.wt<=1073741824):
    OwnR cfg 102 [vE e] 9 1 (dA (gC e)):=by
 refine zU Tryz.func102 O Tryz.ntmps102 Tryz.results102 O ?_
 intro z hz
 refine R O<|zV O O (qO O O) ?_
 rintro _ _ ⟨b1,rfl,rfl⟩
 refine zW O (yX 1 O O)<|zA<|R O<|zV O O (yN O zr78) ?_
 rintro _ _ ⟨b2,rfl,rfl⟩
 refine qX _ (wV 9 1)<|zA<|zI<|R O<|zO yP (Y 2 O) O<|qN O ok144 (zMl _) ⟨zB,O,T⟩<|zA<|zP<|zT _ (Weak.mem [true,true,false] O)<|awp_range_g (ps:=[9]) hz (Value) 2 O O ok173 (zLb e (by omega)) (fun _ _=>O) O (fun pre sv=>True) (fun pre sv=>[E.vec sv 9 1 (dA (bR pre)),E.row b2 78 [.lit sv]]) ⟨.slice none 0 0,T,O⟩ ?_ ?_
 ·intro pre x suf sv hxs hi z hz
  show AWP _ _ _ _ _ ⟨_,[E.vec sv 9 1 (dA (bR pre)),E.row b2 78 [.lit sv]]++_⟩
  have hlen:=zNo (suf:=x::suf) hxs
  have hlen1:=zNo (pre:=pre++[x]) (suf:=suf) (by rw [hxs];simp)
  rw [zFs,List.length_append,List.length_append] at hlen1
  have hxw:x.wt<=e.wt:=zEj e x (by rw [hxs];simp)
  obtain ⟨_,hXI,_⟩:=x.parts hxw
  refine zM O<|zV O O (qR [none,none,none,none,none,none,none,none,none,none,some 2,some 4,some 13] O zr57 O) ?_
  rintro _ _ ⟨b4,rfl,rfl⟩
  refine D 0 sz57 O<|zA ?_
  intro z hz
  refine zP<|zI<|R O<|zG O kS<|zH one3 (Y 0 O) O<|qZ O<|zA<|zC O (fun c1=>?_) (fun c1=>?_)
  ·try simp only [sx] at c1
   refine zM O<|zH zIh (Y 2 O) O<|zG O zDg<|zH one9 (Y 0 O) O<|zW O (yM O el78 zr9 O O O O)<|zV O O (yQ 1 O el78 O O O (by simp only [List.length_map,List.length_append,List.length_cons,List.length_nil];omega) (by simp only [List.length_map,List.length_append,List.length_cons,List.length_nil];omega)) ?_
   rintro _ _ ⟨sv5,rfl,rfl⟩
   refine D 2 sz78 O<|zA<|R O<|zG O kR<|zH wJ (Y 0 O) O<|zZ O el51<|G O<|zA<|zP<|zT ⟨[(21,.c _),(3,.c _),(19,.c _),(20,.c _)],[_,_]⟩ (Weak.mk [false,true,true] ⟨zB,zB,zB,zB,T⟩ O)<|qG 1 2 O O (Nat×Value) (fun ⟨k,sw⟩=>[(21,vI k)]) (fun ⟨k,sw⟩=>[E.vec sw 9 1 (dA (bR pre++fS x++bQ (x.Idx.take k))),E.row b2 78 [.lit sw]]) (fun ⟨k,sw⟩=>k<=x.Idx.length) (fun ⟨k,sw⟩=>x.Idx.length-k) ⟨⟨0,_⟩,(by omega),Weak.mk [true,true] ⟨zB,zB,zB,zB,T⟩ (by exact zIl (by simp [fS,bQ,dA, *]))⟩ ?_
   rintro ⟨k,sw⟩ hk
   show AWP _ _ _ _ _ ⟨[(21,vI k)]++_,[E.vec sw 9 1 (dA (bR pre++fS x++bQ (x.Idx.take k))),E.row b2 78 [.lit sw]]++_⟩
   refine R O<|yB O<|zA<|zI<|zC O (fun c2=>?_) (fun c2=>?_)
   ·try simp only [sx] at c2
    obtain ⟨i,hi2⟩:=qU x.Idx k (by omega)
    refine zJ<|zI<|zP<|R O<|qD O el51 (by omega) (B (by assumption))<|zO zDc zQ O<|zV O O (qR [none,some 2,none,some 2] O zPb O) ?_
    rintro _ _ ⟨b6,rfl,rfl⟩
    refine D 0 zPc O<|zA<|R O<|zG O wG<|zH one9 (Y 0 O) O<|zW O (zAl O O O)<|zA<|zC O (fun c3=>?_) (fun c3=>?_)
    ·try simp only [sx] at c3
     refine zM O<|zH zIh (Y 2 O) O<|zG O wG<|zH one9 (Y 0 O) O<|zW O (yM O el78 zr9 O O O O)<|zV O O (yQ 1 O el78 O O O (by have hik:=zDj x.Idx k;have hik2:=zEd x;simp only [List.length_map,List.length_append,List.length_cons,List.length_nil];omega) (by have hik:=zDj x.Idx k;have hik2:=zEd x;simp only [List.length_map,List.length_append,List.length_cons,List.length_nil];omega)) ?_
     rintro _ _ ⟨sv7,rfl,rfl⟩
     refine D 2 sz78 O<|zA<|zM O<|qB O ⟨by omega,by omega⟩<|G O<|zA ?_
     exact n9
    ·try simp only [sx] at c3
     refine zJ<|zM O<|qB O ⟨by omega,by omega⟩<|G O<|zA ?_
     exact n9
   ·try simp only [sx] at c2
    refine qH ?_
    exact zBy (τ:=⟨[],_⟩) (Weak.mk [true,true] T O) ⟨_,T,(by exact zIl (by rw [yA (l:=x.Idx) (by omega),zFs]))⟩
  ·try simp only [sx] at c1
   refine zJ<|R O<|zG O kR<|zH wJ (Y 0 O) O<|zZ O el51<|G O<|zA<|zP<|zT ⟨[(21,.c _),(3,.c _),(19,.c _),(20,.c _)],[_,_]⟩ (Weak.mk [false,true,true] ⟨zB,zB,zB,zB,T⟩ O)<|qG 1 2 O O (Nat×Value) (fun ⟨k,sw⟩=>[(21,vI k)]) (fun ⟨k,sw⟩=>[E.vec sw 9 1 (dA (bR pre++fS x++bQ (x.Idx.take k))),E.row b2 78 [.lit sw]]) (fun ⟨k,sw⟩=>k<=x.Idx.length) (fun ⟨k,sw⟩=>x.Idx.length-k) ⟨⟨0,_⟩,(by omega),Weak.mk [true,true] ⟨zB,zB,zB,zB,T⟩ (by exact zIl (by simp [fS,bQ,dA, *]))⟩ ?_
   rintro ⟨k,sw⟩ hk
   show AWP _ _ _ _ _ ⟨[(21,vI k)]++_,[E.vec sw 9 1 (dA (bR pre++fS x++bQ (x.Idx.take k))),E.row b2 78 [.lit sw]]++_⟩
   refine R O<|yB O<|zA<|zI<|zC O (fun c2=>?_) (fun c2=>?_)
   ·try simp only [sx] at c2
    obtain ⟨i,hi2⟩:=qU x.Idx k (by omega)
    refine zJ<|zI<|zP<|R O<|qD O el51 (by omega) (B (by assumption))<|zO zDc zQ O<|zV O O (qR [none,some 2,none,some 2] O zPb O) ?_
    rintro _ _ ⟨b8,rfl,rfl⟩
    refine D 0 zPc O<|zA<|R O<|zG O wG<|zH one9 (Y 0 O) O<|zW O (zAl O O O)<|zA<|zC O (fun c3=>?_) (fun c3=>?_)
    ·try simp only [sx] at c3
     refine zM O<|zH zIh (Y 2 O) O<|zG O wG<|zH one9 (Y 0 O) O<|zW O (yM O el78 zr9 O O O O)<|zV O O (yQ 1 O el78 O O O (by have hik:=zDj x.Idx k;have hik2:=zEd x;simp only [List.length_map,List.length_append,List.length_cons,List.length_nil];omega) (by have hik:=zDj x.Idx k;have hik2:=zEd x;simp only [List.length_map,List.length_append,List.length_cons,List.length_nil];omega)) ?_
     rintro _ _ ⟨sv9,rfl,rfl⟩
     refine D 2 sz78 O<|zA<|zM O<|qB O ⟨by omega,by omega⟩<|G O<|zA ?_
     exact n9
    ·try simp only [sx] at c3
     refine zJ<|zM O<|qB O ⟨by omega,by omega⟩<|G O<|zA ?_
     exact n9
   ·try simp only [sx] at c2
    refine qH ?_
    exact zBy (τ:=⟨[],_⟩) (Weak.mk [true,true] T O) ⟨_,T,(by exact zIl (by rw [yA (l:=x.Idx) (by omega),zFs]))⟩
 ·intro sv hd
  refine R O<|zH zIh (Y 1 O) O<|zV O O (wE 0 O O ok145 (expr_sorted sv (bR (bF e)) (by have:=zFt e;omega)) ⟨zB,O,T⟩) ?_
  rintro _ _ ⟨sv10,rfl,rfl⟩
  refine G O<|zA<|zT _ (Weak.mem [true,false] O)<|zK<|zR O ?_
  exact ⟨_,O,O⟩
end Go.W
