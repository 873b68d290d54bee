/-
  Walks: what functions of the program compute. Printed by wip/gen/mk2.py.
  Conditions: none.
-/
import Derived.Test.YtdldhbfgfkebjaaGreatDoorWT
import Derived.Test.YtdldhbfgfkebjaaGreatDoorPlain2
import Derived.Test.YtdldhbfgfkebjaaGreatDoorEngZ
set_option linter.unusedSimpArgs false
set_option linter.unusedVariables false
set_option maxRecDepth 10000
namespace Go.W
open Go Go.Eng Go.Proofs Go.L41 Go.Br
attribute [local irreducible] AWP RWP TD finQ
theorem ok145:callOk Tryz.prog 145=true:=by kernel_rfl
theorem ok175:callOk Tryz.prog 175=true:=by kernel_rfl
theorem ok176:callOk Tryz.prog 176=true:=by kernel_rfl
theorem zHx:oneT Tryz.prog 78=true:=by kernel_rfl
theorem sz78:(Tryz.prog.info? 78).map (·.size)=some 1:=by kernel_rfl
theorem zr78:zeroT Tryz.prog 78=some [(Value.slice none 0 0)]:=by kernel_rfl
theorem expr_sorted (sv:Value) (l:List ByteArray) (hl:l.length<=4294967296):
    Con cfg 145 [.c (.lit sv)] [.vec sv 9 1 (strRows l)] fun r μ'=>∃sv',r=.c (.lit sv')/\μ'=[.vec sv' 9 1 (strRows (thinB (sortB l)))]:=by
 refine zW Tryz.func145 O Tryz.ntmps145 Tryz.results145 O ?_
 intro z hz
 refine R O<|v O (kP 1 O O)<|zA<|R O<|G O<|v O (zLn [0] O ok175 (sort_con sv l hl) ⟨zB,O,T⟩ O)<|zA<|R O<|G O<|zU O O (kQ 0 O O ok176 (thin_con sv (sortB l) (by rw [sortB_len];exact hl)) ⟨zB,O,T⟩) ?_
 rintro _ _ ⟨sv1,rfl,rfl⟩
 refine G O<|zA<|zM<|zX O ?_
 exact ⟨_,O,O⟩
theorem expr_Reads (e:Ex) (he:e.wt<=1073741824):
    OwnR cfg 102 [vE e] 9 1 (strRows (readsT e)):=by
 refine zW Tryz.func102 O Tryz.ntmps102 Tryz.results102 O ?_
 intro z hz
 refine R O<|zU O O (qT O O) ?_
 rintro _ _ ⟨b1,rfl,rfl⟩
 refine v O (kP 1 O O)<|zA<|R O<|zU O O (yX O zr78) ?_
 rintro _ _ ⟨b2,rfl,rfl⟩
 refine qS _ (zAm 9 1)<|zA<|zF<|R O<|zP kC (A 2 O) O<|qW O ok144 (zJi _) ⟨zB,O,T⟩<|zA<|zQ<|zS _ (Weak.mem [true,true,false] O)<|awp_range_g (ps:=[9]) hz (Value) 2 O O ok173 (zIg e (by omega)) (fun _ _=>O) O (fun pre sv=>True) (fun pre sv=>[E.vec sv 9 1 (strRows (readsA pre)),E.row b2 78 [.lit sv]]) ⟨.slice none 0 0,T,O⟩ ?_ ?_
 ·intro pre x suf sv hxs hi z hz
  show AWP _ _ _ _ _ ⟨_,[E.vec sv 9 1 (strRows (readsA pre)),E.row b2 78 [.lit sv]]++_⟩
  have hlen:=readsP_len (suf:=x::suf) hxs
  have hlen1:=readsP_len (pre:=pre++[x]) (suf:=suf) (by rw [hxs];simp)
  rw [zKd,List.length_append,List.length_append] at hlen1
  have hxw:x.wt<=e.wt:=zHz e x (by rw [hxs];simp)
  obtain ⟨_,hXI,_⟩:=x.parts hxw
  refine zI O<|zU O O (qR [none,none,none,none,none,none,none,none,none,none,some 2,some 4,some 13] O zr57 O) ?_
  rintro _ _ ⟨b4,rfl,rfl⟩
  refine D 0 sz57 O<|zA ?_
  intro z hz
  refine zQ<|zF<|R O<|zN O wY<|zL one3 (A 0 O) O<|yO O<|zA<|zC O (fun c1=>?_) (fun c1=>?_)
  ·try simp only [sx] at c1
   refine zI O<|zL zHx (A 2 O) O<|zN O zHl<|zL one9 (A 0 O) O<|v O (kF O el78 zr9 O O O O)<|zU O O (kL 1 O el78 O O O (by simp only [List.length_map,List.length_append,List.length_cons,List.length_nil];omega) (by simp only [List.length_map,List.length_append,List.length_cons,List.length_nil];omega)) ?_
   rintro _ _ ⟨sv5,rfl,rfl⟩
   refine D 2 sz78 O<|zA<|R O<|zN O zBk<|zL zCa (A 0 O) O<|qH O el51<|G O<|zA<|zQ<|zS ⟨[(21,.c _),(3,.c _),(19,.c _),(20,.c _)],[_,_]⟩ (Weak.mk [false,true,true] ⟨zB,zB,zB,zB,T⟩ O)<|qJ 1 2 O O (Nat×Value) (fun ⟨k,sw⟩=>[(21,vI k)]) (fun ⟨k,sw⟩=>[E.vec sw 9 1 (strRows (readsA pre++opRead x++readsI (x.Idx.take k))),E.row b2 78 [.lit sw]]) (fun ⟨k,sw⟩=>k<=x.Idx.length) (fun ⟨k,sw⟩=>x.Idx.length-k) ⟨⟨0,_⟩,(by omega),Weak.mk [true,true] ⟨zB,zB,zB,zB,T⟩ (by exact zFw (by simp [opRead,readsI,strRows, *]))⟩ ?_
   rintro ⟨k,sw⟩ hk
   show AWP _ _ _ _ _ ⟨[(21,vI k)]++_,[E.vec sw 9 1 (strRows (readsA pre++opRead x++readsI (x.Idx.take k))),E.row b2 78 [.lit sw]]++_⟩
   refine R O<|yE O<|zA<|zF<|zC O (fun c2=>?_) (fun c2=>?_)
   ·try simp only [sx] at c2
    obtain ⟨i,hi2⟩:=qX x.Idx k (by omega)
    refine zH<|zF<|zQ<|R O<|qI O el51 (by omega) (getm (by assumption))<|zP zCo Y O<|zU O O (qR [none,some 2,none,some 2] O zMo O) ?_
    rintro _ _ ⟨b6,rfl,rfl⟩
    refine D 0 zMx O<|zA<|R O<|zN O zAs<|zL one9 (A 0 O) O<|v O (zCf O O O)<|zA<|zC O (fun c3=>?_) (fun c3=>?_)
    ·try simp only [sx] at c3
     refine zI O<|zL zHx (A 2 O) O<|zN O zAs<|zL one9 (A 0 O) O<|v O (kF O el78 zr9 O O O O)<|zU O O (kL 1 O el78 O O O (by have hik:=zEh x.Idx k;have hik2:=zGr x;simp only [List.length_map,List.length_append,List.length_cons,List.length_nil];omega) (by have hik:=zEh x.Idx k;have hik2:=zGr x;simp only [List.length_map,List.length_append,List.length_cons,List.length_nil];omega)) ?_
     rintro _ _ ⟨sv7,rfl,rfl⟩
     refine D 2 sz78 O<|zA<|zI O<|qD O ⟨by omega,by omega⟩<|G O<|zA ?_
     refine ⟨⟨k+1,_⟩,(by omega),(by show x.Idx.length-(k+1)<x.Idx.length-k;omega),Weak.mk [false,true,true] ⟨zB,zB,zB,zB,T⟩ (by exact zFw (by rw [zAp hi2];simp [fromX,strRows, *]))⟩
    ·try simp only [sx] at c3
     refine zH<|zI O<|qD O ⟨by omega,by omega⟩<|G O<|zA ?_
     refine ⟨⟨k+1,_⟩,(by omega),(by show x.Idx.length-(k+1)<x.Idx.length-k;omega),Weak.mk [false,true,true] ⟨zB,zB,zB,zB,T⟩ (by exact zFw (by rw [zAp hi2];simp [fromX,strRows, *]))⟩
   ·try simp only [sx] at c2
    refine qL ?_
    exact zBe (τ:=⟨[],_⟩) (Weak.mk [true,true] T O) ⟨_,T,(by exact zFw (by rw [yI (l:=x.Idx) (by omega),zKd]))⟩
  ·try simp only [sx] at c1
   refine zH<|R O<|zN O zBk<|zL zCa (A 0 O) O<|qH O el51<|G O<|zA<|zQ<|zS ⟨[(21,.c _),(3,.c _),(19,.c _),(20,.c _)],[_,_]⟩ (Weak.mk [false,true,true] ⟨zB,zB,zB,zB,T⟩ O)<|qJ 1 2 O O (Nat×Value) (fun ⟨k,sw⟩=>[(21,vI k)]) (fun ⟨k,sw⟩=>[E.vec sw 9 1 (strRows (readsA pre++opRead x++readsI (x.Idx.take k))),E.row b2 78 [.lit sw]]) (fun ⟨k,sw⟩=>k<=x.Idx.length) (fun ⟨k,sw⟩=>x.Idx.length-k) ⟨⟨0,_⟩,(by omega),Weak.mk [true,true] ⟨zB,zB,zB,zB,T⟩ (by exact zFw (by simp [opRead,readsI,strRows, *]))⟩ ?_
   rintro ⟨k,sw⟩ hk
   show AWP _ _ _ _ _ ⟨[(21,vI k)]++_,[E.vec sw 9 1 (strRows (readsA pre++opRead x++readsI (x.Idx.take k))),E.row b2 78 [.lit sw]]++_⟩
   refine R O<|yE O<|zA<|zF<|zC O (fun c2=>?_) (fun c2=>?_)
   ·try simp only [sx] at c2
    obtain ⟨i,hi2⟩:=qX x.Idx k (by omega)
    refine zH<|zF<|zQ<|R O<|qI O el51 (by omega) (getm (by assumption))<|zP zCo Y O<|zU O O (qR [none,some 2,none,some 2] O zMo O) ?_
    rintro _ _ ⟨b8,rfl,rfl⟩
    refine D 0 zMx O<|zA<|R O<|zN O zAs<|zL one9 (A 0 O) O<|v O (zCf O O O)<|zA<|zC O (fun c3=>?_) (fun c3=>?_)
    ·try simp only [sx] at c3
     refine zI O<|zL zHx (A 2 O) O<|zN O zAs<|zL one9 (A 0 O) O<|v O (kF O el78 zr9 O O O O)<|zU O O (kL 1 O el78 O O O (by have hik:=zEh x.Idx k;have hik2:=zGr x;simp only [List.length_map,List.length_append,List.length_cons,List.length_nil];omega) (by have hik:=zEh x.Idx k;have hik2:=zGr x;simp only [List.length_map,List.length_append,List.length_cons,List.length_nil];omega)) ?_
     rintro _ _ ⟨sv9,rfl,rfl⟩
     refine D 2 sz78 O<|zA<|zI O<|qD O ⟨by omega,by omega⟩<|G O<|zA ?_
     refine ⟨⟨k+1,_⟩,(by omega),(by show x.Idx.length-(k+1)<x.Idx.length-k;omega),Weak.mk [false,true,true] ⟨zB,zB,zB,zB,T⟩ (by exact zFw (by rw [zAp hi2];simp [fromX,strRows, *]))⟩
    ·try simp only [sx] at c3
     refine zH<|zI O<|qD O ⟨by omega,by omega⟩<|G O<|zA ?_
     refine ⟨⟨k+1,_⟩,(by omega),(by show x.Idx.length-(k+1)<x.Idx.length-k;omega),Weak.mk [false,true,true] ⟨zB,zB,zB,zB,T⟩ (by exact zFw (by rw [zAp hi2];simp [fromX,strRows, *]))⟩
   ·try simp only [sx] at c2
    refine qL ?_
    exact zBe (τ:=⟨[],_⟩) (Weak.mk [true,true] T O) ⟨_,T,(by exact zFw (by rw [yI (l:=x.Idx) (by omega),zKd]))⟩
 ·intro sv hd
  refine R O<|zL zHx (A 1 O) O<|zU O O (kQ 0 O O ok145 (expr_sorted sv (readsA (nodes e)) (by have:=zKe e;omega)) ⟨zB,O,T⟩) ?_
  rintro _ _ ⟨sv10,rfl,rfl⟩
  refine G O<|zA<|zS _ (Weak.mem [true,false] O)<|zM<|zX O ?_
  exact ⟨_,O,O⟩
end Go.W
