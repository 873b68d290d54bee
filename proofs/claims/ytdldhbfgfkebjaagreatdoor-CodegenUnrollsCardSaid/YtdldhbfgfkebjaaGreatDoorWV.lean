/-
  What functions compute.
  Conditions: none.
-/
import Derived.Test.YtdldhbfgfkebjaaGreatDoorWT
import Derived.Test.YtdldhbfgfkebjaaGreatDoorPlain2
import Derived.Test.YtdldhbfgfkebjaaGreatDoorEngZ
set_option linter.unusedSimpArgs false
set_option linter.unusedVariables false
set_option maxRecDepth 10000
namespace Go.W
open Go Go.Eng Go.Proofs Go.L41 Go.Br
attribute [local irreducible] AWP RWP TD fP
theorem ok145:bA Tryz.prog 145=true:=by kernel_rfl
theorem ok175:bA Tryz.prog 175=true:=by kernel_rfl
theorem ok176:bA Tryz.prog 176=true:=by kernel_rfl
theorem zEu:jK Tryz.prog 78=true:=by kernel_rfl
theorem sz78:(Tryz.prog.info? 78).map (·.size)=some 1:=by kernel_rfl
theorem zr78:dL Tryz.prog 78=some [(Value.slice none 0 0)]:=by kernel_rfl
theorem expr_sorted (sv:Value) (l:List ByteArray) (hl:l.length<=4294967296):
    Con cfg 145 [.c (.lit sv)] [.vec sv 9 1 (bV l)] fun r μ'=>∃sv',r=.c (.lit sv')/\μ'=[.vec sv' 9 1 (bV (lA (lC l)))]:=by
 refine zW Tryz.func145 O Tryz.ntmps145 Tryz.results145 O ?_
 intro z hz
 refine R O<|zZ O (yO 1 O O)<|zA<|R O<|G O<|zZ O (zPx [0] O ok175 (sort_con sv l hl) ⟨zB,O,T⟩ O)<|zA<|R O<|G O<|zS O O (kA 0 O O ok176 (thin_con sv (lC l) (by rw [sortB_len];exact hl)) ⟨zB,O,T⟩) ?_
 rintro _ _ ⟨sv1,rfl,rfl⟩
 refine G O<|zA<|zN<|zV O ?_
 exact ⟨_,O,O⟩
theorem expr_Reads (e:Ex) (he:e.wt<=1073741824):
    OwnR cfg 102 [vE e] 9 1 (bV (fV e)):=by
 refine zW Tryz.func102 O Tryz.ntmps102 Tryz.results102 O ?_
 intro z hz
 refine R O<|zS O O (qP O O) ?_
 rintro _ _ ⟨b1,rfl,rfl⟩
 refine zZ O (yO 1 O O)<|zA<|R O<|zS O O (yZ O zr78) ?_
 rintro _ _ ⟨b2,rfl,rfl⟩
 refine qT _ (kZ 9 1)<|zA<|zF<|R O<|zQ yN (A 2 O) O<|qS O ok144 (zNh _) ⟨zB,O,T⟩<|zA<|zP<|zU _ (Weak.mem [true,true,false] O)<|awp_range_g (ps:=[9]) hz (Value) 2 O O ok173 (zLs e (by omega)) (fun _ _=>O) O (fun pre sv=>True) (fun pre sv=>[E.vec sv 9 1 (bV (bQ pre)),E.row b2 78 [.lit sv]]) ⟨.slice none 0 0,T,O⟩ ?_ ?_
 ·intro pre x suf sv hxs hi z hz
  show AWP _ _ _ _ _ ⟨_,[E.vec sv 9 1 (bV (bQ pre)),E.row b2 78 [.lit sv]]++_⟩
  have hlen:=zOl (suf:=x::suf) hxs
  have hlen1:=zOl (pre:=pre++[x]) (suf:=suf) (by rw [hxs];simp)
  rw [zGg,List.length_append,List.length_append] at hlen1
  have hxw:x.wt<=e.wt:=zEv e x (by rw [hxs];simp)
  obtain ⟨_,hXI,_⟩:=x.parts hxw
  refine zK O<|zS O O (qQ [none,none,none,none,none,none,none,none,none,none,some 2,some 4,some 13] O zr57 O) ?_
  rintro _ _ ⟨b4,rfl,rfl⟩
  refine Y 0 sz57 O<|zA ?_
  intro z hz
  refine zP<|zF<|R O<|zJ O kR<|zE one3 (A 0 O) O<|yE O<|zA<|zD O (fun c1=>?_) (fun c1=>?_)
  ·try simp only [sx] at c1
   refine zK O<|zE zEu (A 2 O) O<|zJ O zCo<|zE one9 (A 0 O) O<|zZ O (yJ O el78 zr9 O O O O)<|zS O O (yI 1 O el78 O O O (by simp only [List.length_map,List.length_append,List.length_cons,List.length_nil];omega) (by simp only [List.length_map,List.length_append,List.length_cons,List.length_nil];omega)) ?_
   rintro _ _ ⟨sv5,rfl,rfl⟩
   refine Y 2 sz78 O<|zA<|R O<|zJ O kQ<|zE wI (A 0 O) O<|qD O el51<|G O<|zA<|zP<|zU ⟨[(21,.c _),(3,.c _),(19,.c _),(20,.c _)],[_,_]⟩ (Weak.mk [false,true,true] ⟨zB,zB,zB,zB,T⟩ O)<|qF 1 2 O O (Nat×Value) (fun ⟨k,sw⟩=>[(21,vI k)]) (fun ⟨k,sw⟩=>[E.vec sw 9 1 (bV (bQ pre++fN x++bP (x.Idx.take k))),E.row b2 78 [.lit sw]]) (fun ⟨k,sw⟩=>k<=x.Idx.length) (fun ⟨k,sw⟩=>x.Idx.length-k) ⟨⟨0,_⟩,(by omega),Weak.mk [true,true] ⟨zB,zB,zB,zB,T⟩ (by exact zJd (by simp [fN,bP,bV, *]))⟩ ?_
   rintro ⟨k,sw⟩ hk
   show AWP _ _ _ _ _ ⟨[(21,vI k)]++_,[E.vec sw 9 1 (bV (bQ pre++fN x++bP (x.Idx.take k))),E.row b2 78 [.lit sw]]++_⟩
   refine R O<|yC O<|zA<|zF<|zD O (fun c2=>?_) (fun c2=>?_)
   ·try simp only [sx] at c2
    obtain ⟨i,hi2⟩:=qU x.Idx k (by omega)
    refine zI<|zF<|zP<|R O<|zY O el51 (by omega) (v (by assumption))<|zQ zCr zO O<|zS O O (qQ [none,some 2,none,some 2] O zKx O) ?_
    rintro _ _ ⟨b6,rfl,rfl⟩
    refine Y 0 zOd O<|zA<|R O<|zJ O wN<|zE one9 (A 0 O) O<|zZ O (zAv O O O)<|zA<|zD O (fun c3=>?_) (fun c3=>?_)
    ·try simp only [sx] at c3
     refine zK O<|zE zEu (A 2 O) O<|zJ O wN<|zE one9 (A 0 O) O<|zZ O (yJ O el78 zr9 O O O O)<|zS O O (yI 1 O el78 O O O (by have hik:=zDr x.Idx k;have hik2:=zEo x;simp only [List.length_map,List.length_append,List.length_cons,List.length_nil];omega) (by have hik:=zDr x.Idx k;have hik2:=zEo x;simp only [List.length_map,List.length_append,List.length_cons,List.length_nil];omega)) ?_
     rintro _ _ ⟨sv7,rfl,rfl⟩
     refine Y 2 sz78 O<|zA<|zK O<|qA O ⟨by omega,by omega⟩<|G O<|zA ?_
     exact n9
    ·try simp only [sx] at c3
     refine zI<|zK O<|qA O ⟨by omega,by omega⟩<|G O<|zA ?_
     exact n9
   ·try simp only [sx] at c2
    refine qK ?_
    exact zCk (τ:=⟨[],_⟩) (Weak.mk [true,true] T O) ⟨_,T,(by exact zJd (by rw [qX (l:=x.Idx) (by omega),zGg]))⟩
  ·try simp only [sx] at c1
   refine zI<|R O<|zJ O kQ<|zE wI (A 0 O) O<|qD O el51<|G O<|zA<|zP<|zU ⟨[(21,.c _),(3,.c _),(19,.c _),(20,.c _)],[_,_]⟩ (Weak.mk [false,true,true] ⟨zB,zB,zB,zB,T⟩ O)<|qF 1 2 O O (Nat×Value) (fun ⟨k,sw⟩=>[(21,vI k)]) (fun ⟨k,sw⟩=>[E.vec sw 9 1 (bV (bQ pre++fN x++bP (x.Idx.take k))),E.row b2 78 [.lit sw]]) (fun ⟨k,sw⟩=>k<=x.Idx.length) (fun ⟨k,sw⟩=>x.Idx.length-k) ⟨⟨0,_⟩,(by omega),Weak.mk [true,true] ⟨zB,zB,zB,zB,T⟩ (by exact zJd (by simp [fN,bP,bV, *]))⟩ ?_
   rintro ⟨k,sw⟩ hk
   show AWP _ _ _ _ _ ⟨[(21,vI k)]++_,[E.vec sw 9 1 (bV (bQ pre++fN x++bP (x.Idx.take k))),E.row b2 78 [.lit sw]]++_⟩
   refine R O<|yC O<|zA<|zF<|zD O (fun c2=>?_) (fun c2=>?_)
   ·try simp only [sx] at c2
    obtain ⟨i,hi2⟩:=qU x.Idx k (by omega)
    refine zI<|zF<|zP<|R O<|zY O el51 (by omega) (v (by assumption))<|zQ zCr zO O<|zS O O (qQ [none,some 2,none,some 2] O zKx O) ?_
    rintro _ _ ⟨b8,rfl,rfl⟩
    refine Y 0 zOd O<|zA<|R O<|zJ O wN<|zE one9 (A 0 O) O<|zZ O (zAv O O O)<|zA<|zD O (fun c3=>?_) (fun c3=>?_)
    ·try simp only [sx] at c3
     refine zK O<|zE zEu (A 2 O) O<|zJ O wN<|zE one9 (A 0 O) O<|zZ O (yJ O el78 zr9 O O O O)<|zS O O (yI 1 O el78 O O O (by have hik:=zDr x.Idx k;have hik2:=zEo x;simp only [List.length_map,List.length_append,List.length_cons,List.length_nil];omega) (by have hik:=zDr x.Idx k;have hik2:=zEo x;simp only [List.length_map,List.length_append,List.length_cons,List.length_nil];omega)) ?_
     rintro _ _ ⟨sv9,rfl,rfl⟩
     refine Y 2 sz78 O<|zA<|zK O<|qA O ⟨by omega,by omega⟩<|G O<|zA ?_
     exact n9
    ·try simp only [sx] at c3
     refine zI<|zK O<|qA O ⟨by omega,by omega⟩<|G O<|zA ?_
     exact n9
   ·try simp only [sx] at c2
    refine qK ?_
    exact zCk (τ:=⟨[],_⟩) (Weak.mk [true,true] T O) ⟨_,T,(by exact zJd (by rw [qX (l:=x.Idx) (by omega),zGg]))⟩
 ·intro sv hd
  refine R O<|zE zEu (A 1 O) O<|zS O O (kA 0 O O ok145 (expr_sorted sv (bQ (bH e)) (by have:=zGh e;omega)) ⟨zB,O,T⟩) ?_
  rintro _ _ ⟨sv10,rfl,rfl⟩
  refine G O<|zA<|zU _ (Weak.mem [true,false] O)<|zN<|zV O ?_
  exact ⟨_,O,O⟩
end Go.W
