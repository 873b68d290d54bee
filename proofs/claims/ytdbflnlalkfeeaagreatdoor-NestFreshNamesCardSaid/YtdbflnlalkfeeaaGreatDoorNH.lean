/-
  Walks: what functions of the program compute. Printed by wip/gen/mk2.py.
  Conditions: none.
-/
import Derived.Test.YtdbflnlalkfeeaaGreatDoorNI
import Derived.Test.YtdbflnlalkfeeaaGreatDoorCfgI
set_option maxRecDepth 10000
namespace Go.W
open Go Go.Eng Go.Proofs Go.L41 Go.Br
attribute [local irreducible] AWP RWP TD finQ
theorem ok83 : callOk Tryz.prog 83 = true:= by kernel_rfl
theorem ok84 : callOk Tryz.prog 84 = true:= by kernel_rfl
theorem ok85 : callOk Tryz.prog 85 = true:= by kernel_rfl
theorem ok87 : callOk Tryz.prog 87 = true:= by kernel_rfl
theorem one108 : oneT Tryz.prog 108 = true:= by kernel_rfl
theorem one129 : oneT Tryz.prog 129 = true:= by kernel_rfl
theorem sz108 : (Tryz.prog.info? 108).map (·.size) = some 1:= by kernel_rfl
theorem sz129 : (Tryz.prog.info? 129).map (·.size) = some 1:= by kernel_rfl
theorem zr108 : zeroT Tryz.prog 108 = some [(Value.map none)]:= by kernel_rfl
theorem zr129 : zeroT Tryz.prog 129 = some [Value.nilFunc]:= by kernel_rfl
theorem fresh_mark (mb : Nat) (m : BM) (l : Lf) (hl : l.L.length ≤ 4294967296) :
    Con cfg 83 [vLin l,.c (.iptr [.lit (.map (some mb))])] [E.blk mb (MapR vB (m))] fun r μ' => r = .tup [vLin l,vI 0] ∧ μ' = [E.blk mb (MapR vB ((namesF l).foldl putB m))]:= by
 refine Con.drop<|zV Tryz.func83 rfl Tryz.ntmps83 Tryz.results83 rfl ?_
 intro z hz
 refine sReg rfl<|qA rfl rfl (qL rfl rfl) ?_
 rintro _ _ ⟨b1,rfl,rfl⟩
 refine qA rfl rfl (qO [none,some 2] rfl zr49 rfl) ?_
 rintro _ _ ⟨b2,rfl,rfl⟩
 refine rMv rfl<|zB<|zK<|sReg rfl<|zA rfl (zC rfl kO rfl)<|zA rfl (zD rfl wZ rfl (zF 1 rfl) rfl)<|zA rfl (zR rfl el47 rfl)<|rMv rfl<|zB<|zS<|zY ⟨[(10,.c _),(1,.c _),(2,.c _),(3,.c _),(8,.c _),(9,.c _)],[_,_,_]⟩ (Weak.mk [true,true,true] ⟨zE,zE,zE,zE,zE,zE,trivial⟩ rfl)<|qI 1 3 rfl rfl (Nat) (fun k => [(10,vI k)]) (fun k => [E.row b2 49 [cI 0,.sl 2 []],E.row b1 49 l.cells,E.blk mb (MapR vB (((l.L.take k).map Mono.Name).foldl putB m))]) (fun k => k ≤ l.L.length) (fun k => l.L.length - k) ⟨0,(by omega),Weak.mk [true,true,true] ⟨zE,zE,zE,zE,zE,zE,trivial⟩ rfl⟩ ?_
 rintro k hk
 refine sReg rfl<|zA rfl (qM rfl rfl rfl)<|zB<|zK<|zH rfl (fun c1 => ?_) (fun c1 => ?_)
 ·try simp only [sx] at c1
  obtain ⟨q,hq⟩ := qX l.L k (by omega)
  refine zJ<|zK<|zS<|sReg rfl<|zA rfl (zO rfl el47 rfl rfl (by omega) (getm (by assumption)))<|zA rfl (zG rfl zEc rfl qC rfl)<|qA rfl rfl (yJ rfl zFu) ?_
  rintro _ _ ⟨b3,rfl,rfl⟩
  refine zX rfl rfl (zT rfl sz111 rfl rfl rfl (qH 0 rfl rfl))<|zB<|zU rfl<|zA rfl (zD rfl one108 rfl qC rfl)<|zA rfl (zC rfl wG rfl)<|zA rfl (zD rfl one9 rfl (zF 0 rfl) rfl)<|zX rfl rfl (zDy 3 true rfl sm108 rfl rfl rfl (zE) rfl)<|zB<|zU rfl<|zA rfl (qB rfl rfl rfl ⟨by omega,by omega⟩)<|rMv rfl<|zB ?_
  refine ⟨k + 1,(by omega),(by omega),Weak.mk [false,true,true,true] ⟨zE,zE,zE,zE,zE,zE,trivial⟩ (by rw [zQd hq,List.foldl_append]; rfl)⟩
 ·try simp only [sx] at c1
  refine qN<|sReg rfl<|zA rfl (zG rfl kG rfl (zF 1 rfl) rfl)<|zX rfl rfl (zT rfl sz49 rfl rfl rfl (qH 0 rfl rfl))<|rMv rfl<|zB<|zI<|fin2 (qG kG rfl (zF 0 rfl) rfl) (rs_c rfl) ?_
  rw [yO (l := l.L) (k := k) (by omega)]
  exact ⟨rfl,[_,_],rfl⟩
theorem zGq (mb : Nat) (m : BM) (i : List Ix) (hi : i.length ≤ 536870912) (hw : idxWt i ≤ 536870912) :
    Con cfg 86 [vIndices i,.c (.fn (.func 83) [] [.iptr [.lit (.map (some mb))]])] [E.blk mb (MapR vB (m))] fun r μ' => r = .tup [vIndices i,vI 0] ∧ μ' = [E.blk mb (MapR vB ((namesI i).foldl putB m))]:= by
 refine Con.drop<|zV Tryz.func86 rfl Tryz.ntmps86 Tryz.results86 rfl ?_
 intro z hz
 refine sReg rfl<|zA rfl (qY 4 rfl rfl)<|rMv rfl<|zB<|sReg rfl<|rMv rfl<|qA rfl rfl (wY rfl ok133 (zGc i (by omega)) ⟨zE,rfl,trivial⟩) ?_
 rintro _ _ ⟨sv1,rfl,rfl⟩
 refine rMv rfl<|zB<|sReg rfl<|rMv rfl<|zB<|zK<|sReg rfl<|rMv rfl<|zA rfl (zR rfl el44 rfl)<|rMv rfl<|zB<|zS<|zY ⟨[(14,.c _),(0,.c _),(1,.c _),(6,.c _),(13,.c _)],[_,_]⟩ (Weak.mk [true,true] ⟨zE,zE,zE,zE,zE,trivial⟩ rfl)<|qI 1 2 rfl rfl (Nat) (fun k => [(14,vI k)]) (fun k => [E.vec sv1 114 4 ((i.take k).map Ix.cells ++ (i.drop k).map Ix.cells),E.blk mb (MapR vB ((((i.take k).flatMap ixF).flatMap namesF).foldl putB m))]) (fun k => k ≤ i.length) (fun k => i.length - k) ⟨0,(by omega),Weak.mk [true,true] ⟨zE,zE,zE,zE,zE,trivial⟩ rfl⟩ ?_
 rintro k hk
 refine sReg rfl<|zA rfl (qM rfl rfl rfl)<|zB<|zK<|zH rfl (fun c1 => ?_) (fun c1 => ?_)
 ·try simp only [sx] at c1
  obtain ⟨x,hx⟩ := qX i k (by omega)
  have hxw := zBj (qE hx)
  rw [Ix.wt] at hxw
  refine zJ<|zK<|zS<|sReg rfl<|rMv rfl<|rMv rfl<|zB<|zK<|sReg rfl<|rMv rfl<|rMv rfl<|rMv rfl<|rMv rfl<|rMv rfl<|zA rfl (zO rfl el44 rfl rfl (by omega) (getm (by assumption)))<|zA rfl (zZ rfl zAd rfl)<|zA rfl (zG rfl kG rfl qC rfl)<|qA rfl rfl (zPx 1 rfl rfl rfl (FnCon.of_con (first := []) (cap := [.iptr [.lit (.map (some mb))]]) (args := [vLin x.Lin]) ok83 (fresh_mark mb _ x.Lin (by omega))) ⟨zE,rfl,trivial⟩) ?_
  rintro _ _ ⟨rfl,rfl⟩
  refine zA rfl (qP rfl rfl)<|zA rfl (yF rfl rfl rfl)<|zA rfl (qU rfl rfl rfl)<|zA rfl (qQ 0 rfl el44 rfl rfl rfl (by omega) (zIw (by simp; omega) (by omega)))<|zA rfl (kC rfl zAd rfl)<|zX rfl rfl (zT rfl sz49 rfl rfl rfl (zCi 0 rfl (zLs (by simp; omega) hx) rfl))<|rMv rfl<|zB<|sReg rfl<|rMv rfl<|zA rfl (qR rfl rfl rfl)<|zB<|zH rfl (fun c2 => ?_) (fun c2 => ?_)
  ·try simp only [sx] at c2
   exact absurd trivial c2
  ·try simp only [sx] at c2
   refine zJ<|sReg rfl<|rMv rfl<|rMv rfl<|rMv rfl<|rMv rfl<|zA rfl (zO rfl el44 rfl rfl (by omega) (getm (by assumption)))<|zA rfl (zZ rfl kH rfl)<|zA rfl (zD rfl wJ rfl qC rfl)<|qA rfl rfl (wY rfl ok134 (zFi x.At (by omega)) ⟨zE,rfl,trivial⟩) ?_
   rintro _ _ ⟨sv2,rfl,rfl⟩
   refine zA rfl (qQ 1 rfl el44 rfl rfl rfl (by omega) (by simp; omega))<|zA rfl (kC rfl kH rfl)<|zX rfl rfl (zT rfl sz112 rfl rfl rfl (zCi 1 rfl (zCj (by simp; omega)) rfl))<|zB<|sReg rfl<|rMv rfl<|rMv rfl<|zA rfl (zO rfl el44 rfl rfl (by omega) (getm (by assumption)))<|zA rfl (zZ rfl kH rfl)<|zA rfl (zD rfl wJ rfl qC rfl)<|zA rfl (zR rfl wE rfl)<|rMv rfl<|zB<|zS<|zY ⟨[(50,.c _),(0,.c _),(1,.c _),(6,.c _),(8,.c _),(13,.c _),(14,.c _),(49,.c _)],[_,_,_]⟩ (Weak.mk [true,true,true] ⟨zE,zE,zE,zE,zE,zE,zE,zE,trivial⟩ rfl)<|qI 1 3 rfl rfl (Nat) (fun j => [(50,vI j)]) (fun j => [E.vec sv2 49 2 ((x.At.take j).map Lf.cells ++ (x.At.drop j).map Lf.cells),E.vec sv1 114 4 _,E.blk mb (MapR vB (((x.At.take j).flatMap namesF).foldl putB ((namesF x.Lin).foldl putB ((((i.take k).flatMap ixF).flatMap namesF).foldl putB m))))]) (fun j => j ≤ x.At.length) (fun j => x.At.length - j) ⟨0,(by omega),Weak.mk [true,true,true] ⟨zE,zE,zE,zE,zE,zE,zE,zE,trivial⟩ rfl⟩ ?_
   rintro j hj
   refine sReg rfl<|zA rfl (qM rfl rfl rfl)<|zB<|zK<|zH rfl (fun c3 => ?_) (fun c3 => ?_)
   ·try simp only [sx] at c3
    obtain ⟨l,hl⟩ := qX x.At j (by omega)
    have hlw := zAh (qE hl)
    refine zJ<|zK<|zS<|sReg rfl<|rMv rfl<|rMv rfl<|zB<|zK<|yZ 21 0 [⟨0,.q []⟩,⟨1,.q []⟩,⟨2,.q [1]⟩,⟨3,.q []⟩,⟨4,.q [1]⟩,⟨5,.q []⟩,⟨6,.q []⟩,⟨7,.q []⟩,⟨8,.q []⟩,⟨9,.q []⟩,⟨10,.q []⟩,⟨11,.q []⟩,⟨12,.q []⟩,⟨13,.q []⟩,⟨14,.q []⟩,⟨15,.e 2 []⟩,⟨16,.q []⟩,⟨17,.q []⟩,⟨18,.q []⟩,⟨19,.q [0]⟩,⟨20,.e 0 []⟩] mixed (by kernel_rfl) (by kernel_rfl) rfl rfl rfl<|zW rfl<|zW rfl<|zW rfl<|zW rfl<|zW rfl<|zW rfl<|zW rfl<|zW rfl<|zW rfl<|zW rfl<|zW rfl<|zW rfl<|zW rfl<|zW rfl<|zW rfl<|zW rfl<|zW rfl<|zW rfl<|zW rfl<|zW rfl<|zW rfl<|zAl<|qD rfl (by decide) rfl rfl (zN rfl rfl)<|qD rfl (by decide) rfl rfl (zN rfl rfl)<|qD rfl (by decide) rfl rfl (qQ 0 rfl el44 rfl rfl rfl (by omega) (by simp; omega))<|qD rfl (by decide) rfl rfl (kC rfl kH rfl)<|qD rfl (by decide) rfl rfl (zD rfl wJ rfl (kS 0 rfl (zCj (by simp; omega))) rfl)<|qD rfl (by decide) rfl rfl (zN rfl rfl)<|qD rfl (by decide) rfl rfl (zN rfl rfl)<|qD rfl (by decide) rfl rfl (zN rfl rfl)<|qD rfl (by decide) rfl rfl (zN rfl rfl)<|qD rfl (by decide) rfl rfl (zO rfl el44 rfl rfl (by omega) (getm (by assumption)))<|qD rfl (by decide) rfl rfl (zZ rfl kH rfl)<|qD rfl (by decide) rfl rfl (zD rfl wJ rfl qC rfl)<|qD rfl (by decide) rfl rfl (zN rfl rfl)<|qD rfl (by decide) rfl rfl (zO rfl wE rfl rfl (by omega) (getm (by assumption)))<|qD rfl (by decide) rfl rfl (zG rfl kG rfl qC rfl)<|zIp rfl rfl (by decide) rfl rfl (zPx 0 rfl rfl rfl (FnCon.of_con (first := []) (cap := [.iptr [.lit (.map (some mb))]]) (args := [vLin l]) ok83 (fresh_mark mb _ l (by omega))) ⟨zE,rfl,trivial⟩) ?_
    rintro _ _ ⟨rfl,rfl⟩
    refine ⟨_,rfl,?_⟩
    refine qD rfl (by decide) rfl rfl (qP rfl rfl)<|qD rfl (by decide) rfl rfl (yF rfl rfl rfl)<|qD rfl (by decide) rfl rfl (qU rfl rfl rfl)<|qD rfl (by decide) rfl rfl (qQ 0 rfl wE rfl rfl rfl (by omega) (zIw (by simp; omega) (by omega)))<|zFy rfl rfl (by decide) rfl rfl (zT rfl sz49 rfl rfl rfl (zCi 0 rfl (zLs (by simp; omega) hl) rfl)) ?_
    rintro _ _ ⟨rfl,rfl⟩
    refine ⟨_,rfl,?_⟩
    refine zAk rfl<|rMv rfl<|zB<|sReg rfl<|rMv rfl<|zA rfl (qR rfl rfl rfl)<|zB<|zH rfl (fun c4 => ?_) (fun c4 => ?_)
    ·try simp only [sx] at c4
     exact absurd trivial c4
    ·try simp only [sx] at c4
     refine zJ<|zU rfl<|zA rfl (qB rfl rfl rfl ⟨by omega,by omega⟩)<|rMv rfl<|zB ?_
     refine ⟨j + 1,(by omega),(by omega),Weak.mk [true,true,true] ⟨zE,zE,zE,zE,zE,zE,zE,zE,trivial⟩ (by simp only [Int.toNat_natCast]; rw [zIv (by simp; omega) hl,mark_at hl,yE hl]; simp only [List.map_append,List.map_cons,List.map_nil]; rfl)⟩
   ·try simp only [sx] at c3
    rw [yT (l := x.At) (k := j) (by omega),yO (l := x.At) (k := j) (by omega)]
    simp only [List.map_nil,List.append_nil]
    refine zY _ (yL 0 rfl (regs' := []) (μ' := [_,_]) trivial ⟨EFle.vec (r' := [_,_,_,_]) (zCj (by simp; omega)) ⟨.inl rfl,.inl rfl,.inl rfl,.inr ⟨rfl,rfl⟩,trivial⟩,EFle.refl _,trivial⟩)<|qN<|zU rfl<|zA rfl (qB rfl rfl rfl ⟨by omega,by omega⟩)<|rMv rfl<|zB ?_
    refine ⟨k + 1,(by omega),(by omega),Weak.mk [true,true] ⟨zE,zE,zE,zE,zE,trivial⟩ (by simp only [Int.toNat_natCast,List.set_set]; rw [zIv (by simp; omega) hx,mark_ix hx,yE hx]; simp only [List.map_append,List.map_cons,List.map_nil]; rfl)⟩
 ·try simp only [sx] at c1
  rw [yT (l := i) (k := k) (by omega),yO (l := i) (k := k) (by omega)]
  simp only [List.map_nil,List.append_nil]
  refine zY _ (yL 0 rfl (regs' := [(6,_)]) (μ' := [_]) ⟨FLe.sl,trivial⟩ ⟨EFle.refl _,trivial⟩)<|qN<|sReg rfl<|rMv rfl<|rMv rfl<|rMv rfl<|zB<|zI<|fin2 (rs_c rfl) (rs_c rfl) ?_
  exact ⟨rfl,[],rfl⟩
theorem fresh_stmt (mb : Nat) (m : BM) (s : St) (w : List Int) (hs : s.wt ≤ 536870912) :
    Con cfg 84 [vSt s,vIs w,.c (.iptr [.lit (.map (some mb))]),.c (.iptr [.fn (.func 83) [] [.iptr [.lit (.map (some mb))]]])] [E.blk mb (MapR vB (m))] fun r μ' => r = vB true ∧ μ' = [E.blk mb (MapR vB ((markHd s).foldl putB m))]:= by
 refine Con.drop<|zV Tryz.func84 rfl Tryz.ntmps84 Tryz.results84 rfl ?_
 intro z hz
 have hse := St.wt_eq s
 have hil : (indexT s.E).length ≤ s.E.wt:= by have h1 := thin_len (sortB (namesA (nodes s.E))); have h2 := zPa (namesA (nodes s.E)); have h3 := zDs s.E; unfold indexT; omega
 refine sReg rfl<|qA rfl rfl (qL rfl rfl) ?_
 rintro _ _ ⟨b1,rfl,rfl⟩
 refine rMv rfl<|zB<|zK<|sReg rfl<|zA rfl (zC rfl zAc rfl)<|zA rfl (zD rfl one3 rfl (zF 0 rfl) rfl)<|zA rfl (qF rfl rfl rfl)<|zB<|zH rfl (fun c1 => ?_) (fun c1 => ?_)
 ·try simp only [sx] at c1
  refine zU rfl<|zA rfl (zD rfl one108 rfl qC rfl)<|zA rfl (zC rfl wQ rfl)<|zA rfl (zD rfl one9 rfl (zF 0 rfl) rfl)<|zX rfl rfl (zDy 1 true rfl sm108 rfl rfl rfl (zE) rfl)<|zB<|zK<|sReg rfl<|zA rfl (zC rfl zAv rfl)<|zA rfl (zG rfl yS rfl (zF 0 rfl) rfl)<|zA rfl (zP rfl ok85 (OwnR.pur (zHd s.E (by omega))) ⟨zE,rfl,trivial⟩)<|zA rfl (zR rfl el72 rfl)<|rMv rfl<|zB<|zS<|zY ⟨[(19,.c _),(2,.c _),(3,.c _),(4,.c _),(17,.c _),(18,.c _)],[_,_]⟩ (Weak.mk [true,true] ⟨zE,zE,zE,zE,zE,zE,trivial⟩ rfl)<|qI 1 2 rfl rfl (Nat) (fun k => [(19,vI k)]) (fun k => [E.row b1 54 s.cs,E.blk mb (MapR vB ((loopNm s ++ (indexT s.E).take k).foldl putB m))]) (fun k => k ≤ (indexT s.E).length) (fun k => (indexT s.E).length - k) ⟨0,(by omega),Weak.mk [true,true] ⟨zE,zE,zE,zE,zE,zE,trivial⟩ (by first | (rw [show loopNm s = [s.Name] from if_pos c1]; rfl) | (rw [show loopNm s = [] from if_neg c1]; rfl))⟩ ?_
  rintro k hk
  refine sReg rfl<|zA rfl (qM rfl rfl rfl)<|zB<|zK<|zH rfl (fun c2 => ?_) (fun c2 => ?_)
  ·try simp only [sx] at c2
   obtain ⟨t,ht⟩ := qX (indexT s.E) k (by omega)
   refine zJ<|zK<|zS<|sReg rfl<|zA rfl (zO rfl el72 rfl rfl (by omega) (getm (by assumption)))<|zA rfl (zD rfl one9 rfl qC rfl)<|rMv rfl<|zB<|zU rfl<|zA rfl (zD rfl one108 rfl qC rfl)<|rMv rfl<|zX rfl rfl (zDy 1 true rfl sm108 rfl rfl rfl (zE) rfl)<|zB<|zU rfl<|zA rfl (qB rfl rfl rfl ⟨by omega,by omega⟩)<|rMv rfl<|zB ?_
   refine ⟨k + 1,(by omega),(by omega),Weak.mk [true,true] ⟨zE,zE,zE,zE,zE,zE,trivial⟩ (by rw [← set_at ht]; rfl)⟩
  ·try simp only [sx] at c2
   refine qN<|sReg rfl<|zA rfl (zC rfl zBz rfl)<|zA rfl (zD rfl kM rfl (zF 0 rfl) rfl)<|zA rfl (zD rfl one129 rfl qC rfl)<|qA rfl rfl (zBv 1 rfl rfl ok86 (zGq mb _ s.Idx (by omega) (by omega)) ⟨zE,rfl,zE,rfl,trivial⟩) ?_
   rintro _ _ ⟨rfl,rfl⟩
   refine zB<|sReg rfl<|rMv rfl<|zB<|zI<|zQ rfl ?_
   rw [yO (l := indexT s.E) (k := k) (by omega),← List.foldl_append]
   exact ⟨rfl,[_],rfl⟩
 ·try simp only [sx] at c1
  refine zJ<|zK<|sReg rfl<|zA rfl (zC rfl zAv rfl)<|zA rfl (zG rfl yS rfl (zF 0 rfl) rfl)<|zA rfl (zP rfl ok85 (OwnR.pur (zHd s.E (by omega))) ⟨zE,rfl,trivial⟩)<|zA rfl (zR rfl el72 rfl)<|rMv rfl<|zB<|zS<|zY ⟨[(19,.c _),(2,.c _),(3,.c _),(4,.c _),(17,.c _),(18,.c _)],[_,_]⟩ (Weak.mk [true,true] ⟨zE,zE,zE,zE,zE,zE,trivial⟩ rfl)<|qI 1 2 rfl rfl (Nat) (fun k => [(19,vI k)]) (fun k => [E.row b1 54 s.cs,E.blk mb (MapR vB ((loopNm s ++ (indexT s.E).take k).foldl putB m))]) (fun k => k ≤ (indexT s.E).length) (fun k => (indexT s.E).length - k) ⟨0,(by omega),Weak.mk [true,true] ⟨zE,zE,zE,zE,zE,zE,trivial⟩ (by first | (rw [show loopNm s = [s.Name] from if_pos c1]; rfl) | (rw [show loopNm s = [] from if_neg c1]; rfl))⟩ ?_
  rintro k hk
  refine sReg rfl<|zA rfl (qM rfl rfl rfl)<|zB<|zK<|zH rfl (fun c2 => ?_) (fun c2 => ?_)
  ·try simp only [sx] at c2
   obtain ⟨t,ht⟩ := qX (indexT s.E) k (by omega)
   refine zJ<|zK<|zS<|sReg rfl<|zA rfl (zO rfl el72 rfl rfl (by omega) (getm (by assumption)))<|zA rfl (zD rfl one9 rfl qC rfl)<|rMv rfl<|zB<|zU rfl<|zA rfl (zD rfl one108 rfl qC rfl)<|rMv rfl<|zX rfl rfl (zDy 1 true rfl sm108 rfl rfl rfl (zE) rfl)<|zB<|zU rfl<|zA rfl (qB rfl rfl rfl ⟨by omega,by omega⟩)<|rMv rfl<|zB ?_
   refine ⟨k + 1,(by omega),(by omega),Weak.mk [true,true] ⟨zE,zE,zE,zE,zE,zE,trivial⟩ (by rw [← set_at ht]; rfl)⟩
  ·try simp only [sx] at c2
   refine qN<|sReg rfl<|zA rfl (zC rfl zBz rfl)<|zA rfl (zD rfl kM rfl (zF 0 rfl) rfl)<|zA rfl (zD rfl one129 rfl qC rfl)<|qA rfl rfl (zBv 1 rfl rfl ok86 (zGq mb _ s.Idx (by omega) (by omega)) ⟨zE,rfl,zE,rfl,trivial⟩) ?_
   rintro _ _ ⟨rfl,rfl⟩
   refine zB<|sReg rfl<|rMv rfl<|zB<|zI<|zQ rfl ?_
   rw [yO (l := indexT s.E) (k := k) (by omega),← List.foldl_append]
   exact ⟨rfl,[_],rfl⟩
theorem visit_mark (mb : Nat) (m : BM) (l : List St) (hl : stsWt l ≤ 536870912) : Con cfg 72 [vSts l,vIs [],.c (.fn (.func 84) [] [.iptr [.lit (.map (some mb))],.iptr [.fn (.func 83) [] [.iptr [.lit (.map (some mb))]]]])] [E.blk mb (MapR vB (m))] fun r μ' => r = vB true ∧ μ' = [E.blk mb (MapR vB ((markA (preL [] 0 l)).foldl putB m))]:= by
  have hN := zEh l
  refine (zJg (.fn (.func 84) [] [.iptr [.lit (.map (some mb))],.iptr [.fn (.func 83) [] [.iptr [.lit (.map (some mb))]]]]) (fun pre μ => μ = [E.blk mb (MapR vB ((markA pre).foldl putB m))]) (fun _ _ => False) (stsN l) (fun pre x μ hx hxw hM hJ => ?_) l hl [] (by simp; omega) [] (by simp) _ rfl).mono ?_
  · subst hJ
    refine (FnCon.of_con (first := []) (cap := [.iptr [.lit (.map (some mb))],.iptr [.fn (.func 83) [] [.iptr [.lit (.map (some mb))]]]]) ok84 (fresh_stmt mb ((markA pre).foldl putB m) x.1 x.2 hxw)).mono ?_
    rintro r μ' ⟨rfl,rfl⟩
    exact ⟨true,rfl,fun _ => by rw [markA_one,List.foldl_append],fun h => by cases h⟩
  · rintro r μ' ⟨b,rfl,h1,h2⟩
    cases b with
    | true => exact ⟨rfl,by rw [h1 rfl,List.nil_append]⟩
    | false => obtain ⟨_,_,_,_,h⟩ := h2 rfl; exact h.elim
theorem zDa (n : Ns) (base : ByteArray) (hl : stsWt n.Body ≤ 400000) (hb : n.Bufs.length ≤ 1000) (hs : base.size ≤ 1000) :
    Pur cfgI 38 [vNs n,vS base] (vS (freshN n base)):= by
 refine zV Tryz.func38 rfl Tryz.ntmps38 Tryz.results38 rfl ?_
 intro z hz
 have hul := usedP_len n
 refine sReg rfl<|qA rfl rfl (qL rfl rfl) ?_
 rintro _ _ ⟨b1,rfl,rfl⟩
 refine rMv rfl<|zB<|sReg rfl<|qA rfl rfl (ope_mkmap vB rfl rfl) ?_
 rintro _ _ ⟨b2,rfl,rfl⟩
 refine qA rfl rfl (yJ rfl zr108) ?_
 rintro _ _ ⟨b3,rfl,rfl⟩
 refine zX rfl rfl (zT rfl sz108 rfl rfl rfl (qH 0 rfl rfl))<|yK _ (yQ 0 rfl 5 _ PLe.ptr)<|zB<|zK<|sReg rfl<|zA rfl (zC rfl wU rfl)<|zA rfl (zD rfl zCm rfl (zF 1 rfl) rfl)<|zA rfl (zR rfl el22 rfl)<|rMv rfl<|zB<|zS<|zY ⟨[(14,.c _),(1,.c _),(2,.c _),(5,.c _),(13,.c _)],[_,_]⟩ (Weak.mk [true,true] ⟨zE,zE,zE,zE,zE,trivial⟩ rfl)<|qI 1 2 rfl rfl (Nat) (fun k => [(14,vI k)]) (fun k => [E.blk b2 (MapR vB (((n.Bufs.take k).map Bf.Name).foldl putB [])),E.row b1 25 n.cells]) (fun k => k ≤ n.Bufs.length) (fun k => n.Bufs.length - k) ⟨0,(by omega),Weak.mk [true,true] ⟨zE,zE,zE,zE,zE,trivial⟩ rfl⟩ ?_
 rintro k hk
 refine sReg rfl<|zA rfl (qM rfl rfl rfl)<|zB<|zK<|zH rfl (fun c1 => ?_) (fun c1 => ?_)
 ·try simp only [sx] at c1
  obtain ⟨b,hbx⟩ := qX n.Bufs k (by omega)
  refine zJ<|zK<|zS<|sReg rfl<|rMv rfl<|rMv rfl<|zB<|yC 7 mixed (by kernel_rfl) rfl rfl<|zM rfl rfl (zD rfl one108 rfl qC rfl)<|zM rfl rfl (zC rfl wU rfl)<|zM rfl rfl (zD rfl zCm rfl (zF 1 rfl) rfl)<|zM rfl rfl (zN rfl rfl)<|zM rfl rfl (zO rfl el22 rfl rfl (by omega) (getm (by assumption)))<|zM rfl rfl (zZ rfl zIi rfl)<|zM rfl rfl (zD rfl one9 rfl qC rfl)<|kA<|zX rfl rfl (zDy 0 true rfl sm108 rfl rfl rfl (zE) rfl)<|zB<|zU rfl<|zA rfl (qB rfl rfl rfl ⟨by omega,by omega⟩)<|rMv rfl<|zB ?_
  refine ⟨k + 1,(by omega),(by omega),Weak.mk [true,true] ⟨zE,zE,zE,zE,zE,trivial⟩ (by rw [yE hbx,List.map_append,List.foldl_append]; rfl)⟩
 ·try simp only [sx] at c1
  rw [yO (l := n.Bufs) (k := k) (by omega)]
  refine qN<|sReg rfl<|zA rfl (zAj rfl rfl rfl rfl rfl)<|qA rfl rfl (yJ rfl zr129) ?_
  rintro _ _ ⟨b4,rfl,rfl⟩
  refine zX rfl rfl (zT rfl sz129 rfl rfl rfl (qH 0 rfl rfl))<|yK _ (yQ 0 rfl 7 _ PLe.ptr)<|zB<|sReg rfl<|zA rfl (zC rfl zCa rfl)<|zA rfl (zD rfl zAa rfl (zF 1 rfl) rfl)<|zA rfl (zAj rfl rfl rfl rfl rfl)<|qA rfl rfl (zBv 0 rfl rfl ok72 (upI (visit_mark _ _ n.Body (by omega))) ⟨zE,rfl,VLe.nil,rfl,zE,rfl,trivial⟩) ?_
  rintro _ _ ⟨rfl,rfl⟩
  refine zB<|sReg rfl<|rMv rfl<|rMv rfl<|zB<|zK<|sReg rfl<|rMv rfl<|zB<|zS<|zY ⟨[(9,.c _),(8,.c _),(1,.c _),(5,.c _)],[_]⟩ (Weak.mk [true,false] ⟨zE,zE,zE,zE,trivial⟩ rfl)<|qI 2 0 rfl rfl (Nat) (fun j => [(9,vI (j + 1)),(8,vS (nmK base j))]) (fun j => []) (fun j => j ≤ (usedP n).length ∧ ∀ i,i < j → hasB (usedP n) (nmK base i) = true) (fun j => (usedP n).length + 1 - j) ⟨0,⟨by omega,fun i hi => by omega⟩,Weak.mk [true] ⟨zE,VLe.of_eq (rfl),zE,zE,trivial⟩ rfl⟩ ?_
  rintro j ⟨hj,hp⟩
  refine zK<|sReg rfl<|zA rfl (zD rfl one108 rfl qC rfl)<|rMv rfl<|zA rfl (det_lookup 0 false rfl sm108 rfl rfl rfl (fun _ _ => CRep.lit _ rfl))<|zB<|zH rfl (fun c2 => ?_) (fun c2 => ?_)
  ·rw [← List.foldl_append,show n.Bufs.map Bf.Name ++ markA (preL [] 0 n.Body) = usedP n from rfl,set_has] at c2
   have hnx := fresh_next hp c2
   have hlt := zNy hnx
   refine zJ<|zK<|zS<|zU rfl<|rMv rfl<|rMv rfl<|zA rfl (zP rfl ok87 (strconv_Itoa (j + 1) (by omega)) ⟨zE,rfl,trivial⟩)<|zA rfl (det_sadd rfl rfl rfl (by have := decB_size (n := j + 1) (by omega); omega))<|rMv rfl<|zB<|zU rfl<|rMv rfl<|zA rfl (qB rfl rfl rfl ⟨by omega,by omega⟩)<|rMv rfl<|zB ?_
   refine ⟨j + 1,⟨hlt,hnx⟩,(by omega),Weak.mk [true] ⟨zE,VLe.of_eq (congrArg vS (nmK_succ base j)),zE,zE,trivial⟩ rfl⟩
  ·rw [← List.foldl_append,show n.Bufs.map Bf.Name ++ markA (preL [] 0 n.Body) = usedP n from rfl,set_has] at c2
   refine qN<|sReg rfl<|rMv rfl<|rMv rfl<|zB<|zI<|zQ rfl ?_
   rw [show freshN n base = nmK base j from (freshP n base).symm.trans (zKk hp c2)]
end Go.W
