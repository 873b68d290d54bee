/-
  Walks: what functions of the program compute. Printed by wip/gen/mk2.py.
  Conditions: none.
-/
import Derived.Test.YtdbflnlalkfeeaaGreatDoorFacts
import Derived.Test.YtdbflnlalkfeeaaGreatDoorPlain
set_option maxRecDepth 10000
namespace Go.W
open Go Go.Eng Go.Proofs Go.L41 Go.Br
attribute [local irreducible] AWP RWP TD finQ
theorem kw_ascii : ∀ (j : Nat) (b : UInt8),(bs kwBytes).data.toList[j]? = some b → b.toNat < 128:= by
  intro j b h
  have : (kwBytes.all fun c => decide (c.toNat < 128)) = true:= by decide
  rw [List.all_eq_true] at this
  simpa using this b (List.mem_of_getElem? h)
theorem kw_fields : (Lib.fields kwBytes).map bs = words:= by decide +kernel
theorem nm1 {s : ByteArray} (h : Lz (!decide (s = bs []) && decide ((s.size : Int) ≤ 16)) true = true) : ¬ s = bs []:= by
  simp only [Lz,cond_true,Bool.and_eq_true,Bool.not_eq_true',decide_eq_false_iff_not] at h
  exact h.1
theorem nm2 {s : ByteArray} {p : Bool} (h : Lz (!decide (s = bs []) && decide ((s.size : Int) ≤ 16) && p) true = true) : s.size ≤ 1000000:= by
  simp only [Lz,cond_true,Bool.and_eq_true,decide_eq_true_eq] at h
  omega
theorem zEc : aggT Tryz.prog 111 = some 2:= by kernel_rfl
theorem zCv : aggT Tryz.prog 114 = some 4:= by kernel_rfl
theorem el44 : elemT Tryz.prog 44 = some (114,4,72):= by kernel_rfl
theorem el47 : elemT Tryz.prog 47 = some (111,2,24):= by kernel_rfl
theorem el72 : elemT Tryz.prog 72 = some (9,1,16):= by kernel_rfl
theorem zDc : fieldT Tryz.prog 49 0 = some (0,2):= by kernel_rfl
theorem kO : fieldT Tryz.prog 49 1 = some (1,47):= by kernel_rfl
theorem wG : fieldT Tryz.prog 111 0 = some (0,9):= by kernel_rfl
theorem zDj : fieldT Tryz.prog 111 1 = some (1,2):= by kernel_rfl
theorem fl111 : flatK Tryz.prog 111 = some [.str,.int]:= by kernel_rfl
theorem ik21 : intT Tryz.prog 21 = some .i32:= by kernel_rfl
theorem mixed : Tryz.prog.follows .mixedOrders = true:= by kernel_rfl
theorem ok49 : callOk Tryz.prog 49 = true:= by kernel_rfl
theorem ok50 : callOk Tryz.prog 50 = true:= by kernel_rfl
theorem ok103 : callOk Tryz.prog 103 = true:= by kernel_rfl
theorem ok115 : callOk Tryz.prog 115 = true:= by kernel_rfl
theorem ok116 : callOk Tryz.prog 116 = true:= by kernel_rfl
theorem ok117 : callOk Tryz.prog 117 = true:= by kernel_rfl
theorem ok118 : callOk Tryz.prog 118 = true:= by kernel_rfl
theorem ok141 : callOk Tryz.prog 141 = true:= by kernel_rfl
theorem ok155 : callOk Tryz.prog 155 = true:= by kernel_rfl
theorem ok156 : callOk Tryz.prog 156 = true:= by kernel_rfl
theorem ok157 : callOk Tryz.prog 157 = true:= by kernel_rfl
theorem ok176 : callOk Tryz.prog 176 = true:= by kernel_rfl
theorem ok189 : callOk Tryz.prog 189 = true:= by kernel_rfl
theorem ok190 : callOk Tryz.prog 190 = true:= by kernel_rfl
theorem ok294 : callOk Tryz.prog 294 = true:= by kernel_rfl
theorem ok297 : callOk Tryz.prog 297 = true:= by kernel_rfl
theorem one2 : oneT Tryz.prog 2 = true:= by kernel_rfl
theorem one9 : oneT Tryz.prog 9 = true:= by kernel_rfl
theorem wZ : oneT Tryz.prog 47 = true:= by kernel_rfl
theorem sz111 : (Tryz.prog.info? 111).map (·.size) = some 2:= by kernel_rfl
theorem un9 : Tryz.prog.underlying 9 = some .string:= by kernel_rfl
theorem us5 : (Tryz.prog.underlying 5).isSome = true:= by kernel_rfl
theorem zr9 : zeroT Tryz.prog 9 = some [(Value.string (ByteArray.mk #[]))]:= by kernel_rfl
theorem zFu : zeroT Tryz.prog 111 = some [(Value.string (ByteArray.mk #[])),(Value.int IntKind.i64 0)]:= by kernel_rfl
theorem zMt (n : Int) :
    Pur cfg 115 [vR n] (vB (letterI n)):= by
 refine zV Tryz.func115 rfl Tryz.ntmps115 Tryz.results115 rfl ?_
 intro z hz
 refine sReg rfl<|rMv rfl<|zB<|sReg rfl<|rMv rfl<|zA rfl (kZ rfl rfl rfl)<|rMv rfl<|rLz [] rfl gv1 trivial (fun g1_2 => zN rfl rfl) rfl<|rLz [(6,_)] rfl gv1 ⟨rfl,rfl,trivial⟩ (fun g1_2 => kY rfl rfl rfl) rfl<|zA rfl (qK rfl rfl rfl (fun h => h) rfl)<|rMv rfl<|zB<|zI<|zQ rfl ?_
 exact rfl
theorem lexer_digit (n : Int) :
    Pur cfg 155 [vR n] (vB (digitI n)):= by
 refine zV Tryz.func155 rfl Tryz.ntmps155 Tryz.results155 rfl ?_
 intro z hz
 refine sReg rfl<|rMv rfl<|zB<|sReg rfl<|rMv rfl<|zA rfl (kZ rfl rfl rfl)<|rMv rfl<|rLz [] rfl gv1 trivial (fun g1_2 => zN rfl rfl) rfl<|rLz [(6,_)] rfl gv1 ⟨rfl,rfl,trivial⟩ (fun g1_2 => kY rfl rfl rfl) rfl<|zA rfl (qK rfl rfl rfl (fun h => h) rfl)<|rMv rfl<|zB<|zI<|zQ rfl ?_
 exact rfl
theorem lexer_inWord (n : Int) :
    Pur cfg 117 [vR n] (vB (inWordI n)):= by
 refine zV Tryz.func117 rfl Tryz.ntmps117 Tryz.results117 rfl ?_
 intro z hz
 refine sReg rfl<|rMv rfl<|zB<|sReg rfl<|rMv rfl<|zA rfl (zP rfl ok115 (zMt _) ⟨zE,rfl,trivial⟩)<|rMv rfl<|rLz [] rfl gv1 trivial (fun g1_2 => zN rfl rfl) rfl<|rLz [(6,_)] rfl gv1 ⟨rfl,rfl,trivial⟩ (fun g1_2 => zP rfl ok155 (lexer_digit _) ⟨zE,rfl,trivial⟩) rfl<|zA rfl (yB rfl rfl rfl rfl (fun h => (lzf h)))<|rMv rfl<|rLz [] rfl gv1 trivial (fun g1_6 => zN rfl rfl) rfl<|rLz [(10,_)] rfl gv1 ⟨rfl,rfl,trivial⟩ (fun g1_6 => qF rfl rfl rfl) rfl<|zA rfl (yB rfl rfl rfl rfl (fun h => (lzf h)))<|rMv rfl<|zB<|zI<|zQ rfl ?_
 exact rfl
theorem zLz (s : ByteArray) (hs : s.size ≤ 1000000) :
    Pur cfg 116 [vS s,.c (.fn (.func 117) [] [])] (vI (spanB inWordB s.data.toList)):= by
 refine zV Tryz.func116 rfl Tryz.ntmps116 Tryz.results116 rfl ?_
 intro z hz
 refine sReg rfl<|rMv rfl<|zB<|sReg rfl<|rMv rfl<|zB<|zK<|zS<|zY ⟨[(5,.c _),(0,.c _),(1,.c _)],[]⟩ (Weak.mk [] ⟨zE,zE,zE,trivial⟩ rfl)<|qI 1 0 rfl rfl (Nat) (fun k => [(5,vI k)]) (fun k => []) (fun k => k ≤ s.size ∧ (s.data.toList.take k).all inWordB = true) (fun k => s.size - k) ⟨0,⟨by omega,rfl⟩,Weak.mk [] ⟨zE,zE,zE,trivial⟩ rfl⟩ ?_
 rintro k ⟨hk,hp⟩
 refine zK<|sReg rfl<|rMv rfl<|rMv rfl<|zA rfl (wI rfl un9 rfl)<|zA rfl (qM rfl rfl rfl)<|rMv rfl<|rLz [] rfl gv1 trivial (fun g2_4 => zN rfl rfl) rfl<|rLz [] rfl gv1 trivial (fun g2_4 => zN rfl rfl) rfl<|rLz [] rfl gv1 trivial (fun g2_4 => zN rfl rfl) rfl<|rLz [(12,_),(13,_)] rfl gv1 ⟨rfl,rfl,rfl,rfl,trivial⟩ (fun g2_4 => zBq rfl un9 rfl rfl (by omega) (by simp only [Lz,cond_true,decide_eq_true_eq] at g2_4; omega)) rfl<|rLz [(14,_)] rfl gv1 ⟨rfl,rfl,trivial⟩ (fun g2_4 => zAz rfl us5 ik21 rfl) rfl<|rLz [(11,_),(15,_)] rfl gv1 ⟨rfl,rfl,rfl,rfl,trivial⟩ (fun g2_4 => det_call_fn0 rfl rfl ok117 (lexer_inWord _) ⟨zE,rfl,trivial⟩) rfl<|zA rfl (qK rfl rfl rfl (fun h => h) rfl)<|zB<|zH rfl (fun c1 => ?_) (fun c1 => ?_)
 ·try simp only [sx] at c1
  obtain ⟨hlt,hcc⟩ := c1
  have hlt : k < s.size:= by omega
  rw [zIl] at hcc
  refine zJ<|zS<|zU rfl<|rMv rfl<|zA rfl (qB rfl rfl rfl ⟨by omega,by omega⟩)<|rMv rfl<|zB ?_
  have hg := zBu hlt
  refine ⟨k + 1,⟨by omega,by rw [zLc hg,hp]; exact hcc⟩,(by omega),Weak.mk [] ⟨zE,zE,zE,trivial⟩ rfl⟩
 ·try simp only [sx] at c1
  have hsp : spanB inWordB s.data.toList = k := span_stop hp (by
    by_cases hlt : k < s.size
    · right; refine ⟨_,zBu hlt,?_⟩; rcases c1 with c1 | c1; omega; rw [zIl] at c1; exact c1
    · left; simp; omega)
  refine qN<|sReg rfl<|rMv rfl<|rMv rfl<|zB<|zI<|zQ rfl ?_
  rw [hsp]
theorem zNd (l : List ByteArray) (s : ByteArray) (hl : l.length ≤ 1000000) :
    Pur cfg 189 [vSs l,vS s] (vI (idxB l s)):= by
 refine zV Tryz.func189 rfl Tryz.ntmps189 Tryz.results189 rfl ?_
 intro z hz
 refine sReg rfl<|rMv rfl<|zB<|zK<|sReg rfl<|rMv rfl<|zA rfl (zR rfl el72 rfl)<|rMv rfl<|zB<|zS<|zY ⟨[(8,.c _),(0,.c _),(1,.c _),(7,.c _)],[]⟩ (Weak.mk [] ⟨zE,zE,zE,zE,trivial⟩ rfl)<|qI 1 0 rfl rfl (Nat) (fun k => [(8,vI k)]) (fun k => []) (fun k => k ≤ l.length ∧ hasB (l.take k) s = false) (fun k => l.length - k) ⟨0,⟨by omega,rfl⟩,Weak.mk [] ⟨zE,zE,zE,zE,trivial⟩ rfl⟩ ?_
 rintro k ⟨hk,hp⟩
 refine sReg rfl<|zA rfl (qM rfl rfl rfl)<|zB<|zK<|zH rfl (fun c1 => ?_) (fun c1 => ?_)
 ·try simp only [sx] at c1
  obtain ⟨t,ht⟩ := qX l k (by omega)
  refine zJ<|zK<|zS<|sReg rfl<|rMv rfl<|rMv rfl<|zB<|sReg rfl<|rMv rfl<|rMv rfl<|rMv rfl<|zA rfl (zO rfl el72 rfl rfl (by omega) (getm ht))<|zA rfl (zD rfl one9 rfl qC rfl)<|zA rfl (yP rfl rfl rfl)<|zB<|zH rfl (fun c2 => ?_) (fun c2 => ?_)
  ·try simp only [sx] at c2
   refine sReg rfl<|rMv rfl<|rMv rfl<|zB<|zI<|zQ rfl ?_
   rw [idxB_some ht c2 hp]
  ·try simp only [sx] at c2
   refine zJ<|zU rfl<|zA rfl (qB rfl rfl rfl ⟨by omega,by omega⟩)<|rMv rfl<|zB ?_
   refine ⟨k + 1,⟨by omega,zMv ht hp (fun e => c2 e.symm)⟩,(by omega),Weak.mk [] ⟨zE,zE,zE,zE,trivial⟩ rfl⟩
 ·try simp only [sx] at c1
  refine qN<|sReg rfl<|rMv rfl<|zB<|zI<|zQ rfl ?_
  rw [idxB_none (by rw [yO (by omega)] at hp; exact hp)]
theorem zBa (l : List ByteArray) (s : ByteArray) (hl : l.length ≤ 1000000) :
    Pur cfg 156 [vSs l,vS s] (vB (hasB l s)):= by
 refine zV Tryz.func156 rfl Tryz.ntmps156 Tryz.results156 rfl ?_
 intro z hz
 refine sReg rfl<|rMv rfl<|zB<|sReg rfl<|rMv rfl<|rMv rfl<|zA rfl (zP rfl ok189 (zNd l s hl) ⟨zE,rfl,zE,rfl,trivial⟩)<|zA rfl (kZ rfl rfl rfl)<|rMv rfl<|zB<|zI<|zQ rfl ?_
 rw [idxB_has]
theorem lexer_keywords  :
    Pur cfg 157 [] (vSs words):= by
 refine zV Tryz.func157 rfl Tryz.ntmps157 Tryz.results157 rfl ?_
 intro z hz
 refine sReg rfl<|zA rfl (qY 1 rfl rfl)<|zB<|sReg rfl<|zA rfl (zP rfl ok190 (strings_Fields _ (by decide) kw_ascii) ⟨zE,rfl,trivial⟩)<|rMv rfl<|zB<|zI<|zQ rfl ?_
 exact congrArg vSs kw_fields
theorem zQs (s : ByteArray) :
    Pur cfg 118 [vS s] (vB (hasB words s)):= by
 refine zV Tryz.func118 rfl Tryz.ntmps118 Tryz.results118 rfl ?_
 intro z hz
 refine sReg rfl<|rMv rfl<|zB<|sReg rfl<|zA rfl (zP rfl ok157 (lexer_keywords) trivial)<|rMv rfl<|zA rfl (zP rfl ok156 (zBa _ _ (by decide)) ⟨zE,rfl,zE,rfl,trivial⟩)<|rMv rfl<|zB<|zI<|zQ rfl ?_
 exact rfl
theorem zDb (s : ByteArray) :
    Pur cfg 66 [vS s] (vB (isNameB s)):= by
 refine zV Tryz.func66 rfl Tryz.ntmps66 Tryz.results66 rfl ?_
 intro z hz
 refine sReg rfl<|rMv rfl<|zB<|sReg rfl<|rMv rfl<|zA rfl (zCd rfl rfl rfl)<|rMv rfl<|rLz [] rfl gv1 trivial (fun g1_2 => zN rfl rfl) rfl<|rLz [(6,_)] rfl gv1 ⟨rfl,rfl,trivial⟩ (fun g1_2 => wI rfl un9 rfl) rfl<|rLz [(7,_)] rfl gv1 ⟨rfl,rfl,trivial⟩ (fun g1_2 => kY rfl rfl rfl) rfl<|zA rfl (qK rfl rfl rfl (fun h => h) rfl)<|rMv rfl<|rLz [] rfl gv1 trivial (fun g1_7 => zN rfl rfl) rfl<|rLz [(11,_)] rfl gv1 ⟨rfl,rfl,trivial⟩ (fun g1_7 => zBq rfl un9 rfl rfl (by decide) (size_pos (nm1 g1_7))) rfl<|rLz [(12,_)] rfl gv1 ⟨rfl,rfl,trivial⟩ (fun g1_7 => zAz rfl us5 ik21 rfl) rfl<|rLz [(13,_)] rfl gv1 ⟨rfl,rfl,trivial⟩ (fun g1_7 => zP rfl ok115 (zMt _) ⟨zE,rfl,trivial⟩) rfl<|zA rfl (qK rfl rfl rfl (fun h => h) rfl)<|rMv rfl<|rLz [] rfl gv1 trivial (fun g1_13 => zN rfl rfl) rfl<|rLz [(17,_)] rfl gv1 ⟨rfl,rfl,trivial⟩ (fun g1_13 => zP rfl ok116 (zLz s (nm2 g1_13)) ⟨zE,rfl,zE,rfl,trivial⟩) rfl<|rLz [] rfl gv1 trivial (fun g1_13 => zN rfl rfl) rfl<|rLz [(19,_)] rfl gv1 ⟨rfl,rfl,trivial⟩ (fun g1_13 => wI rfl un9 rfl) rfl<|rLz [(18,_),(20,_)] rfl gv1 ⟨rfl,rfl,rfl,rfl,trivial⟩ (fun g1_13 => qF rfl rfl rfl) rfl<|zA rfl (qK rfl rfl rfl (fun h => h) rfl)<|rMv rfl<|rLz [] rfl gv1 trivial (fun g1_20 => zN rfl rfl) rfl<|rLz [(24,_)] rfl gv1 ⟨rfl,rfl,trivial⟩ (fun g1_20 => zP rfl ok118 (zQs _) ⟨zE,rfl,trivial⟩) rfl<|rLz [(25,_)] rfl gv1 ⟨rfl,rfl,trivial⟩ (fun g1_20 => qT rfl rfl) rfl<|zA rfl (qK rfl rfl rfl (fun h => h) rfl)<|rMv rfl<|zB<|zI<|zQ rfl ?_
 exact congrArg vB (isName_eq s)
theorem base_Words  :
    Pur cfg 103 [] (vSs words):= by
 refine zV Tryz.func103 rfl Tryz.ntmps103 Tryz.results103 rfl ?_
 intro z hz
 refine sReg rfl<|zA rfl (qY 1 rfl rfl)<|zB<|sReg rfl<|zA rfl (qZ rfl el72 zr9 rfl rfl rfl rfl)<|rMv rfl<|zB<|zI<|zQ rfl ?_
 exact rfl
theorem base_Has (l : List ByteArray) (s : ByteArray) (hl : l.length ≤ 6000000000000) :
    Pur cfg 49 [vSs l,vS s] (vB (hasB l s)):= by
 refine zV Tryz.func49 rfl Tryz.ntmps49 Tryz.results49 rfl ?_
 intro z hz
 refine sReg rfl<|rMv rfl<|zB<|zK<|sReg rfl<|rMv rfl<|zB<|zS<|zY ⟨[(5,.c _),(0,.c _),(1,.c _)],[]⟩ (Weak.mk [] ⟨zE,zE,zE,trivial⟩ rfl)<|qI 1 0 rfl rfl (Nat) (fun k => [(5,vI k)]) (fun k => []) (fun k => k ≤ l.length ∧ hasB (l.take k) s = false) (fun k => l.length - k) ⟨0,⟨by omega,rfl⟩,Weak.mk [] ⟨zE,zE,zE,trivial⟩ rfl⟩ ?_
 rintro k ⟨hk,hp⟩
 refine zK<|sReg rfl<|rMv rfl<|rMv rfl<|zA rfl (zR rfl el72 rfl)<|zA rfl (qM rfl rfl rfl)<|zB<|zH rfl (fun c1 => ?_) (fun c1 => ?_)
 ·try simp only [sx] at c1
  obtain ⟨t,ht⟩ := qX l k (by omega)
  refine zJ<|zK<|zS<|sReg rfl<|rMv rfl<|rMv rfl<|zA rfl (zO rfl el72 rfl rfl (by omega) (getm ht))<|zA rfl (zD rfl one9 rfl qC rfl)<|rMv rfl<|zA rfl (yP rfl rfl rfl)<|zB<|zH rfl (fun c2 => ?_) (fun c2 => ?_)
  ·try simp only [sx] at c2
   refine sReg rfl<|rMv rfl<|zB<|zI<|zQ rfl ?_
   rw [yR ht c2]
  ·try simp only [sx] at c2
   refine zJ<|zU rfl<|rMv rfl<|zA rfl (qB rfl rfl rfl ⟨by omega,by omega⟩)<|rMv rfl<|zB ?_
   refine ⟨k + 1,⟨by omega,zMv ht hp c2⟩,(by omega),Weak.mk [] ⟨zE,zE,zE,trivial⟩ rfl⟩
 ·try simp only [sx] at c1
  refine qN<|sReg rfl<|rMv rfl<|zB<|zI<|zQ rfl ?_
  rw [show hasB l s = false by rw [yO (by omega)] at hp; exact hp]
theorem zEa (s : ByteArray) :
    Pur cfg 50 [vS s] (vB (isNameB s)):= by
 refine zV Tryz.func50 rfl Tryz.ntmps50 Tryz.results50 rfl ?_
 intro z hz
 refine sReg rfl<|rMv rfl<|zB<|zK<|sReg rfl<|rMv rfl<|zA rfl (wI rfl un9 rfl)<|zA rfl (qM rfl rfl rfl)<|rMv rfl<|rLz [] rfl gv1 trivial (fun g1_3 => zN rfl rfl) rfl<|rLz [(9,_)] rfl gv1 ⟨rfl,rfl,trivial⟩ (fun g1_3 => wI rfl un9 rfl) rfl<|rLz [(10,_)] rfl gv1 ⟨rfl,rfl,trivial⟩ (fun g1_3 => yA rfl rfl rfl) rfl<|zA rfl (yB rfl rfl rfl rfl (fun h => (lzf h)))<|rMv rfl<|rLz [] rfl gv1 trivial (fun g1_8 => zP rfl ok103 (base_Words) trivial) rfl<|rLz [] rfl gv1 trivial (fun g1_8 => zN rfl rfl) rfl<|rLz [(14,_),(15,_)] rfl gv1 ⟨rfl,rfl,rfl,rfl,trivial⟩ (fun g1_8 => zP rfl ok49 (base_Has _ _ (by decide)) ⟨zE,rfl,zE,rfl,trivial⟩) rfl<|zA rfl (yB rfl rfl rfl rfl (fun h => (lzf h)))<|zB<|zH rfl (fun c1 => ?_) (fun c1 => ?_)
 ·try simp only [sx] at c1
  have hno := name_short (s := s) (by simpa using c1)
  refine sReg rfl<|rMv rfl<|zB<|zI<|zQ rfl ?_
  rw [hno]
 ·try simp only [sx] at c1
  obtain ⟨⟨n1,n2⟩,n3⟩ := c1
  have n1 : 1 ≤ s.size:= by omega
  have n2 : s.size ≤ 16:= by omega
  have hne := name_end n1 n2 n3
  refine zJ<|zK<|sReg rfl<|rMv rfl<|zB<|zS<|zY ⟨[(3,.c _),(0,.c _)],[]⟩ (Weak.mk [] ⟨zE,zE,trivial⟩ rfl)<|qI 1 0 rfl rfl (Nat) (fun k => [(3,vI k)]) (fun k => []) (fun k => k ≤ s.size ∧ okTo s k = true) (fun k => s.size - k) ⟨0,⟨by omega,rfl⟩,Weak.mk [] ⟨zE,zE,trivial⟩ rfl⟩ ?_
  rintro k ⟨hk,hp⟩
  refine zK<|sReg rfl<|rMv rfl<|rMv rfl<|zA rfl (wI rfl un9 rfl)<|zA rfl (qM rfl rfl rfl)<|zB<|zH rfl (fun c2 => ?_) (fun c2 => ?_)
  ·try simp only [sx] at c2
   have hlt : k < s.size:= by omega
   refine zJ<|zK<|zS<|sReg rfl<|rMv rfl<|rMv rfl<|zA rfl (zBq rfl un9 rfl rfl (by omega) (by omega))<|rMv rfl<|zB<|sReg rfl<|rMv rfl<|zA rfl (kZ rfl rfl rfl)<|rMv rfl<|rLz [] rfl gv1 trivial (fun g7_2 => zN rfl rfl) rfl<|rLz [(30,_)] rfl gv1 ⟨rfl,rfl,trivial⟩ (fun g7_2 => kY rfl rfl rfl) rfl<|zA rfl (qK rfl rfl rfl (fun h => h) rfl)<|rMv rfl<|rLz [] rfl gv1 trivial (fun g7_6 => zN rfl rfl) rfl<|rLz [(34,_)] rfl gv1 ⟨rfl,rfl,trivial⟩ (fun g7_6 => yA rfl rfl rfl) rfl<|rLz [(35,_)] rfl gv1 ⟨rfl,rfl,trivial⟩ (fun g7_6 => zN rfl rfl) rfl<|rLz [] rfl gv2 trivial (fun g7_9 => zN rfl rfl) rfl<|rLz [(37,_)] rfl gv2 ⟨rfl,rfl,trivial⟩ (fun g7_9 => kZ rfl rfl rfl) rfl<|rLz [(38,_)] rfl gv2 ⟨rfl,rfl,trivial⟩ (fun g7_9 => zN rfl rfl) rfl<|rLz [] rfl gv2 trivial (fun g7_12 => zN rfl rfl) rfl<|rLz [(40,_)] rfl gv2 ⟨rfl,rfl,trivial⟩ (fun g7_12 => kY rfl rfl rfl) rfl<|rLz [(39,_)] rfl gv2 ⟨rfl,rfl,trivial⟩ (fun g7_9 => qK rfl rfl rfl (fun h => yV (by assumption) h) rfl) rfl<|rLz [(42,_)] rfl gv2 ⟨rfl,rfl,trivial⟩ (fun g7_9 => zN rfl rfl) rfl<|rLz [] rfl gv2 trivial (fun g7_16 => zN rfl rfl) rfl<|rLz [(44,_)] rfl gv2 ⟨rfl,rfl,trivial⟩ (fun g7_16 => qF rfl rfl rfl) rfl<|rLz [(43,_)] rfl gv2 ⟨rfl,rfl,trivial⟩ (fun g7_9 => yB rfl rfl rfl rfl (fun h => yV (by assumption) (lzf h))) rfl<|rLz [(36,_)] rfl gv1 ⟨rfl,rfl,trivial⟩ (fun g7_6 => qK rfl rfl rfl (fun h => yV (by assumption) h) rfl) rfl<|zA rfl (yB rfl rfl rfl rfl (fun h => (lzf h)))<|zA rfl (qT rfl rfl)<|zB<|zH rfl (fun c3 => ?_) (fun c3 => ?_)
   ·have hbad : okTo s (k + 1) = false:= by rw [okTo_next,show nameOk k (s.data.toList.getD k 0) = false from (Bool.not_eq_true' _).mp c3]; simp
    refine sReg rfl<|rMv rfl<|zB<|zI<|zQ rfl ?_
    rw [hne]; cases ho : okTo s s.size; rfl; exact absurd (okTo_le (k := k + 1) (by omega) ho) (by rw [hbad]; simp)
   ·have hgood : okTo s (k + 1) = true:= by rw [okTo_next,hp,show nameOk k (s.data.toList.getD k 0) = true from (Bool.not_eq_false' _).mp c3]; rfl
    refine zJ<|zU rfl<|rMv rfl<|zA rfl (qB rfl rfl rfl ⟨by omega,by omega⟩)<|rMv rfl<|zB ?_
    refine ⟨k + 1,⟨by omega,hgood⟩,(by omega),Weak.mk [] ⟨zE,zE,trivial⟩ rfl⟩
  ·try simp only [sx] at c2
   refine qN<|sReg rfl<|rMv rfl<|zB<|zI<|zQ rfl ?_
   rw [hne,show s.size = k by omega,hp]
theorem lin_reserved (s : ByteArray) :
    Pur cfg 176 [vS s] (vB (hasB words s)):= by
 refine zV Tryz.func176 rfl Tryz.ntmps176 Tryz.results176 rfl ?_
 intro z hz
 refine sReg rfl<|rMv rfl<|zB<|zK<|sReg rfl<|rMv rfl<|zB<|zS<|zK<|sReg rfl<|zA rfl (yP rfl rfl rfl)<|rMv rfl<|zB<|zH rfl (fun c1 => ?_) (fun c1 => ?_)
 ·try simp only [sx] at c1
  refine zJ<|zH rfl (fun c22 => ?_) (fun c22 => ?_)
  ·try simp only [sx] at c22
   refine sReg rfl<|rMv rfl<|zB<|zI<|zQ rfl ?_
   rw [yR (l := words) (k := 0) rfl c1.symm]
  ·try simp only [sx] at c22
   refine zJ<|sReg rfl<|rMv rfl<|zB<|zI<|zQ rfl ?_
   exact absurd c1 c22
 ·try simp only [sx] at c1
  refine sReg rfl<|zA rfl (yP rfl rfl rfl)<|rMv rfl<|zB<|zH rfl (fun c2 => ?_) (fun c2 => ?_)
  ·try simp only [sx] at c2
   refine zJ<|zH rfl (fun c22 => ?_) (fun c22 => ?_)
   ·try simp only [sx] at c22
    refine sReg rfl<|rMv rfl<|zB<|zI<|zQ rfl ?_
    rw [yR (l := words) (k := 1) rfl c2.symm]
   ·try simp only [sx] at c22
    refine zJ<|sReg rfl<|rMv rfl<|zB<|zI<|zQ rfl ?_
    exact absurd c2 c22
  ·try simp only [sx] at c2
   refine sReg rfl<|zA rfl (yP rfl rfl rfl)<|rMv rfl<|zB<|zH rfl (fun c3 => ?_) (fun c3 => ?_)
   ·try simp only [sx] at c3
    refine zJ<|zH rfl (fun c22 => ?_) (fun c22 => ?_)
    ·try simp only [sx] at c22
     refine sReg rfl<|rMv rfl<|zB<|zI<|zQ rfl ?_
     rw [yR (l := words) (k := 2) rfl c3.symm]
    ·try simp only [sx] at c22
     refine zJ<|sReg rfl<|rMv rfl<|zB<|zI<|zQ rfl ?_
     exact absurd c3 c22
   ·try simp only [sx] at c3
    refine sReg rfl<|zA rfl (yP rfl rfl rfl)<|rMv rfl<|zB<|zH rfl (fun c4 => ?_) (fun c4 => ?_)
    ·try simp only [sx] at c4
     refine zJ<|zH rfl (fun c22 => ?_) (fun c22 => ?_)
     ·try simp only [sx] at c22
      refine sReg rfl<|rMv rfl<|zB<|zI<|zQ rfl ?_
      rw [yR (l := words) (k := 3) rfl c4.symm]
     ·try simp only [sx] at c22
      refine zJ<|sReg rfl<|rMv rfl<|zB<|zI<|zQ rfl ?_
      exact absurd c4 c22
    ·try simp only [sx] at c4
     refine sReg rfl<|zA rfl (yP rfl rfl rfl)<|rMv rfl<|zB<|zH rfl (fun c5 => ?_) (fun c5 => ?_)
     ·try simp only [sx] at c5
      refine zJ<|zH rfl (fun c22 => ?_) (fun c22 => ?_)
      ·try simp only [sx] at c22
       refine sReg rfl<|rMv rfl<|zB<|zI<|zQ rfl ?_
       rw [yR (l := words) (k := 4) rfl c5.symm]
      ·try simp only [sx] at c22
       refine zJ<|sReg rfl<|rMv rfl<|zB<|zI<|zQ rfl ?_
       exact absurd c5 c22
     ·try simp only [sx] at c5
      refine sReg rfl<|zA rfl (yP rfl rfl rfl)<|rMv rfl<|zB<|zH rfl (fun c6 => ?_) (fun c6 => ?_)
      ·try simp only [sx] at c6
       refine zJ<|zH rfl (fun c22 => ?_) (fun c22 => ?_)
       ·try simp only [sx] at c22
        refine sReg rfl<|rMv rfl<|zB<|zI<|zQ rfl ?_
        rw [yR (l := words) (k := 5) rfl c6.symm]
       ·try simp only [sx] at c22
        refine zJ<|sReg rfl<|rMv rfl<|zB<|zI<|zQ rfl ?_
        exact absurd c6 c22
      ·try simp only [sx] at c6
       refine sReg rfl<|zA rfl (yP rfl rfl rfl)<|rMv rfl<|zB<|zH rfl (fun c7 => ?_) (fun c7 => ?_)
       ·try simp only [sx] at c7
        refine zJ<|zH rfl (fun c22 => ?_) (fun c22 => ?_)
        ·try simp only [sx] at c22
         refine sReg rfl<|rMv rfl<|zB<|zI<|zQ rfl ?_
         rw [yR (l := words) (k := 6) rfl c7.symm]
        ·try simp only [sx] at c22
         refine zJ<|sReg rfl<|rMv rfl<|zB<|zI<|zQ rfl ?_
         exact absurd c7 c22
       ·try simp only [sx] at c7
        refine sReg rfl<|zA rfl (yP rfl rfl rfl)<|rMv rfl<|zB<|zH rfl (fun c8 => ?_) (fun c8 => ?_)
        ·try simp only [sx] at c8
         refine zJ<|zH rfl (fun c22 => ?_) (fun c22 => ?_)
         ·try simp only [sx] at c22
          refine sReg rfl<|rMv rfl<|zB<|zI<|zQ rfl ?_
          rw [yR (l := words) (k := 7) rfl c8.symm]
         ·try simp only [sx] at c22
          refine zJ<|sReg rfl<|rMv rfl<|zB<|zI<|zQ rfl ?_
          exact absurd c8 c22
        ·try simp only [sx] at c8
         refine sReg rfl<|zA rfl (yP rfl rfl rfl)<|rMv rfl<|zB<|zH rfl (fun c9 => ?_) (fun c9 => ?_)
         ·try simp only [sx] at c9
          refine zJ<|zH rfl (fun c22 => ?_) (fun c22 => ?_)
          ·try simp only [sx] at c22
           refine sReg rfl<|rMv rfl<|zB<|zI<|zQ rfl ?_
           rw [yR (l := words) (k := 8) rfl c9.symm]
          ·try simp only [sx] at c22
           refine zJ<|sReg rfl<|rMv rfl<|zB<|zI<|zQ rfl ?_
           exact absurd c9 c22
         ·try simp only [sx] at c9
          refine sReg rfl<|zA rfl (yP rfl rfl rfl)<|rMv rfl<|zB<|zH rfl (fun c10 => ?_) (fun c10 => ?_)
          ·try simp only [sx] at c10
           refine zJ<|zH rfl (fun c22 => ?_) (fun c22 => ?_)
           ·try simp only [sx] at c22
            refine sReg rfl<|rMv rfl<|zB<|zI<|zQ rfl ?_
            rw [yR (l := words) (k := 9) rfl c10.symm]
           ·try simp only [sx] at c22
            refine zJ<|sReg rfl<|rMv rfl<|zB<|zI<|zQ rfl ?_
            exact absurd c10 c22
          ·try simp only [sx] at c10
           refine sReg rfl<|zA rfl (yP rfl rfl rfl)<|rMv rfl<|zB<|zH rfl (fun c11 => ?_) (fun c11 => ?_)
           ·try simp only [sx] at c11
            refine zJ<|zH rfl (fun c22 => ?_) (fun c22 => ?_)
            ·try simp only [sx] at c22
             refine sReg rfl<|rMv rfl<|zB<|zI<|zQ rfl ?_
             rw [yR (l := words) (k := 10) rfl c11.symm]
            ·try simp only [sx] at c22
             refine zJ<|sReg rfl<|rMv rfl<|zB<|zI<|zQ rfl ?_
             exact absurd c11 c22
           ·try simp only [sx] at c11
            refine sReg rfl<|zA rfl (yP rfl rfl rfl)<|rMv rfl<|zB<|zH rfl (fun c12 => ?_) (fun c12 => ?_)
            ·try simp only [sx] at c12
             refine zJ<|zH rfl (fun c22 => ?_) (fun c22 => ?_)
             ·try simp only [sx] at c22
              refine sReg rfl<|rMv rfl<|zB<|zI<|zQ rfl ?_
              rw [yR (l := words) (k := 11) rfl c12.symm]
             ·try simp only [sx] at c22
              refine zJ<|sReg rfl<|rMv rfl<|zB<|zI<|zQ rfl ?_
              exact absurd c12 c22
            ·try simp only [sx] at c12
             refine sReg rfl<|zA rfl (yP rfl rfl rfl)<|rMv rfl<|zB<|zH rfl (fun c13 => ?_) (fun c13 => ?_)
             ·try simp only [sx] at c13
              refine zJ<|zH rfl (fun c22 => ?_) (fun c22 => ?_)
              ·try simp only [sx] at c22
               refine sReg rfl<|rMv rfl<|zB<|zI<|zQ rfl ?_
               rw [yR (l := words) (k := 12) rfl c13.symm]
              ·try simp only [sx] at c22
               refine zJ<|sReg rfl<|rMv rfl<|zB<|zI<|zQ rfl ?_
               exact absurd c13 c22
             ·try simp only [sx] at c13
              refine sReg rfl<|zA rfl (yP rfl rfl rfl)<|rMv rfl<|zB<|zH rfl (fun c14 => ?_) (fun c14 => ?_)
              ·try simp only [sx] at c14
               refine zJ<|zH rfl (fun c22 => ?_) (fun c22 => ?_)
               ·try simp only [sx] at c22
                refine sReg rfl<|rMv rfl<|zB<|zI<|zQ rfl ?_
                rw [yR (l := words) (k := 13) rfl c14.symm]
               ·try simp only [sx] at c22
                refine zJ<|sReg rfl<|rMv rfl<|zB<|zI<|zQ rfl ?_
                exact absurd c14 c22
              ·try simp only [sx] at c14
               refine sReg rfl<|zA rfl (yP rfl rfl rfl)<|rMv rfl<|zB<|zH rfl (fun c15 => ?_) (fun c15 => ?_)
               ·try simp only [sx] at c15
                refine zJ<|zH rfl (fun c22 => ?_) (fun c22 => ?_)
                ·try simp only [sx] at c22
                 refine sReg rfl<|rMv rfl<|zB<|zI<|zQ rfl ?_
                 rw [yR (l := words) (k := 14) rfl c15.symm]
                ·try simp only [sx] at c22
                 refine zJ<|sReg rfl<|rMv rfl<|zB<|zI<|zQ rfl ?_
                 exact absurd c15 c22
               ·try simp only [sx] at c15
                refine sReg rfl<|zA rfl (yP rfl rfl rfl)<|rMv rfl<|zB<|zH rfl (fun c16 => ?_) (fun c16 => ?_)
                ·try simp only [sx] at c16
                 refine zJ<|zH rfl (fun c22 => ?_) (fun c22 => ?_)
                 ·try simp only [sx] at c22
                  refine sReg rfl<|rMv rfl<|zB<|zI<|zQ rfl ?_
                  rw [yR (l := words) (k := 15) rfl c16.symm]
                 ·try simp only [sx] at c22
                  refine zJ<|sReg rfl<|rMv rfl<|zB<|zI<|zQ rfl ?_
                  exact absurd c16 c22
                ·try simp only [sx] at c16
                 refine sReg rfl<|zA rfl (yP rfl rfl rfl)<|rMv rfl<|zB<|zH rfl (fun c17 => ?_) (fun c17 => ?_)
                 ·try simp only [sx] at c17
                  refine zJ<|zH rfl (fun c22 => ?_) (fun c22 => ?_)
                  ·try simp only [sx] at c22
                   refine sReg rfl<|rMv rfl<|zB<|zI<|zQ rfl ?_
                   rw [yR (l := words) (k := 16) rfl c17.symm]
                  ·try simp only [sx] at c22
                   refine zJ<|sReg rfl<|rMv rfl<|zB<|zI<|zQ rfl ?_
                   exact absurd c17 c22
                 ·try simp only [sx] at c17
                  refine sReg rfl<|zA rfl (yP rfl rfl rfl)<|rMv rfl<|zB<|zH rfl (fun c18 => ?_) (fun c18 => ?_)
                  ·try simp only [sx] at c18
                   refine zJ<|zH rfl (fun c22 => ?_) (fun c22 => ?_)
                   ·try simp only [sx] at c22
                    refine sReg rfl<|rMv rfl<|zB<|zI<|zQ rfl ?_
                    rw [yR (l := words) (k := 17) rfl c18.symm]
                   ·try simp only [sx] at c22
                    refine zJ<|sReg rfl<|rMv rfl<|zB<|zI<|zQ rfl ?_
                    exact absurd c18 c22
                  ·try simp only [sx] at c18
                   refine sReg rfl<|zA rfl (yP rfl rfl rfl)<|rMv rfl<|zB<|zH rfl (fun c19 => ?_) (fun c19 => ?_)
                   ·try simp only [sx] at c19
                    refine zJ<|zH rfl (fun c22 => ?_) (fun c22 => ?_)
                    ·try simp only [sx] at c22
                     refine sReg rfl<|rMv rfl<|zB<|zI<|zQ rfl ?_
                     rw [yR (l := words) (k := 18) rfl c19.symm]
                    ·try simp only [sx] at c22
                     refine zJ<|sReg rfl<|rMv rfl<|zB<|zI<|zQ rfl ?_
                     exact absurd c19 c22
                   ·try simp only [sx] at c19
                    refine sReg rfl<|zA rfl (yP rfl rfl rfl)<|rMv rfl<|zB<|zH rfl (fun c20 => ?_) (fun c20 => ?_)
                    ·try simp only [sx] at c20
                     refine zJ<|zH rfl (fun c22 => ?_) (fun c22 => ?_)
                     ·try simp only [sx] at c22
                      refine sReg rfl<|rMv rfl<|zB<|zI<|zQ rfl ?_
                      rw [yR (l := words) (k := 19) rfl c20.symm]
                     ·try simp only [sx] at c22
                      refine zJ<|sReg rfl<|rMv rfl<|zB<|zI<|zQ rfl ?_
                      exact absurd c20 c22
                    ·try simp only [sx] at c20
                     refine sReg rfl<|zA rfl (yP rfl rfl rfl)<|rMv rfl<|zB<|zH rfl (fun c21 => ?_) (fun c21 => ?_)
                     ·try simp only [sx] at c21
                      refine zJ<|zH rfl (fun c22 => ?_) (fun c22 => ?_)
                      ·try simp only [sx] at c22
                       refine sReg rfl<|rMv rfl<|zB<|zI<|zQ rfl ?_
                       rw [yR (l := words) (k := 20) rfl c21.symm]
                      ·try simp only [sx] at c22
                       refine zJ<|sReg rfl<|rMv rfl<|zB<|zI<|zQ rfl ?_
                       exact absurd c21 c22
                     ·try simp only [sx] at c21
                      refine zU rfl<|zA rfl (yP rfl rfl rfl)<|rMv rfl<|zB<|zH rfl (fun c22 => ?_) (fun c22 => ?_)
                      ·try simp only [sx] at c22
                       refine sReg rfl<|rMv rfl<|zB<|zI<|zQ rfl ?_
                       rw [yR (l := words) (k := 21) rfl c22.symm]
                      ·try simp only [sx] at c22
                       refine zJ<|sReg rfl<|rMv rfl<|zB<|zI<|zQ rfl ?_
                       rw [show hasB words s = false by
                         simp only [hasB,words,List.any_cons,List.any_nil,Bool.or_eq_false_iff,decide_eq_false_iff_not]
                         exact ⟨fun h => c1 h.symm,fun h => c2 h.symm,fun h => c3 h.symm,fun h => c4 h.symm,fun h => c5 h.symm,fun h => c6 h.symm,fun h => c7 h.symm,fun h => c8 h.symm,fun h => c9 h.symm,fun h => c10 h.symm,fun h => c11 h.symm,fun h => c12 h.symm,fun h => c13 h.symm,fun h => c14 h.symm,fun h => c15 h.symm,fun h => c16 h.symm,fun h => c17 h.symm,fun h => c18 h.symm,fun h => c19 h.symm,fun h => c20 h.symm,fun h => c21 h.symm,fun h => c22 h.symm,trivial⟩]
theorem zIf (s : ByteArray) :
    Pur cfg 141 [vS s] (vB (isNameB s)):= by
 refine zV Tryz.func141 rfl Tryz.ntmps141 Tryz.results141 rfl ?_
 intro z hz
 refine sReg rfl<|rMv rfl<|zB<|zK<|sReg rfl<|rMv rfl<|zA rfl (wI rfl un9 rfl)<|zA rfl (qM rfl rfl rfl)<|rMv rfl<|rLz [] rfl gv1 trivial (fun g1_3 => zN rfl rfl) rfl<|rLz [(9,_)] rfl gv1 ⟨rfl,rfl,trivial⟩ (fun g1_3 => wI rfl un9 rfl) rfl<|rLz [(10,_)] rfl gv1 ⟨rfl,rfl,trivial⟩ (fun g1_3 => yA rfl rfl rfl) rfl<|zA rfl (yB rfl rfl rfl rfl (fun h => (lzf h)))<|rMv rfl<|rLz [] rfl gv1 trivial (fun g1_8 => zN rfl rfl) rfl<|rLz [(14,_)] rfl gv1 ⟨rfl,rfl,trivial⟩ (fun g1_8 => zP rfl ok176 (lin_reserved _) ⟨zE,rfl,trivial⟩) rfl<|zA rfl (yB rfl rfl rfl rfl (fun h => (lzf h)))<|rMv rfl<|rLz [] rfl gv1 trivial (fun g1_12 => zN rfl rfl) rfl<|rLz [(18,_)] rfl gv1 ⟨rfl,rfl,trivial⟩ (fun g1_12 => zBq rfl un9 rfl rfl (by decide) (by simp only [Lz,cond_true,cond_false,Bool.and_eq_true,Bool.or_eq_true,Bool.not_eq_true',Bool.not_eq_false',Bool.or_eq_false_iff,Bool.and_eq_false_iff,decide_eq_true_eq,decide_eq_false_iff_not,Bool.not_eq_true,Bool.not_eq_false] at g1_12; omega)) rfl<|rLz [(19,_)] rfl gv1 ⟨rfl,rfl,trivial⟩ (fun g1_12 => qM rfl rfl rfl) rfl<|zA rfl (yB rfl rfl rfl rfl (fun h => (lzf h)))<|rMv rfl<|rLz [] rfl gv1 trivial (fun g1_17 => zN rfl rfl) rfl<|rLz [(23,_)] rfl gv1 ⟨rfl,rfl,trivial⟩ (fun g1_17 => zBq rfl un9 rfl rfl (by decide) (by simp only [Lz,cond_true,cond_false,Bool.and_eq_true,Bool.or_eq_true,Bool.not_eq_true',Bool.not_eq_false',Bool.or_eq_false_iff,Bool.and_eq_false_iff,decide_eq_true_eq,decide_eq_false_iff_not,Bool.not_eq_true,Bool.not_eq_false] at g1_17; omega)) rfl<|rLz [(24,_)] rfl gv1 ⟨rfl,rfl,trivial⟩ (fun g1_17 => yA rfl rfl rfl) rfl<|zA rfl (yB rfl rfl rfl rfl (fun h => (lzf h)))<|zB<|zH rfl (fun c1 => ?_) (fun c1 => ?_)
 ·have hno := ident_no c1
  refine sReg rfl<|rMv rfl<|zB<|zI<|zQ rfl ?_
  rw [hno]
 ·obtain ⟨n1,n2,hne⟩ := ident_yes c1
  refine zJ<|zK<|sReg rfl<|rMv rfl<|zA rfl (wI rfl un9 rfl)<|rMv rfl<|zB<|zS<|zY ⟨[(29,.c _),(0,.c _),(28,.c _)],[]⟩ (Weak.mk [] ⟨zE,zE,zE,trivial⟩ rfl)<|qI 1 0 rfl rfl (Nat) (fun k => [(29,vI k)]) (fun k => []) (fun k => k ≤ s.size ∧ (s.data.toList.take k).all inWordB = true) (fun k => s.size - k) ⟨0,⟨by omega,rfl⟩,Weak.mk [] ⟨zE,zE,zE,trivial⟩ rfl⟩ ?_
  rintro k ⟨hk,hp⟩
  refine sReg rfl<|zA rfl (qM rfl rfl rfl)<|zB<|zK<|zH rfl (fun c2 => ?_) (fun c2 => ?_)
  ·try simp only [sx] at c2
   have hlt : k < s.size:= by omega
   refine zJ<|zK<|zS<|sReg rfl<|rMv rfl<|rMv rfl<|zB<|sReg rfl<|rMv rfl<|rMv rfl<|zA rfl (zBq rfl un9 rfl rfl (by omega) (by omega))<|rMv rfl<|zB<|sReg rfl<|rMv rfl<|zA rfl (qM rfl rfl rfl)<|rMv rfl<|rLz [] rfl gv1 trivial (fun g7_2 => zN rfl rfl) rfl<|rLz [(38,_)] rfl gv1 ⟨rfl,rfl,trivial⟩ (fun g7_2 => yA rfl rfl rfl) rfl<|zA rfl (yB rfl rfl rfl rfl (fun h => (lzf h)))<|rMv rfl<|rLz [] rfl gv1 trivial (fun g7_6 => zN rfl rfl) rfl<|rLz [(42,_)] rfl gv1 ⟨rfl,rfl,trivial⟩ (fun g7_6 => qM rfl rfl rfl) rfl<|rLz [(43,_)] rfl gv1 ⟨rfl,rfl,trivial⟩ (fun g7_6 => zN rfl rfl) rfl<|rLz [] rfl gv2 trivial (fun g7_9 => zN rfl rfl) rfl<|rLz [(45,_)] rfl gv2 ⟨rfl,rfl,trivial⟩ (fun g7_9 => yA rfl rfl rfl) rfl<|rLz [(44,_)] rfl gv1 ⟨rfl,rfl,trivial⟩ (fun g7_6 => yB rfl rfl rfl rfl (fun h => yV (by assumption) (lzf h))) rfl<|zA rfl (qK rfl rfl rfl (fun h => h) rfl)<|rMv rfl<|rLz [] rfl gv1 trivial (fun g7_14 => zN rfl rfl) rfl<|rLz [(50,_)] rfl gv1 ⟨rfl,rfl,trivial⟩ (fun g7_14 => qR rfl rfl rfl) rfl<|zA rfl (qK rfl rfl rfl (fun h => h) rfl)<|zB<|zH rfl (fun c3 => ?_) (fun c3 => ?_)
   ·have hbad := word_no hlt c3
    refine sReg rfl<|rMv rfl<|zB<|zI<|zQ rfl ?_
    rw [hne,hbad]
   ·have hgood := word_yes hlt hp c3
    refine zJ<|zU rfl<|zA rfl (qB rfl rfl rfl ⟨by omega,by omega⟩)<|rMv rfl<|zB ?_
    refine ⟨k + 1,⟨by omega,hgood⟩,(by omega),Weak.mk [] ⟨zE,zE,zE,trivial⟩ rfl⟩
  ·try simp only [sx] at c2
   refine qN<|sReg rfl<|rMv rfl<|zB<|zI<|zQ rfl ?_
   rw [hne,word_all hp (by omega)]
theorem zBg (l : Lf) (hl : l.L.length ≤ 6000000000000) :
    Pur cfg 140 [vLin l] (vI (linErr l)):= by
 refine zV Tryz.func140 rfl Tryz.ntmps140 Tryz.results140 rfl ?_
 intro z hz
 refine sReg rfl<|qA rfl rfl (qL rfl rfl) ?_
 rintro _ _ ⟨b1,rfl,rfl⟩
 refine rMv rfl<|zB<|zK<|sReg rfl<|zA rfl (zC rfl kO rfl)<|zA rfl (zD rfl wZ rfl (zF 0 rfl) rfl)<|zA rfl (zR rfl el47 rfl)<|rMv rfl<|zB<|zS<|zY ⟨[(8,.c _),(1,.c _),(6,.c _),(7,.c _)],[_]⟩ (Weak.mk [true] ⟨zE,zE,zE,zE,trivial⟩ rfl)<|qI 1 0 rfl rfl (Nat) (fun k => [(8,vI k)]) (fun k => []) (fun k => k ≤ l.L.length ∧ (linOk l = monosOk (prevOf l.L k) (l.L.drop k))) (fun k => l.L.length - k) ⟨0,⟨by omega,rfl⟩,Weak.mk [true] ⟨zE,zE,zE,zE,trivial⟩ rfl⟩ ?_
 rintro k ⟨hk,hp⟩
 refine sReg rfl<|zA rfl (qM rfl rfl rfl)<|zB<|zK<|zH rfl (fun c1 => ?_) (fun c1 => ?_)
 ·try simp only [sx] at c1
  obtain ⟨x,hx⟩ := qX l.L k (by omega)
  refine zJ<|zK<|zS<|sReg rfl<|rMv rfl<|zA rfl (zO rfl el47 rfl rfl (by omega) (getm (by assumption)))<|zA rfl (zG rfl zEc rfl qC rfl)<|qA rfl rfl (yJ rfl zFu) ?_
  rintro _ _ ⟨b2,rfl,rfl⟩
  refine rMv rfl<|zX rfl rfl (zT rfl sz111 rfl rfl rfl (qH 0 rfl rfl))<|zB<|zK<|yC 25 mixed (by kernel_rfl) rfl rfl<|zM rfl rfl (zC rfl wG rfl)<|zM rfl rfl (zD rfl one9 rfl (zF 0 rfl) rfl)<|zM rfl rfl (zP rfl ok141 (zIf _) ⟨zE,rfl,trivial⟩)<|zM rfl rfl (qT rfl rfl)<|zM rfl rfl (zN rfl rfl)<|qJ [] rfl rfl rfl rfl gv1 trivial (fun g4_4 => zC rfl zDj rfl) rfl<|qJ [(18,_)] rfl rfl rfl rfl gv1 ⟨rfl,rfl,trivial⟩ (fun g4_4 => zD rfl one2 rfl (zF 0 rfl) rfl) rfl<|qJ [(19,_)] rfl rfl rfl rfl gv1 ⟨rfl,rfl,trivial⟩ (fun g4_4 => qF rfl rfl rfl) rfl<|zM rfl rfl (yB rfl rfl rfl rfl (fun h => (lzf h)))<|zM rfl rfl (zN rfl rfl)<|qJ [] rfl rfl rfl rfl gv1 trivial (fun g4_9 => zN rfl rfl) rfl<|qJ [(23,_)] rfl rfl rfl rfl gv1 ⟨rfl,rfl,trivial⟩ (fun g4_9 => yA rfl rfl rfl) rfl<|qJ [(24,_)] rfl rfl rfl rfl gv1 ⟨rfl,rfl,trivial⟩ (fun g4_9 => zN rfl rfl) rfl<|qJ [] rfl rfl rfl rfl gv2 trivial (fun g4_12 => zC rfl kO rfl) rfl<|qJ [(26,_)] rfl rfl rfl rfl gv2 ⟨rfl,rfl,trivial⟩ (fun g4_12 => zD rfl wZ rfl (zF 1 rfl) rfl) rfl<|qJ [] rfl rfl rfl rfl gv2 trivial (fun g4_12 => zN rfl rfl) rfl<|qJ [(28,_)] rfl rfl rfl rfl gv2 ⟨rfl,rfl,trivial⟩ (fun g4_12 => yD rfl rfl rfl ⟨by omega,by omega⟩) rfl<|qJ [(27,_),(29,_)] rfl rfl rfl rfl gv2 ⟨rfl,rfl,rfl,rfl,trivial⟩ (fun g4_12 => zO rfl el47 rfl rfl (by simp only [Lz,cond_true,cond_false,Bool.and_eq_true,Bool.or_eq_true,Bool.not_eq_true',Bool.not_eq_false',Bool.or_eq_false_iff,Bool.and_eq_false_iff,decide_eq_true_eq,decide_eq_false_iff_not,Bool.not_eq_true,Bool.not_eq_false] at g4_12; omega) (pv_get (by simp only [Lz,cond_true,cond_false,Bool.and_eq_true,Bool.or_eq_true,Bool.not_eq_true',Bool.not_eq_false',Bool.or_eq_false_iff,Bool.and_eq_false_iff,decide_eq_true_eq,decide_eq_false_iff_not,Bool.not_eq_true,Bool.not_eq_false] at g4_12; omega) (by omega))) rfl<|qJ [(30,_)] rfl rfl rfl rfl gv2 ⟨rfl,rfl,trivial⟩ (fun g4_12 => zZ rfl wG rfl) rfl<|qJ [(31,_)] rfl rfl rfl rfl gv2 ⟨rfl,rfl,trivial⟩ (fun g4_12 => zD rfl one9 rfl qC rfl) rfl<|qJ [] rfl rfl rfl rfl gv2 trivial (fun g4_12 => zC rfl wG rfl) rfl<|qJ [(33,_)] rfl rfl rfl rfl gv2 ⟨rfl,rfl,trivial⟩ (fun g4_12 => zD rfl one9 rfl (zF 0 rfl) rfl) rfl<|qJ [(32,_),(34,_)] rfl rfl rfl rfl gv2 ⟨rfl,rfl,rfl,rfl,trivial⟩ (fun g4_12 => det_sgeq rfl rfl rfl) rfl<|qJ [(25,_)] rfl rfl rfl rfl gv1 ⟨rfl,rfl,trivial⟩ (fun g4_9 => qK rfl rfl rfl (fun h => yV (by assumption) h) rfl) rfl<|zM rfl rfl (yB rfl rfl rfl rfl (fun h => (lzf h)))<|kA<|zB<|zH rfl (fun c2 => ?_) (fun c2 => ?_)
  ·refine sReg rfl<|rMv rfl<|zB<|zI<|zQ rfl ?_
   rw [linErr,hp,zHo hx,show badM l.L k x = true from c2]; rfl
  ·refine zJ<|zU rfl<|zA rfl (qB rfl rfl rfl ⟨by omega,by omega⟩)<|rMv rfl<|zB ?_
   refine ⟨k + 1,⟨by omega,by rw [hp,zHo hx,show badM l.L k x = false from c2]; rfl⟩,(by omega),Weak.mk [false,true] ⟨zE,zE,zE,zE,trivial⟩ rfl⟩
 ·try simp only [sx] at c1
  refine qN<|sReg rfl<|rMv rfl<|zB<|zI<|zQ rfl ?_
  rw [linErr,hp,monos_end (by omega)]; rfl
theorem zFg (l : Lf) (hl : l.L.length ≤ 6000000000000) :
    Pur cfg 181 [vLin l] (vB (linOk l)):= by
 refine zV Tryz.func181 rfl Tryz.ntmps181 Tryz.results181 rfl ?_
 intro z hz
 refine sReg rfl<|qA rfl rfl (qL rfl rfl) ?_
 rintro _ _ ⟨b1,rfl,rfl⟩
 refine rMv rfl<|zB<|zK<|sReg rfl<|rMv rfl<|zB<|zS<|zY ⟨[(3,.c _),(1,.c _)],[_]⟩ (Weak.mk [true] ⟨zE,zE,trivial⟩ rfl)<|qI 1 0 rfl rfl (Nat) (fun k => [(3,vI k)]) (fun k => []) (fun k => k ≤ l.L.length ∧ (linOk l = monosOk (prevOf l.L k) (l.L.drop k))) (fun k => l.L.length - k) ⟨0,⟨by omega,rfl⟩,Weak.mk [true] ⟨zE,zE,trivial⟩ rfl⟩ ?_
 rintro k ⟨hk,hp⟩
 refine zK<|sReg rfl<|rMv rfl<|zA rfl (zC rfl kO rfl)<|zA rfl (zD rfl wZ rfl (zF 0 rfl) rfl)<|zA rfl (zR rfl el47 rfl)<|zA rfl (qM rfl rfl rfl)<|zB<|zH rfl (fun c1 => ?_) (fun c1 => ?_)
 ·try simp only [sx] at c1
  obtain ⟨x,hx⟩ := qX l.L k (by omega)
  refine zJ<|zK<|zS<|zK<|yC 37 mixed (by kernel_rfl) rfl rfl<|zM rfl rfl (zC rfl kO rfl)<|zM rfl rfl (zD rfl wZ rfl (zF 0 rfl) rfl)<|zM rfl rfl (zN rfl rfl)<|zM rfl rfl (zO rfl el47 rfl rfl (by omega) (getm (by assumption)))<|zM rfl rfl (zZ rfl wG rfl)<|zM rfl rfl (zD rfl one9 rfl qC rfl)<|zM rfl rfl (zP rfl ok50 (zEa _) ⟨zE,rfl,trivial⟩)<|zM rfl rfl (qT rfl rfl)<|zM rfl rfl (zN rfl rfl)<|qJ [] rfl rfl rfl rfl gv1 trivial (fun g4_8 => zC rfl kO rfl) rfl<|qJ [(20,_)] rfl rfl rfl rfl gv1 ⟨rfl,rfl,trivial⟩ (fun g4_8 => zD rfl wZ rfl (zF 0 rfl) rfl) rfl<|qJ [] rfl rfl rfl rfl gv1 trivial (fun g4_8 => zN rfl rfl) rfl<|qJ [(21,_),(22,_)] rfl rfl rfl rfl gv1 ⟨rfl,rfl,rfl,rfl,trivial⟩ (fun g4_8 => zO rfl el47 rfl rfl (by omega) (getm (by assumption))) rfl<|qJ [(23,_)] rfl rfl rfl rfl gv1 ⟨rfl,rfl,trivial⟩ (fun g4_8 => zZ rfl zDj rfl) rfl<|qJ [(24,_)] rfl rfl rfl rfl gv1 ⟨rfl,rfl,trivial⟩ (fun g4_8 => zD rfl one2 rfl qC rfl) rfl<|qJ [(25,_)] rfl rfl rfl rfl gv1 ⟨rfl,rfl,trivial⟩ (fun g4_8 => qF rfl rfl rfl) rfl<|zM rfl rfl (yB rfl rfl rfl rfl (fun h => (lzf h)))<|zM rfl rfl (zN rfl rfl)<|qJ [] rfl rfl rfl rfl gv1 trivial (fun g4_17 => zN rfl rfl) rfl<|qJ [(29,_)] rfl rfl rfl rfl gv1 ⟨rfl,rfl,trivial⟩ (fun g4_17 => yA rfl rfl rfl) rfl<|qJ [(30,_)] rfl rfl rfl rfl gv1 ⟨rfl,rfl,trivial⟩ (fun g4_17 => zN rfl rfl) rfl<|qJ [] rfl rfl rfl rfl gv2 trivial (fun g4_20 => zC rfl kO rfl) rfl<|qJ [(32,_)] rfl rfl rfl rfl gv2 ⟨rfl,rfl,trivial⟩ (fun g4_20 => zD rfl wZ rfl (zF 0 rfl) rfl) rfl<|qJ [] rfl rfl rfl rfl gv2 trivial (fun g4_20 => zN rfl rfl) rfl<|qJ [(34,_)] rfl rfl rfl rfl gv2 ⟨rfl,rfl,trivial⟩ (fun g4_20 => yD rfl rfl rfl ⟨by omega,by omega⟩) rfl<|qJ [(33,_),(35,_)] rfl rfl rfl rfl gv2 ⟨rfl,rfl,rfl,rfl,trivial⟩ (fun g4_20 => zO rfl el47 rfl rfl (by simp only [Lz,cond_true,cond_false,Bool.and_eq_true,Bool.or_eq_true,Bool.not_eq_true',Bool.not_eq_false',Bool.or_eq_false_iff,Bool.and_eq_false_iff,decide_eq_true_eq,decide_eq_false_iff_not,Bool.not_eq_true,Bool.not_eq_false] at g4_20; omega) (pv_get (by simp only [Lz,cond_true,cond_false,Bool.and_eq_true,Bool.or_eq_true,Bool.not_eq_true',Bool.not_eq_false',Bool.or_eq_false_iff,Bool.and_eq_false_iff,decide_eq_true_eq,decide_eq_false_iff_not,Bool.not_eq_true,Bool.not_eq_false] at g4_20; omega) (by omega))) rfl<|qJ [(36,_)] rfl rfl rfl rfl gv2 ⟨rfl,rfl,trivial⟩ (fun g4_20 => zZ rfl wG rfl) rfl<|qJ [(37,_)] rfl rfl rfl rfl gv2 ⟨rfl,rfl,trivial⟩ (fun g4_20 => zD rfl one9 rfl qC rfl) rfl<|qJ [] rfl rfl rfl rfl gv2 trivial (fun g4_20 => zC rfl kO rfl) rfl<|qJ [(39,_)] rfl rfl rfl rfl gv2 ⟨rfl,rfl,trivial⟩ (fun g4_20 => zD rfl wZ rfl (zF 0 rfl) rfl) rfl<|qJ [] rfl rfl rfl rfl gv2 trivial (fun g4_20 => zN rfl rfl) rfl<|qJ [(40,_),(41,_)] rfl rfl rfl rfl gv2 ⟨rfl,rfl,rfl,rfl,trivial⟩ (fun g4_20 => zO rfl el47 rfl rfl (by omega) (getm (by assumption))) rfl<|qJ [(42,_)] rfl rfl rfl rfl gv2 ⟨rfl,rfl,trivial⟩ (fun g4_20 => zZ rfl wG rfl) rfl<|qJ [(43,_)] rfl rfl rfl rfl gv2 ⟨rfl,rfl,trivial⟩ (fun g4_20 => zD rfl one9 rfl qC rfl) rfl<|qJ [(38,_),(44,_)] rfl rfl rfl rfl gv2 ⟨rfl,rfl,rfl,rfl,trivial⟩ (fun g4_20 => det_sgeq rfl rfl rfl) rfl<|qJ [(31,_)] rfl rfl rfl rfl gv1 ⟨rfl,rfl,trivial⟩ (fun g4_17 => qK rfl rfl rfl (fun h => yV (by assumption) h) rfl) rfl<|zM rfl rfl (yB rfl rfl rfl rfl (fun h => (lzf h)))<|kA<|zB<|zH rfl (fun c2 => ?_) (fun c2 => ?_)
  ·refine sReg rfl<|rMv rfl<|zB<|zI<|zQ rfl ?_
   rw [hp,zHo hx,show badM l.L k x = true from c2]; rfl
  ·refine zJ<|zU rfl<|rMv rfl<|zA rfl (qB rfl rfl rfl ⟨by omega,by omega⟩)<|rMv rfl<|zB ?_
   refine ⟨k + 1,⟨by omega,by rw [hp,zHo hx,show badM l.L k x = false from c2]; rfl⟩,(by omega),Weak.mk [true] ⟨zE,zE,trivial⟩ rfl⟩
 ·try simp only [sx] at c1
  refine qN<|sReg rfl<|rMv rfl<|zB<|zI<|zQ rfl ?_
  rw [hp,monos_end (by omega)]
theorem base_Lin (a b : Lf) (ha : a.L.length ≤ 6000000000000) :
    Pur cfg 128 [vLin a,vLin b] (vB (decide (a = b))):= by
 refine zV Tryz.func128 rfl Tryz.ntmps128 Tryz.results128 rfl ?_
 intro z hz
 refine sReg rfl<|qA rfl rfl (qL rfl rfl) ?_
 rintro _ _ ⟨b1,rfl,rfl⟩
 refine qA rfl rfl (qL rfl rfl) ?_
 rintro _ _ ⟨b2,rfl,rfl⟩
 refine rMv rfl<|zB<|zK<|sReg rfl<|zA rfl (zC rfl zDc rfl)<|zA rfl (zD rfl one2 rfl (zF 1 rfl) rfl)<|zA rfl (zC rfl zDc rfl)<|zA rfl (zD rfl one2 rfl (zF 0 rfl) rfl)<|zA rfl (qR rfl rfl rfl)<|rMv rfl<|rLz [] rfl gv1 trivial (fun g1_5 => zC rfl kO rfl) rfl<|rLz [(12,_)] rfl gv1 ⟨rfl,rfl,trivial⟩ (fun g1_5 => zD rfl wZ rfl (zF 1 rfl) rfl) rfl<|rLz [(13,_)] rfl gv1 ⟨rfl,rfl,trivial⟩ (fun g1_5 => zR rfl el47 rfl) rfl<|rLz [] rfl gv1 trivial (fun g1_5 => zC rfl kO rfl) rfl<|rLz [(15,_)] rfl gv1 ⟨rfl,rfl,trivial⟩ (fun g1_5 => zD rfl wZ rfl (zF 0 rfl) rfl) rfl<|rLz [(16,_)] rfl gv1 ⟨rfl,rfl,trivial⟩ (fun g1_5 => zR rfl el47 rfl) rfl<|rLz [(14,_),(17,_)] rfl gv1 ⟨rfl,rfl,rfl,rfl,trivial⟩ (fun g1_5 => qR rfl rfl rfl) rfl<|zA rfl (yB rfl rfl rfl rfl (fun h => (lzf h)))<|zB<|zH rfl (fun c1 => ?_) (fun c1 => ?_)
 ·try simp only [sx] at c1
  refine sReg rfl<|rMv rfl<|zB<|zI<|zQ rfl ?_
  rw [yM (fun h => by rw [h] at c1; simp at c1)]
 ·try simp only [sx] at c1
  refine zJ<|zK<|sReg rfl<|rMv rfl<|zB<|zS<|zY ⟨[(5,.c _),(2,.c _),(3,.c _)],[_,_]⟩ (Weak.mk [true,true] ⟨zE,zE,zE,trivial⟩ rfl)<|qI 1 0 rfl rfl (Nat) (fun k => [(5,vI k)]) (fun k => []) (fun k => k ≤ a.L.length ∧ (a.L.take k = b.L.take k)) (fun k => a.L.length - k) ⟨0,⟨by omega,rfl⟩,Weak.mk [true,true] ⟨zE,zE,zE,trivial⟩ rfl⟩ ?_
  rintro k ⟨hk,hp⟩
  refine zK<|sReg rfl<|rMv rfl<|zA rfl (zC rfl kO rfl)<|zA rfl (zD rfl wZ rfl (zF 1 rfl) rfl)<|zA rfl (zR rfl el47 rfl)<|zA rfl (qM rfl rfl rfl)<|zB<|zH rfl (fun c2 => ?_) (fun c2 => ?_)
  ·try simp only [sx] at c2
   obtain ⟨x,hx⟩ := qX a.L k (by omega)
   obtain ⟨y,hy⟩ := qX b.L k (by omega)
   refine zJ<|zK<|zS<|zK<|yC 11 mixed (by kernel_rfl) rfl rfl<|zM rfl rfl (zC rfl kO rfl)<|zM rfl rfl (zD rfl wZ rfl (zF 1 rfl) rfl)<|zM rfl rfl (zN rfl rfl)<|zM rfl rfl (zO rfl el47 rfl rfl (by omega) (getm (by assumption)))<|zM rfl rfl (zG rfl zEc rfl qC rfl)<|zM rfl rfl (zC rfl kO rfl)<|zM rfl rfl (zD rfl wZ rfl (zF 0 rfl) rfl)<|zM rfl rfl (zN rfl rfl)<|zM rfl rfl (zO rfl el47 rfl rfl (by omega) (getm (by assumption)))<|zM rfl rfl (zG rfl zEc rfl qC rfl)<|zM rfl rfl (wV rfl fl111 rfl rfl rfl)<|kA<|zB<|zH rfl (fun c3 => ?_) (fun c3 => ?_)
   ·have hne := mono_ne c3
    refine sReg rfl<|rMv rfl<|zB<|zI<|zQ rfl ?_
    rw [yM (fun h => zDr hx hy hne (by rw [h]))]
   ·have heq := mono_eq c3
    refine zJ<|zU rfl<|rMv rfl<|zA rfl (qB rfl rfl rfl ⟨by omega,by omega⟩)<|rMv rfl<|zB ?_
    refine ⟨k + 1,⟨by omega,zBc hx hy hp heq⟩,(by omega),Weak.mk [true,true] ⟨zE,zE,zE,trivial⟩ rfl⟩
  ·try simp only [sx] at c2
   refine qN<|sReg rfl<|rMv rfl<|zB<|zI<|zQ rfl ?_
   rw [kX (lin_mk (by omega) (zCh hp (by omega) (by omega)))]
theorem zIq (l : List Ix) (c : C) (p : Ix → Bool) (hl : l.length ≤ 6000000000000) (hc : ∀ x,x ∈ l → FnPur cfg c [vIndex x] (vB (p x))) :
    Pur cfg 297 [vIndices l,.c c] (vI (idxOf p l)):= by
 refine zV Tryz.func297 rfl Tryz.ntmps297 Tryz.results297 rfl ?_
 intro z hz
 refine sReg rfl<|rMv rfl<|zB<|zK<|sReg rfl<|rMv rfl<|zA rfl (zR rfl el44 rfl)<|rMv rfl<|zB<|zS<|zY ⟨[(8,.c _),(0,.c _),(1,.c _),(7,.c _)],[]⟩ (Weak.mk [] ⟨zE,zE,zE,zE,trivial⟩ rfl)<|qI 1 0 rfl rfl (Nat) (fun k => [(8,vI k)]) (fun k => []) (fun k => k ≤ l.length ∧ ((l.take k).any p = false)) (fun k => l.length - k) ⟨0,⟨by omega,rfl⟩,Weak.mk [] ⟨zE,zE,zE,zE,trivial⟩ rfl⟩ ?_
 rintro k ⟨hk,hp⟩
 refine sReg rfl<|zA rfl (qM rfl rfl rfl)<|zB<|zK<|zH rfl (fun c1 => ?_) (fun c1 => ?_)
 ·try simp only [sx] at c1
  obtain ⟨x,hx⟩ := qX l k (by omega)
  refine zJ<|zK<|zS<|sReg rfl<|rMv rfl<|rMv rfl<|zB<|sReg rfl<|rMv rfl<|rMv rfl<|rMv rfl<|zA rfl (zO rfl el44 rfl rfl (by omega) (getm (by assumption)))<|zA rfl (zG rfl zCv rfl qC rfl)<|zA rfl (wD rfl rfl (hc _ (qE hx)) ⟨zE,rfl,trivial⟩)<|zB<|zH rfl (fun c2 => ?_) (fun c2 => ?_)
  ·try simp only [sx] at c2
   refine sReg rfl<|rMv rfl<|rMv rfl<|zB<|zI<|zQ rfl ?_
   rw [zNu hx c2 hp]
  ·try simp only [sx] at c2
   refine zJ<|zU rfl<|zA rfl (qB rfl rfl rfl ⟨by omega,by omega⟩)<|rMv rfl<|zB ?_
   refine ⟨k + 1,⟨by omega,zOl hx hp c2⟩,(by omega),Weak.mk [] ⟨zE,zE,zE,zE,trivial⟩ rfl⟩
 ·try simp only [sx] at c1
  refine qN<|sReg rfl<|rMv rfl<|zB<|zI<|zQ rfl ?_
  rw [zHs (by rw [yO (by omega)] at hp; exact hp)]
theorem wS (l : List Ix) (c : C) (p : Ix → Bool) (hl : l.length ≤ 6000000000000) (hc : ∀ x,x ∈ l → FnPur cfg c [vIndex x] (vB (p x))) :
    Pur cfg 284 [vIndices l,.c c] (vB (l.any p)):= by
 refine zV Tryz.func284 rfl Tryz.ntmps284 Tryz.results284 rfl ?_
 intro z hz
 refine sReg rfl<|rMv rfl<|zB<|sReg rfl<|rMv rfl<|rMv rfl<|zA rfl (zP rfl ok297 (zIq l c p hl hc) ⟨zE,rfl,zE,rfl,trivial⟩)<|zA rfl (kZ rfl rfl rfl)<|rMv rfl<|zB<|zI<|zQ rfl ?_
 rw [zKi]
end Go.W
