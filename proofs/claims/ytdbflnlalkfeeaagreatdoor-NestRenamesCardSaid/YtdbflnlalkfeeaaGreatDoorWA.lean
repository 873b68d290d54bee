/-
  Walks: what functions of the program compute. Printed by wip/gen/mk2.py.
  Conditions: none.
-/
import Derived.Test.YtdbflnlalkfeeaaGreatDoorFacts
import Derived.Test.YtdbflnlalkfeeaaGreatDoorPlain
set_option maxRecDepth 10000
namespace Go.W
open Go Go.Eng Go.Proofs Go.L41 Go.Br
attribute [local irreducible] AWP RWP TD finQ
theorem kw_ascii : ∀ (j : Nat) (b : UInt8),(bs kwBytes).data.toList[j]? = some b → b.toNat < 128:= by
  intro j b h
  have : (kwBytes.all fun c => decide (c.toNat < 128)) = true:= by decide
  rw [List.all_eq_true] at this
  simpa using this b (List.mem_of_getElem? h)
theorem kw_fields : (Lib.fields kwBytes).map bs = words:= by decide +kernel
theorem nm1 {s : ByteArray} (h : Lz (!decide (s = bs []) && decide ((s.size : Int) ≤ 16)) true = true) : ¬ s = bs []:= by
  simp only [Lz,cond_true,Bool.and_eq_true,Bool.not_eq_true',decide_eq_false_iff_not] at h
  exact h.1
theorem nm2 {s : ByteArray} {p : Bool} (h : Lz (!decide (s = bs []) && decide ((s.size : Int) ≤ 16) && p) true = true) : s.size ≤ 1000000:= by
  simp only [Lz,cond_true,Bool.and_eq_true,decide_eq_true_eq] at h
  omega
theorem zDh : aggT Tryz.prog 111 = some 2:= by kernel_rfl
theorem zAq : aggT Tryz.prog 114 = some 4:= by kernel_rfl
theorem el44 : elemT Tryz.prog 44 = some (114,4,72):= by kernel_rfl
theorem el47 : elemT Tryz.prog 47 = some (111,2,24):= by kernel_rfl
theorem el72 : elemT Tryz.prog 72 = some (9,1,16):= by kernel_rfl
theorem zCj : fieldT Tryz.prog 49 0 = some (0,2):= by kernel_rfl
theorem yM : fieldT Tryz.prog 49 1 = some (1,47):= by kernel_rfl
theorem kN : fieldT Tryz.prog 111 0 = some (0,9):= by kernel_rfl
theorem zAz : fieldT Tryz.prog 111 1 = some (1,2):= by kernel_rfl
theorem fl111 : flatK Tryz.prog 111 = some [.str,.int]:= by kernel_rfl
theorem ik21 : intT Tryz.prog 21 = some .i32:= by kernel_rfl
theorem mixed : Tryz.prog.follows .mixedOrders = true:= by kernel_rfl
theorem ok49 : callOk Tryz.prog 49 = true:= by kernel_rfl
theorem ok50 : callOk Tryz.prog 50 = true:= by kernel_rfl
theorem ok103 : callOk Tryz.prog 103 = true:= by kernel_rfl
theorem ok115 : callOk Tryz.prog 115 = true:= by kernel_rfl
theorem ok116 : callOk Tryz.prog 116 = true:= by kernel_rfl
theorem ok117 : callOk Tryz.prog 117 = true:= by kernel_rfl
theorem ok118 : callOk Tryz.prog 118 = true:= by kernel_rfl
theorem ok141 : callOk Tryz.prog 141 = true:= by kernel_rfl
theorem ok155 : callOk Tryz.prog 155 = true:= by kernel_rfl
theorem ok156 : callOk Tryz.prog 156 = true:= by kernel_rfl
theorem ok157 : callOk Tryz.prog 157 = true:= by kernel_rfl
theorem ok176 : callOk Tryz.prog 176 = true:= by kernel_rfl
theorem ok189 : callOk Tryz.prog 189 = true:= by kernel_rfl
theorem ok190 : callOk Tryz.prog 190 = true:= by kernel_rfl
theorem ok294 : callOk Tryz.prog 294 = true:= by kernel_rfl
theorem ok297 : callOk Tryz.prog 297 = true:= by kernel_rfl
theorem one2 : oneT Tryz.prog 2 = true:= by kernel_rfl
theorem one9 : oneT Tryz.prog 9 = true:= by kernel_rfl
theorem kQ : oneT Tryz.prog 47 = true:= by kernel_rfl
theorem sz111 : (Tryz.prog.info? 111).map (·.size) = some 2:= by kernel_rfl
theorem un9 : Tryz.prog.underlying 9 = some .string:= by kernel_rfl
theorem us5 : (Tryz.prog.underlying 5).isSome = true:= by kernel_rfl
theorem zr9 : zeroT Tryz.prog 9 = some [(Value.string (ByteArray.mk #[]))]:= by kernel_rfl
theorem zCc : zeroT Tryz.prog 111 = some [(Value.string (ByteArray.mk #[])),(Value.int IntKind.i64 0)]:= by kernel_rfl
theorem zLy (n : Int) :
    Pur cfg 115 [vR n] (vB (letterI n)):= by
 refine zV Tryz.func115 rfl Tryz.ntmps115 Tryz.results115 rfl ?_
 intro z hz
 refine sReg rfl<|rMv rfl<|zB<|sReg rfl<|rMv rfl<|zA rfl rfl (kZ rfl rfl rfl)<|rMv rfl<|rLz [] rfl gv1 trivial (fun g1_2 => zN rfl rfl) rfl<|rLz [(6,_)] rfl gv1 ⟨rfl,rfl,trivial⟩ (fun g1_2 => wQ rfl rfl rfl) rfl<|zA rfl rfl (qP rfl rfl rfl (fun h => h) rfl)<|rMv rfl<|zB<|zH<|fin1 (rs_c rfl) ?_
 exact rfl
theorem lexer_digit (n : Int) :
    Pur cfg 155 [vR n] (vB (digitI n)):= by
 refine zV Tryz.func155 rfl Tryz.ntmps155 Tryz.results155 rfl ?_
 intro z hz
 refine sReg rfl<|rMv rfl<|zB<|sReg rfl<|rMv rfl<|zA rfl rfl (kZ rfl rfl rfl)<|rMv rfl<|rLz [] rfl gv1 trivial (fun g1_2 => zN rfl rfl) rfl<|rLz [(6,_)] rfl gv1 ⟨rfl,rfl,trivial⟩ (fun g1_2 => wQ rfl rfl rfl) rfl<|zA rfl rfl (qP rfl rfl rfl (fun h => h) rfl)<|rMv rfl<|zB<|zH<|fin1 (rs_c rfl) ?_
 exact rfl
theorem lexer_inWord (n : Int) :
    Pur cfg 117 [vR n] (vB (inWordI n)):= by
 refine zV Tryz.func117 rfl Tryz.ntmps117 Tryz.results117 rfl ?_
 intro z hz
 refine sReg rfl<|rMv rfl<|zB<|sReg rfl<|rMv rfl<|zA rfl rfl (zQ rfl ok115 (zLy _) ⟨VLe.refl _,rfl,trivial⟩)<|rMv rfl<|rLz [] rfl gv1 trivial (fun g1_2 => zN rfl rfl) rfl<|rLz [(6,_)] rfl gv1 ⟨rfl,rfl,trivial⟩ (fun g1_2 => zQ rfl ok155 (lexer_digit _) ⟨VLe.refl _,rfl,trivial⟩) rfl<|zA rfl rfl (yP rfl rfl rfl rfl (fun h => (lzf h)))<|rMv rfl<|rLz [] rfl gv1 trivial (fun g1_6 => zN rfl rfl) rfl<|rLz [(10,_)] rfl gv1 ⟨rfl,rfl,trivial⟩ (fun g1_6 => qJ rfl rfl rfl) rfl<|zA rfl rfl (yP rfl rfl rfl rfl (fun h => (lzf h)))<|rMv rfl<|zB<|zH<|fin1 (rs_c rfl) ?_
 exact rfl
theorem zLl (s : ByteArray) (hs : s.size ≤ 1000000) :
    Pur cfg 116 [vS s,.c (.fn (.func 117) [] [])] (vI (spanB inWordB s.data.toList)):= by
 refine zV Tryz.func116 rfl Tryz.ntmps116 Tryz.results116 rfl ?_
 intro z hz
 refine sReg rfl<|rMv rfl<|zB<|sReg rfl<|rMv rfl<|zB<|zJ<|zU<|zX ⟨[(5,.c _),(0,.c _),(1,.c _)],[]⟩ (Weak.mk [] ⟨VLe.of_eq rfl,VLe.of_eq rfl,VLe.of_eq rfl,trivial⟩ rfl)<|qI 1 0 rfl rfl (Nat) (fun k => [(5,vI k)]) (fun k => []) (fun k => k ≤ s.size ∧ (s.data.toList.take k).all inWordB = true) (fun k => s.size - k) ⟨0,⟨by omega,rfl⟩,Weak.mk [] ⟨VLe.refl _,VLe.refl _,VLe.refl _,trivial⟩ rfl⟩ ?_
 rintro k ⟨hk,hp⟩
 refine zJ<|sReg rfl<|rMv rfl<|rMv rfl<|zA rfl rfl (kY rfl un9 rfl)<|zA rfl rfl (qL rfl rfl rfl)<|rMv rfl<|rLz [] rfl gv1 trivial (fun g2_4 => zN rfl rfl) rfl<|rLz [] rfl gv1 trivial (fun g2_4 => zN rfl rfl) rfl<|rLz [] rfl gv1 trivial (fun g2_4 => zN rfl rfl) rfl<|rLz [(12,_),(13,_)] rfl gv1 ⟨rfl,rfl,rfl,rfl,trivial⟩ (fun g2_4 => zBt rfl un9 rfl rfl (by omega) (by simp only [Lz,cond_true,decide_eq_true_eq] at g2_4; omega)) rfl<|rLz [(14,_)] rfl gv1 ⟨rfl,rfl,trivial⟩ (fun g2_4 => kB rfl us5 ik21 rfl) rfl<|rLz [(11,_),(15,_)] rfl gv1 ⟨rfl,rfl,rfl,rfl,trivial⟩ (fun g2_4 => det_call_fn0 rfl rfl ok117 (lexer_inWord _) ⟨VLe.refl _,rfl,trivial⟩) rfl<|zA rfl rfl (qP rfl rfl rfl (fun h => h) rfl)<|zB<|zG rfl (fun c1 => ?_) (fun c1 => ?_)
 ·try simp only [sx] at c1
  obtain ⟨hlt,hcc⟩ := c1
  have hlt : k < s.size:= by omega
  rw [zHy] at hcc
  refine zK<|zU<|zR rfl<|rMv rfl<|zA rfl rfl (qC rfl rfl rfl ⟨by omega,by omega⟩)<|rMv rfl<|zB ?_
  have hg := zBz hlt
  refine ⟨k + 1,⟨by omega,by rw [zKm hg,hp]; exact hcc⟩,(by omega),Weak.mk [] ⟨VLe.refl _,VLe.refl _,VLe.refl _,trivial⟩ rfl⟩
 ·try simp only [sx] at c1
  have hsp : spanB inWordB s.data.toList = k := span_stop hp (by
    by_cases hlt : k < s.size
    · right; refine ⟨_,zBz hlt,?_⟩; rcases c1 with c1 | c1; omega; rw [zHy] at c1; exact c1
    · left; simp; omega)
  refine qO<|sReg rfl<|rMv rfl<|rMv rfl<|zB<|zH<|fin1 (rs_c rfl) ?_
  rw [hsp]
theorem zMh (l : List ByteArray) (s : ByteArray) (hl : l.length ≤ 1000000) :
    Pur cfg 189 [vSs l,vS s] (vI (idxB l s)):= by
 refine zV Tryz.func189 rfl Tryz.ntmps189 Tryz.results189 rfl ?_
 intro z hz
 refine sReg rfl<|rMv rfl<|zB<|zJ<|sReg rfl<|rMv rfl<|zA rfl rfl (zT rfl el72 rfl)<|rMv rfl<|zB<|zU<|zX ⟨[(8,.c _),(0,.c _),(1,.c _),(7,.c _)],[]⟩ (Weak.mk [] ⟨VLe.of_eq rfl,VLe.of_eq rfl,VLe.of_eq rfl,VLe.of_eq rfl,trivial⟩ rfl)<|qI 1 0 rfl rfl (Nat) (fun k => [(8,vI k)]) (fun k => []) (fun k => k ≤ l.length ∧ hasB (l.take k) s = false) (fun k => l.length - k) ⟨0,⟨by omega,rfl⟩,Weak.mk [] ⟨VLe.refl _,VLe.refl _,VLe.refl _,VLe.refl _,trivial⟩ rfl⟩ ?_
 rintro k ⟨hk,hp⟩
 refine sReg rfl<|zA rfl rfl (qL rfl rfl rfl)<|zB<|zJ<|zG rfl (fun c1 => ?_) (fun c1 => ?_)
 ·try simp only [sx] at c1
  obtain ⟨t,ht⟩ := qZ l k (by omega)
  refine zK<|zJ<|zU<|sReg rfl<|rMv rfl<|rMv rfl<|zB<|sReg rfl<|rMv rfl<|rMv rfl<|rMv rfl<|zA rfl rfl (zP rfl el72 rfl rfl (by omega) (getm ht))<|zA rfl rfl (zD rfl one9 rfl qA rfl)<|zA rfl rfl (yL rfl rfl rfl)<|zB<|zG rfl (fun c2 => ?_) (fun c2 => ?_)
  ·try simp only [sx] at c2
   refine sReg rfl<|rMv rfl<|rMv rfl<|zB<|zH<|fin1 (rs_c rfl) ?_
   rw [idxB_some ht c2 hp]
  ·try simp only [sx] at c2
   refine zK<|zR rfl<|zA rfl rfl (qC rfl rfl rfl ⟨by omega,by omega⟩)<|rMv rfl<|zB ?_
   refine ⟨k + 1,⟨by omega,zMa ht hp (fun e => c2 e.symm)⟩,(by omega),Weak.mk [] ⟨VLe.refl _,VLe.refl _,VLe.refl _,VLe.refl _,trivial⟩ rfl⟩
 ·try simp only [sx] at c1
  refine qO<|sReg rfl<|rMv rfl<|zB<|zH<|fin1 (rs_c rfl) ?_
  rw [idxB_none (by rw [yN (by omega)] at hp; exact hp)]
theorem zAw (l : List ByteArray) (s : ByteArray) (hl : l.length ≤ 1000000) :
    Pur cfg 156 [vSs l,vS s] (vB (hasB l s)):= by
 refine zV Tryz.func156 rfl Tryz.ntmps156 Tryz.results156 rfl ?_
 intro z hz
 refine sReg rfl<|rMv rfl<|zB<|sReg rfl<|rMv rfl<|rMv rfl<|zA rfl rfl (zQ rfl ok189 (zMh l s hl) ⟨VLe.refl _,rfl,VLe.refl _,rfl,trivial⟩)<|zA rfl rfl (kZ rfl rfl rfl)<|rMv rfl<|zB<|zH<|fin1 (rs_c rfl) ?_
 rw [idxB_has]
theorem lexer_keywords  :
    Pur cfg 157 [] (vSs words):= by
 refine zV Tryz.func157 rfl Tryz.ntmps157 Tryz.results157 rfl ?_
 intro z hz
 refine sReg rfl<|zA rfl rfl (qW 1 rfl rfl)<|zB<|sReg rfl<|zA rfl rfl (zQ rfl ok190 (strings_Fields _ (by decide) kw_ascii) ⟨VLe.refl _,rfl,trivial⟩)<|rMv rfl<|zB<|zH<|fin1 (rs_c rfl) ?_
 exact congrArg vSs kw_fields
theorem zPm (s : ByteArray) :
    Pur cfg 118 [vS s] (vB (hasB words s)):= by
 refine zV Tryz.func118 rfl Tryz.ntmps118 Tryz.results118 rfl ?_
 intro z hz
 refine sReg rfl<|rMv rfl<|zB<|sReg rfl<|zA rfl rfl (zQ rfl ok157 (lexer_keywords) trivial)<|rMv rfl<|zA rfl rfl (zQ rfl ok156 (zAw _ _ (by decide)) ⟨VLe.refl _,rfl,VLe.refl _,rfl,trivial⟩)<|rMv rfl<|zB<|zH<|fin1 (rs_c rfl) ?_
 exact rfl
theorem zDc (s : ByteArray) :
    Pur cfg 66 [vS s] (vB (isNameB s)):= by
 refine zV Tryz.func66 rfl Tryz.ntmps66 Tryz.results66 rfl ?_
 intro z hz
 refine sReg rfl<|rMv rfl<|zB<|sReg rfl<|rMv rfl<|zA rfl rfl (zJz rfl rfl rfl)<|rMv rfl<|rLz [] rfl gv1 trivial (fun g1_2 => zN rfl rfl) rfl<|rLz [(6,_)] rfl gv1 ⟨rfl,rfl,trivial⟩ (fun g1_2 => kY rfl un9 rfl) rfl<|rLz [(7,_)] rfl gv1 ⟨rfl,rfl,trivial⟩ (fun g1_2 => wQ rfl rfl rfl) rfl<|zA rfl rfl (qP rfl rfl rfl (fun h => h) rfl)<|rMv rfl<|rLz [] rfl gv1 trivial (fun g1_7 => zN rfl rfl) rfl<|rLz [(11,_)] rfl gv1 ⟨rfl,rfl,trivial⟩ (fun g1_7 => zBt rfl un9 rfl rfl (by decide) (size_pos (nm1 g1_7))) rfl<|rLz [(12,_)] rfl gv1 ⟨rfl,rfl,trivial⟩ (fun g1_7 => kB rfl us5 ik21 rfl) rfl<|rLz [(13,_)] rfl gv1 ⟨rfl,rfl,trivial⟩ (fun g1_7 => zQ rfl ok115 (zLy _) ⟨VLe.refl _,rfl,trivial⟩) rfl<|zA rfl rfl (qP rfl rfl rfl (fun h => h) rfl)<|rMv rfl<|rLz [] rfl gv1 trivial (fun g1_13 => zN rfl rfl) rfl<|rLz [(17,_)] rfl gv1 ⟨rfl,rfl,trivial⟩ (fun g1_13 => zQ rfl ok116 (zLl s (nm2 g1_13)) ⟨VLe.refl _,rfl,VLe.refl _,rfl,trivial⟩) rfl<|rLz [] rfl gv1 trivial (fun g1_13 => zN rfl rfl) rfl<|rLz [(19,_)] rfl gv1 ⟨rfl,rfl,trivial⟩ (fun g1_13 => kY rfl un9 rfl) rfl<|rLz [(18,_),(20,_)] rfl gv1 ⟨rfl,rfl,rfl,rfl,trivial⟩ (fun g1_13 => qJ rfl rfl rfl) rfl<|zA rfl rfl (qP rfl rfl rfl (fun h => h) rfl)<|rMv rfl<|rLz [] rfl gv1 trivial (fun g1_20 => zN rfl rfl) rfl<|rLz [(24,_)] rfl gv1 ⟨rfl,rfl,trivial⟩ (fun g1_20 => zQ rfl ok118 (zPm _) ⟨VLe.refl _,rfl,trivial⟩) rfl<|rLz [(25,_)] rfl gv1 ⟨rfl,rfl,trivial⟩ (fun g1_20 => yA rfl rfl) rfl<|zA rfl rfl (qP rfl rfl rfl (fun h => h) rfl)<|rMv rfl<|zB<|zH<|fin1 (rs_c rfl) ?_
 exact congrArg vB (isName_eq s)
theorem base_Words  :
    Pur cfg 103 [] (vSs words):= by
 refine zV Tryz.func103 rfl Tryz.ntmps103 Tryz.results103 rfl ?_
 intro z hz
 refine sReg rfl<|zA rfl rfl (qW 1 rfl rfl)<|zB<|sReg rfl<|zA rfl rfl (qV rfl el72 zr9 rfl rfl rfl rfl)<|rMv rfl<|zB<|zH<|fin1 (rs_c rfl) ?_
 exact rfl
theorem base_Has (l : List ByteArray) (s : ByteArray) (hl : l.length ≤ 6000000000000) :
    Pur cfg 49 [vSs l,vS s] (vB (hasB l s)):= by
 refine zV Tryz.func49 rfl Tryz.ntmps49 Tryz.results49 rfl ?_
 intro z hz
 refine sReg rfl<|rMv rfl<|zB<|zJ<|sReg rfl<|rMv rfl<|zB<|zU<|zX ⟨[(5,.c _),(0,.c _),(1,.c _)],[]⟩ (Weak.mk [] ⟨VLe.of_eq rfl,VLe.of_eq rfl,VLe.of_eq rfl,trivial⟩ rfl)<|qI 1 0 rfl rfl (Nat) (fun k => [(5,vI k)]) (fun k => []) (fun k => k ≤ l.length ∧ hasB (l.take k) s = false) (fun k => l.length - k) ⟨0,⟨by omega,rfl⟩,Weak.mk [] ⟨VLe.refl _,VLe.refl _,VLe.refl _,trivial⟩ rfl⟩ ?_
 rintro k ⟨hk,hp⟩
 refine zJ<|sReg rfl<|rMv rfl<|rMv rfl<|zA rfl rfl (zT rfl el72 rfl)<|zA rfl rfl (qL rfl rfl rfl)<|zB<|zG rfl (fun c1 => ?_) (fun c1 => ?_)
 ·try simp only [sx] at c1
  obtain ⟨t,ht⟩ := qZ l k (by omega)
  refine zK<|zJ<|zU<|sReg rfl<|rMv rfl<|rMv rfl<|zA rfl rfl (zP rfl el72 rfl rfl (by omega) (getm ht))<|zA rfl rfl (zD rfl one9 rfl qA rfl)<|rMv rfl<|zA rfl rfl (yL rfl rfl rfl)<|zB<|zG rfl (fun c2 => ?_) (fun c2 => ?_)
  ·try simp only [sx] at c2
   refine sReg rfl<|rMv rfl<|zB<|zH<|fin1 (rs_c rfl) ?_
   rw [yO ht c2]
  ·try simp only [sx] at c2
   refine zK<|zR rfl<|rMv rfl<|zA rfl rfl (qC rfl rfl rfl ⟨by omega,by omega⟩)<|rMv rfl<|zB ?_
   refine ⟨k + 1,⟨by omega,zMa ht hp c2⟩,(by omega),Weak.mk [] ⟨VLe.refl _,VLe.refl _,VLe.refl _,trivial⟩ rfl⟩
 ·try simp only [sx] at c1
  refine qO<|sReg rfl<|rMv rfl<|zB<|zH<|fin1 (rs_c rfl) ?_
  rw [show hasB l s = false by rw [yN (by omega)] at hp; exact hp]
theorem base_Name (s : ByteArray) :
    Pur cfg 50 [vS s] (vB (isNameB s)):= by
 refine zV Tryz.func50 rfl Tryz.ntmps50 Tryz.results50 rfl ?_
 intro z hz
 refine sReg rfl<|rMv rfl<|zB<|zJ<|sReg rfl<|rMv rfl<|zA rfl rfl (kY rfl un9 rfl)<|zA rfl rfl (qL rfl rfl rfl)<|rMv rfl<|rLz [] rfl gv1 trivial (fun g1_3 => zN rfl rfl) rfl<|rLz [(9,_)] rfl gv1 ⟨rfl,rfl,trivial⟩ (fun g1_3 => kY rfl un9 rfl) rfl<|rLz [(10,_)] rfl gv1 ⟨rfl,rfl,trivial⟩ (fun g1_3 => yV rfl rfl rfl) rfl<|zA rfl rfl (yP rfl rfl rfl rfl (fun h => (lzf h)))<|rMv rfl<|rLz [] rfl gv1 trivial (fun g1_8 => zQ rfl ok103 (base_Words) trivial) rfl<|rLz [] rfl gv1 trivial (fun g1_8 => zN rfl rfl) rfl<|rLz [(14,_),(15,_)] rfl gv1 ⟨rfl,rfl,rfl,rfl,trivial⟩ (fun g1_8 => zQ rfl ok49 (base_Has _ _ (by decide)) ⟨VLe.refl _,rfl,VLe.refl _,rfl,trivial⟩) rfl<|zA rfl rfl (yP rfl rfl rfl rfl (fun h => (lzf h)))<|zB<|zG rfl (fun c1 => ?_) (fun c1 => ?_)
 ·try simp only [sx] at c1
  have hno := name_short (s := s) (by simpa using c1)
  refine sReg rfl<|rMv rfl<|zB<|zH<|fin1 (rs_c rfl) ?_
  rw [hno]
 ·try simp only [sx] at c1
  obtain ⟨⟨n1,n2⟩,n3⟩ := c1
  have n1 : 1 ≤ s.size:= by omega
  have n2 : s.size ≤ 16:= by omega
  have hne := name_end n1 n2 n3
  refine zK<|zJ<|sReg rfl<|rMv rfl<|zB<|zU<|zX ⟨[(3,.c _),(0,.c _)],[]⟩ (Weak.mk [] ⟨VLe.of_eq rfl,VLe.of_eq rfl,trivial⟩ rfl)<|qI 1 0 rfl rfl (Nat) (fun k => [(3,vI k)]) (fun k => []) (fun k => k ≤ s.size ∧ okTo s k = true) (fun k => s.size - k) ⟨0,⟨by omega,rfl⟩,Weak.mk [] ⟨VLe.refl _,VLe.refl _,trivial⟩ rfl⟩ ?_
  rintro k ⟨hk,hp⟩
  refine zJ<|sReg rfl<|rMv rfl<|rMv rfl<|zA rfl rfl (kY rfl un9 rfl)<|zA rfl rfl (qL rfl rfl rfl)<|zB<|zG rfl (fun c2 => ?_) (fun c2 => ?_)
  ·try simp only [sx] at c2
   have hlt : k < s.size:= by omega
   refine zK<|zJ<|zU<|sReg rfl<|rMv rfl<|rMv rfl<|zA rfl rfl (zBt rfl un9 rfl rfl (by omega) (by omega))<|rMv rfl<|zB<|sReg rfl<|rMv rfl<|zA rfl rfl (kZ rfl rfl rfl)<|rMv rfl<|rLz [] rfl gv1 trivial (fun g7_2 => zN rfl rfl) rfl<|rLz [(30,_)] rfl gv1 ⟨rfl,rfl,trivial⟩ (fun g7_2 => wQ rfl rfl rfl) rfl<|zA rfl rfl (qP rfl rfl rfl (fun h => h) rfl)<|rMv rfl<|rLz [] rfl gv1 trivial (fun g7_6 => zN rfl rfl) rfl<|rLz [(34,_)] rfl gv1 ⟨rfl,rfl,trivial⟩ (fun g7_6 => yV rfl rfl rfl) rfl<|rLz [(35,_)] rfl gv1 ⟨rfl,rfl,trivial⟩ (fun g7_6 => zN rfl rfl) rfl<|rLz [] rfl gv2 trivial (fun g7_9 => zN rfl rfl) rfl<|rLz [(37,_)] rfl gv2 ⟨rfl,rfl,trivial⟩ (fun g7_9 => kZ rfl rfl rfl) rfl<|rLz [(38,_)] rfl gv2 ⟨rfl,rfl,trivial⟩ (fun g7_9 => zN rfl rfl) rfl<|rLz [] rfl gv2 trivial (fun g7_12 => zN rfl rfl) rfl<|rLz [(40,_)] rfl gv2 ⟨rfl,rfl,trivial⟩ (fun g7_12 => wQ rfl rfl rfl) rfl<|rLz [(39,_)] rfl gv2 ⟨rfl,rfl,trivial⟩ (fun g7_9 => qP rfl rfl rfl (fun h => kF (by assumption) h) rfl) rfl<|rLz [(42,_)] rfl gv2 ⟨rfl,rfl,trivial⟩ (fun g7_9 => zN rfl rfl) rfl<|rLz [] rfl gv2 trivial (fun g7_16 => zN rfl rfl) rfl<|rLz [(44,_)] rfl gv2 ⟨rfl,rfl,trivial⟩ (fun g7_16 => qJ rfl rfl rfl) rfl<|rLz [(43,_)] rfl gv2 ⟨rfl,rfl,trivial⟩ (fun g7_9 => yP rfl rfl rfl rfl (fun h => kF (by assumption) (lzf h))) rfl<|rLz [(36,_)] rfl gv1 ⟨rfl,rfl,trivial⟩ (fun g7_6 => qP rfl rfl rfl (fun h => kF (by assumption) h) rfl) rfl<|zA rfl rfl (yP rfl rfl rfl rfl (fun h => (lzf h)))<|zA rfl rfl (yA rfl rfl)<|zB<|zG rfl (fun c3 => ?_) (fun c3 => ?_)
   ·have hbad : okTo s (k + 1) = false:= by rw [okTo_next,show nameOk k (s.data.toList.getD k 0) = false from (Bool.not_eq_true' _).mp c3]; simp
    refine sReg rfl<|rMv rfl<|zB<|zH<|fin1 (rs_c rfl) ?_
    rw [hne]; cases ho : okTo s s.size; rfl; exact absurd (okTo_le (k := k + 1) (by omega) ho) (by rw [hbad]; simp)
   ·have hgood : okTo s (k + 1) = true:= by rw [okTo_next,hp,show nameOk k (s.data.toList.getD k 0) = true from (Bool.not_eq_false' _).mp c3]; rfl
    refine zK<|zR rfl<|rMv rfl<|zA rfl rfl (qC rfl rfl rfl ⟨by omega,by omega⟩)<|rMv rfl<|zB ?_
    refine ⟨k + 1,⟨by omega,hgood⟩,(by omega),Weak.mk [] ⟨VLe.refl _,VLe.refl _,trivial⟩ rfl⟩
  ·try simp only [sx] at c2
   refine qO<|sReg rfl<|rMv rfl<|zB<|zH<|fin1 (rs_c rfl) ?_
   rw [hne,show s.size = k by omega,hp]
theorem lin_reserved (s : ByteArray) :
    Pur cfg 176 [vS s] (vB (hasB words s)):= by
 refine zV Tryz.func176 rfl Tryz.ntmps176 Tryz.results176 rfl ?_
 intro z hz
 refine sReg rfl<|rMv rfl<|zB<|zJ<|sReg rfl<|rMv rfl<|zB<|zU<|zJ<|sReg rfl<|zA rfl rfl (yL rfl rfl rfl)<|rMv rfl<|zB<|zG rfl (fun c1 => ?_) (fun c1 => ?_)
 ·try simp only [sx] at c1
  refine zK<|zG rfl (fun c22 => ?_) (fun c22 => ?_)
  ·try simp only [sx] at c22
   refine sReg rfl<|rMv rfl<|zB<|zH<|fin1 (rs_c rfl) ?_
   rw [yO (l := words) (k := 0) rfl c1.symm]
  ·try simp only [sx] at c22
   refine zK<|sReg rfl<|rMv rfl<|zB<|zH<|fin1 (rs_c rfl) ?_
   exact absurd c1 c22
 ·try simp only [sx] at c1
  refine sReg rfl<|zA rfl rfl (yL rfl rfl rfl)<|rMv rfl<|zB<|zG rfl (fun c2 => ?_) (fun c2 => ?_)
  ·try simp only [sx] at c2
   refine zK<|zG rfl (fun c22 => ?_) (fun c22 => ?_)
   ·try simp only [sx] at c22
    refine sReg rfl<|rMv rfl<|zB<|zH<|fin1 (rs_c rfl) ?_
    rw [yO (l := words) (k := 1) rfl c2.symm]
   ·try simp only [sx] at c22
    refine zK<|sReg rfl<|rMv rfl<|zB<|zH<|fin1 (rs_c rfl) ?_
    exact absurd c2 c22
  ·try simp only [sx] at c2
   refine sReg rfl<|zA rfl rfl (yL rfl rfl rfl)<|rMv rfl<|zB<|zG rfl (fun c3 => ?_) (fun c3 => ?_)
   ·try simp only [sx] at c3
    refine zK<|zG rfl (fun c22 => ?_) (fun c22 => ?_)
    ·try simp only [sx] at c22
     refine sReg rfl<|rMv rfl<|zB<|zH<|fin1 (rs_c rfl) ?_
     rw [yO (l := words) (k := 2) rfl c3.symm]
    ·try simp only [sx] at c22
     refine zK<|sReg rfl<|rMv rfl<|zB<|zH<|fin1 (rs_c rfl) ?_
     exact absurd c3 c22
   ·try simp only [sx] at c3
    refine sReg rfl<|zA rfl rfl (yL rfl rfl rfl)<|rMv rfl<|zB<|zG rfl (fun c4 => ?_) (fun c4 => ?_)
    ·try simp only [sx] at c4
     refine zK<|zG rfl (fun c22 => ?_) (fun c22 => ?_)
     ·try simp only [sx] at c22
      refine sReg rfl<|rMv rfl<|zB<|zH<|fin1 (rs_c rfl) ?_
      rw [yO (l := words) (k := 3) rfl c4.symm]
     ·try simp only [sx] at c22
      refine zK<|sReg rfl<|rMv rfl<|zB<|zH<|fin1 (rs_c rfl) ?_
      exact absurd c4 c22
    ·try simp only [sx] at c4
     refine sReg rfl<|zA rfl rfl (yL rfl rfl rfl)<|rMv rfl<|zB<|zG rfl (fun c5 => ?_) (fun c5 => ?_)
     ·try simp only [sx] at c5
      refine zK<|zG rfl (fun c22 => ?_) (fun c22 => ?_)
      ·try simp only [sx] at c22
       refine sReg rfl<|rMv rfl<|zB<|zH<|fin1 (rs_c rfl) ?_
       rw [yO (l := words) (k := 4) rfl c5.symm]
      ·try simp only [sx] at c22
       refine zK<|sReg rfl<|rMv rfl<|zB<|zH<|fin1 (rs_c rfl) ?_
       exact absurd c5 c22
     ·try simp only [sx] at c5
      refine sReg rfl<|zA rfl rfl (yL rfl rfl rfl)<|rMv rfl<|zB<|zG rfl (fun c6 => ?_) (fun c6 => ?_)
      ·try simp only [sx] at c6
       refine zK<|zG rfl (fun c22 => ?_) (fun c22 => ?_)
       ·try simp only [sx] at c22
        refine sReg rfl<|rMv rfl<|zB<|zH<|fin1 (rs_c rfl) ?_
        rw [yO (l := words) (k := 5) rfl c6.symm]
       ·try simp only [sx] at c22
        refine zK<|sReg rfl<|rMv rfl<|zB<|zH<|fin1 (rs_c rfl) ?_
        exact absurd c6 c22
      ·try simp only [sx] at c6
       refine sReg rfl<|zA rfl rfl (yL rfl rfl rfl)<|rMv rfl<|zB<|zG rfl (fun c7 => ?_) (fun c7 => ?_)
       ·try simp only [sx] at c7
        refine zK<|zG rfl (fun c22 => ?_) (fun c22 => ?_)
        ·try simp only [sx] at c22
         refine sReg rfl<|rMv rfl<|zB<|zH<|fin1 (rs_c rfl) ?_
         rw [yO (l := words) (k := 6) rfl c7.symm]
        ·try simp only [sx] at c22
         refine zK<|sReg rfl<|rMv rfl<|zB<|zH<|fin1 (rs_c rfl) ?_
         exact absurd c7 c22
       ·try simp only [sx] at c7
        refine sReg rfl<|zA rfl rfl (yL rfl rfl rfl)<|rMv rfl<|zB<|zG rfl (fun c8 => ?_) (fun c8 => ?_)
        ·try simp only [sx] at c8
         refine zK<|zG rfl (fun c22 => ?_) (fun c22 => ?_)
         ·try simp only [sx] at c22
          refine sReg rfl<|rMv rfl<|zB<|zH<|fin1 (rs_c rfl) ?_
          rw [yO (l := words) (k := 7) rfl c8.symm]
         ·try simp only [sx] at c22
          refine zK<|sReg rfl<|rMv rfl<|zB<|zH<|fin1 (rs_c rfl) ?_
          exact absurd c8 c22
        ·try simp only [sx] at c8
         refine sReg rfl<|zA rfl rfl (yL rfl rfl rfl)<|rMv rfl<|zB<|zG rfl (fun c9 => ?_) (fun c9 => ?_)
         ·try simp only [sx] at c9
          refine zK<|zG rfl (fun c22 => ?_) (fun c22 => ?_)
          ·try simp only [sx] at c22
           refine sReg rfl<|rMv rfl<|zB<|zH<|fin1 (rs_c rfl) ?_
           rw [yO (l := words) (k := 8) rfl c9.symm]
          ·try simp only [sx] at c22
           refine zK<|sReg rfl<|rMv rfl<|zB<|zH<|fin1 (rs_c rfl) ?_
           exact absurd c9 c22
         ·try simp only [sx] at c9
          refine sReg rfl<|zA rfl rfl (yL rfl rfl rfl)<|rMv rfl<|zB<|zG rfl (fun c10 => ?_) (fun c10 => ?_)
          ·try simp only [sx] at c10
           refine zK<|zG rfl (fun c22 => ?_) (fun c22 => ?_)
           ·try simp only [sx] at c22
            refine sReg rfl<|rMv rfl<|zB<|zH<|fin1 (rs_c rfl) ?_
            rw [yO (l := words) (k := 9) rfl c10.symm]
           ·try simp only [sx] at c22
            refine zK<|sReg rfl<|rMv rfl<|zB<|zH<|fin1 (rs_c rfl) ?_
            exact absurd c10 c22
          ·try simp only [sx] at c10
           refine sReg rfl<|zA rfl rfl (yL rfl rfl rfl)<|rMv rfl<|zB<|zG rfl (fun c11 => ?_) (fun c11 => ?_)
           ·try simp only [sx] at c11
            refine zK<|zG rfl (fun c22 => ?_) (fun c22 => ?_)
            ·try simp only [sx] at c22
             refine sReg rfl<|rMv rfl<|zB<|zH<|fin1 (rs_c rfl) ?_
             rw [yO (l := words) (k := 10) rfl c11.symm]
            ·try simp only [sx] at c22
             refine zK<|sReg rfl<|rMv rfl<|zB<|zH<|fin1 (rs_c rfl) ?_
             exact absurd c11 c22
           ·try simp only [sx] at c11
            refine sReg rfl<|zA rfl rfl (yL rfl rfl rfl)<|rMv rfl<|zB<|zG rfl (fun c12 => ?_) (fun c12 => ?_)
            ·try simp only [sx] at c12
             refine zK<|zG rfl (fun c22 => ?_) (fun c22 => ?_)
             ·try simp only [sx] at c22
              refine sReg rfl<|rMv rfl<|zB<|zH<|fin1 (rs_c rfl) ?_
              rw [yO (l := words) (k := 11) rfl c12.symm]
             ·try simp only [sx] at c22
              refine zK<|sReg rfl<|rMv rfl<|zB<|zH<|fin1 (rs_c rfl) ?_
              exact absurd c12 c22
            ·try simp only [sx] at c12
             refine sReg rfl<|zA rfl rfl (yL rfl rfl rfl)<|rMv rfl<|zB<|zG rfl (fun c13 => ?_) (fun c13 => ?_)
             ·try simp only [sx] at c13
              refine zK<|zG rfl (fun c22 => ?_) (fun c22 => ?_)
              ·try simp only [sx] at c22
               refine sReg rfl<|rMv rfl<|zB<|zH<|fin1 (rs_c rfl) ?_
               rw [yO (l := words) (k := 12) rfl c13.symm]
              ·try simp only [sx] at c22
               refine zK<|sReg rfl<|rMv rfl<|zB<|zH<|fin1 (rs_c rfl) ?_
               exact absurd c13 c22
             ·try simp only [sx] at c13
              refine sReg rfl<|zA rfl rfl (yL rfl rfl rfl)<|rMv rfl<|zB<|zG rfl (fun c14 => ?_) (fun c14 => ?_)
              ·try simp only [sx] at c14
               refine zK<|zG rfl (fun c22 => ?_) (fun c22 => ?_)
               ·try simp only [sx] at c22
                refine sReg rfl<|rMv rfl<|zB<|zH<|fin1 (rs_c rfl) ?_
                rw [yO (l := words) (k := 13) rfl c14.symm]
               ·try simp only [sx] at c22
                refine zK<|sReg rfl<|rMv rfl<|zB<|zH<|fin1 (rs_c rfl) ?_
                exact absurd c14 c22
              ·try simp only [sx] at c14
               refine sReg rfl<|zA rfl rfl (yL rfl rfl rfl)<|rMv rfl<|zB<|zG rfl (fun c15 => ?_) (fun c15 => ?_)
               ·try simp only [sx] at c15
                refine zK<|zG rfl (fun c22 => ?_) (fun c22 => ?_)
                ·try simp only [sx] at c22
                 refine sReg rfl<|rMv rfl<|zB<|zH<|fin1 (rs_c rfl) ?_
                 rw [yO (l := words) (k := 14) rfl c15.symm]
                ·try simp only [sx] at c22
                 refine zK<|sReg rfl<|rMv rfl<|zB<|zH<|fin1 (rs_c rfl) ?_
                 exact absurd c15 c22
               ·try simp only [sx] at c15
                refine sReg rfl<|zA rfl rfl (yL rfl rfl rfl)<|rMv rfl<|zB<|zG rfl (fun c16 => ?_) (fun c16 => ?_)
                ·try simp only [sx] at c16
                 refine zK<|zG rfl (fun c22 => ?_) (fun c22 => ?_)
                 ·try simp only [sx] at c22
                  refine sReg rfl<|rMv rfl<|zB<|zH<|fin1 (rs_c rfl) ?_
                  rw [yO (l := words) (k := 15) rfl c16.symm]
                 ·try simp only [sx] at c22
                  refine zK<|sReg rfl<|rMv rfl<|zB<|zH<|fin1 (rs_c rfl) ?_
                  exact absurd c16 c22
                ·try simp only [sx] at c16
                 refine sReg rfl<|zA rfl rfl (yL rfl rfl rfl)<|rMv rfl<|zB<|zG rfl (fun c17 => ?_) (fun c17 => ?_)
                 ·try simp only [sx] at c17
                  refine zK<|zG rfl (fun c22 => ?_) (fun c22 => ?_)
                  ·try simp only [sx] at c22
                   refine sReg rfl<|rMv rfl<|zB<|zH<|fin1 (rs_c rfl) ?_
                   rw [yO (l := words) (k := 16) rfl c17.symm]
                  ·try simp only [sx] at c22
                   refine zK<|sReg rfl<|rMv rfl<|zB<|zH<|fin1 (rs_c rfl) ?_
                   exact absurd c17 c22
                 ·try simp only [sx] at c17
                  refine sReg rfl<|zA rfl rfl (yL rfl rfl rfl)<|rMv rfl<|zB<|zG rfl (fun c18 => ?_) (fun c18 => ?_)
                  ·try simp only [sx] at c18
                   refine zK<|zG rfl (fun c22 => ?_) (fun c22 => ?_)
                   ·try simp only [sx] at c22
                    refine sReg rfl<|rMv rfl<|zB<|zH<|fin1 (rs_c rfl) ?_
                    rw [yO (l := words) (k := 17) rfl c18.symm]
                   ·try simp only [sx] at c22
                    refine zK<|sReg rfl<|rMv rfl<|zB<|zH<|fin1 (rs_c rfl) ?_
                    exact absurd c18 c22
                  ·try simp only [sx] at c18
                   refine sReg rfl<|zA rfl rfl (yL rfl rfl rfl)<|rMv rfl<|zB<|zG rfl (fun c19 => ?_) (fun c19 => ?_)
                   ·try simp only [sx] at c19
                    refine zK<|zG rfl (fun c22 => ?_) (fun c22 => ?_)
                    ·try simp only [sx] at c22
                     refine sReg rfl<|rMv rfl<|zB<|zH<|fin1 (rs_c rfl) ?_
                     rw [yO (l := words) (k := 18) rfl c19.symm]
                    ·try simp only [sx] at c22
                     refine zK<|sReg rfl<|rMv rfl<|zB<|zH<|fin1 (rs_c rfl) ?_
                     exact absurd c19 c22
                   ·try simp only [sx] at c19
                    refine sReg rfl<|zA rfl rfl (yL rfl rfl rfl)<|rMv rfl<|zB<|zG rfl (fun c20 => ?_) (fun c20 => ?_)
                    ·try simp only [sx] at c20
                     refine zK<|zG rfl (fun c22 => ?_) (fun c22 => ?_)
                     ·try simp only [sx] at c22
                      refine sReg rfl<|rMv rfl<|zB<|zH<|fin1 (rs_c rfl) ?_
                      rw [yO (l := words) (k := 19) rfl c20.symm]
                     ·try simp only [sx] at c22
                      refine zK<|sReg rfl<|rMv rfl<|zB<|zH<|fin1 (rs_c rfl) ?_
                      exact absurd c20 c22
                    ·try simp only [sx] at c20
                     refine sReg rfl<|zA rfl rfl (yL rfl rfl rfl)<|rMv rfl<|zB<|zG rfl (fun c21 => ?_) (fun c21 => ?_)
                     ·try simp only [sx] at c21
                      refine zK<|zG rfl (fun c22 => ?_) (fun c22 => ?_)
                      ·try simp only [sx] at c22
                       refine sReg rfl<|rMv rfl<|zB<|zH<|fin1 (rs_c rfl) ?_
                       rw [yO (l := words) (k := 20) rfl c21.symm]
                      ·try simp only [sx] at c22
                       refine zK<|sReg rfl<|rMv rfl<|zB<|zH<|fin1 (rs_c rfl) ?_
                       exact absurd c21 c22
                     ·try simp only [sx] at c21
                      refine zR rfl<|zA rfl rfl (yL rfl rfl rfl)<|rMv rfl<|zB<|zG rfl (fun c22 => ?_) (fun c22 => ?_)
                      ·try simp only [sx] at c22
                       refine sReg rfl<|rMv rfl<|zB<|zH<|fin1 (rs_c rfl) ?_
                       rw [yO (l := words) (k := 21) rfl c22.symm]
                      ·try simp only [sx] at c22
                       refine zK<|sReg rfl<|rMv rfl<|zB<|zH<|fin1 (rs_c rfl) ?_
                       rw [show hasB words s = false by
                         simp only [hasB,words,List.any_cons,List.any_nil,Bool.or_eq_false_iff,decide_eq_false_iff_not]
                         exact ⟨fun h => c1 h.symm,fun h => c2 h.symm,fun h => c3 h.symm,fun h => c4 h.symm,fun h => c5 h.symm,fun h => c6 h.symm,fun h => c7 h.symm,fun h => c8 h.symm,fun h => c9 h.symm,fun h => c10 h.symm,fun h => c11 h.symm,fun h => c12 h.symm,fun h => c13 h.symm,fun h => c14 h.symm,fun h => c15 h.symm,fun h => c16 h.symm,fun h => c17 h.symm,fun h => c18 h.symm,fun h => c19 h.symm,fun h => c20 h.symm,fun h => c21 h.symm,fun h => c22 h.symm,trivial⟩]
theorem zHu (s : ByteArray) :
    Pur cfg 141 [vS s] (vB (isNameB s)):= by
 refine zV Tryz.func141 rfl Tryz.ntmps141 Tryz.results141 rfl ?_
 intro z hz
 refine sReg rfl<|rMv rfl<|zB<|zJ<|sReg rfl<|rMv rfl<|zA rfl rfl (kY rfl un9 rfl)<|zA rfl rfl (qL rfl rfl rfl)<|rMv rfl<|rLz [] rfl gv1 trivial (fun g1_3 => zN rfl rfl) rfl<|rLz [(9,_)] rfl gv1 ⟨rfl,rfl,trivial⟩ (fun g1_3 => kY rfl un9 rfl) rfl<|rLz [(10,_)] rfl gv1 ⟨rfl,rfl,trivial⟩ (fun g1_3 => yV rfl rfl rfl) rfl<|zA rfl rfl (yP rfl rfl rfl rfl (fun h => (lzf h)))<|rMv rfl<|rLz [] rfl gv1 trivial (fun g1_8 => zN rfl rfl) rfl<|rLz [(14,_)] rfl gv1 ⟨rfl,rfl,trivial⟩ (fun g1_8 => zQ rfl ok176 (lin_reserved _) ⟨VLe.refl _,rfl,trivial⟩) rfl<|zA rfl rfl (yP rfl rfl rfl rfl (fun h => (lzf h)))<|rMv rfl<|rLz [] rfl gv1 trivial (fun g1_12 => zN rfl rfl) rfl<|rLz [(18,_)] rfl gv1 ⟨rfl,rfl,trivial⟩ (fun g1_12 => zBt rfl un9 rfl rfl (by decide) (by simp only [Lz,cond_true,cond_false,Bool.and_eq_true,Bool.or_eq_true,Bool.not_eq_true',Bool.not_eq_false',Bool.or_eq_false_iff,Bool.and_eq_false_iff,decide_eq_true_eq,decide_eq_false_iff_not,Bool.not_eq_true,Bool.not_eq_false] at g1_12; omega)) rfl<|rLz [(19,_)] rfl gv1 ⟨rfl,rfl,trivial⟩ (fun g1_12 => qL rfl rfl rfl) rfl<|zA rfl rfl (yP rfl rfl rfl rfl (fun h => (lzf h)))<|rMv rfl<|rLz [] rfl gv1 trivial (fun g1_17 => zN rfl rfl) rfl<|rLz [(23,_)] rfl gv1 ⟨rfl,rfl,trivial⟩ (fun g1_17 => zBt rfl un9 rfl rfl (by decide) (by simp only [Lz,cond_true,cond_false,Bool.and_eq_true,Bool.or_eq_true,Bool.not_eq_true',Bool.not_eq_false',Bool.or_eq_false_iff,Bool.and_eq_false_iff,decide_eq_true_eq,decide_eq_false_iff_not,Bool.not_eq_true,Bool.not_eq_false] at g1_17; omega)) rfl<|rLz [(24,_)] rfl gv1 ⟨rfl,rfl,trivial⟩ (fun g1_17 => yV rfl rfl rfl) rfl<|zA rfl rfl (yP rfl rfl rfl rfl (fun h => (lzf h)))<|zB<|zG rfl (fun c1 => ?_) (fun c1 => ?_)
 ·have hno := ident_no c1
  refine sReg rfl<|rMv rfl<|zB<|zH<|fin1 (rs_c rfl) ?_
  rw [hno]
 ·obtain ⟨n1,n2,hne⟩ := ident_yes c1
  refine zK<|zJ<|sReg rfl<|rMv rfl<|zA rfl rfl (kY rfl un9 rfl)<|rMv rfl<|zB<|zU<|zX ⟨[(29,.c _),(0,.c _),(28,.c _)],[]⟩ (Weak.mk [] ⟨VLe.of_eq rfl,VLe.of_eq rfl,VLe.of_eq rfl,trivial⟩ rfl)<|qI 1 0 rfl rfl (Nat) (fun k => [(29,vI k)]) (fun k => []) (fun k => k ≤ s.size ∧ (s.data.toList.take k).all inWordB = true) (fun k => s.size - k) ⟨0,⟨by omega,rfl⟩,Weak.mk [] ⟨VLe.refl _,VLe.refl _,VLe.refl _,trivial⟩ rfl⟩ ?_
  rintro k ⟨hk,hp⟩
  refine sReg rfl<|zA rfl rfl (qL rfl rfl rfl)<|zB<|zJ<|zG rfl (fun c2 => ?_) (fun c2 => ?_)
  ·try simp only [sx] at c2
   have hlt : k < s.size:= by omega
   refine zK<|zJ<|zU<|sReg rfl<|rMv rfl<|rMv rfl<|zB<|sReg rfl<|rMv rfl<|rMv rfl<|zA rfl rfl (zBt rfl un9 rfl rfl (by omega) (by omega))<|rMv rfl<|zB<|sReg rfl<|rMv rfl<|zA rfl rfl (qL rfl rfl rfl)<|rMv rfl<|rLz [] rfl gv1 trivial (fun g7_2 => zN rfl rfl) rfl<|rLz [(38,_)] rfl gv1 ⟨rfl,rfl,trivial⟩ (fun g7_2 => yV rfl rfl rfl) rfl<|zA rfl rfl (yP rfl rfl rfl rfl (fun h => (lzf h)))<|rMv rfl<|rLz [] rfl gv1 trivial (fun g7_6 => zN rfl rfl) rfl<|rLz [(42,_)] rfl gv1 ⟨rfl,rfl,trivial⟩ (fun g7_6 => qL rfl rfl rfl) rfl<|rLz [(43,_)] rfl gv1 ⟨rfl,rfl,trivial⟩ (fun g7_6 => zN rfl rfl) rfl<|rLz [] rfl gv2 trivial (fun g7_9 => zN rfl rfl) rfl<|rLz [(45,_)] rfl gv2 ⟨rfl,rfl,trivial⟩ (fun g7_9 => yV rfl rfl rfl) rfl<|rLz [(44,_)] rfl gv1 ⟨rfl,rfl,trivial⟩ (fun g7_6 => yP rfl rfl rfl rfl (fun h => kF (by assumption) (lzf h))) rfl<|zA rfl rfl (qP rfl rfl rfl (fun h => h) rfl)<|rMv rfl<|rLz [] rfl gv1 trivial (fun g7_14 => zN rfl rfl) rfl<|rLz [(50,_)] rfl gv1 ⟨rfl,rfl,trivial⟩ (fun g7_14 => qS rfl rfl rfl) rfl<|zA rfl rfl (qP rfl rfl rfl (fun h => h) rfl)<|zB<|zG rfl (fun c3 => ?_) (fun c3 => ?_)
   ·have hbad := word_no hlt c3
    refine sReg rfl<|rMv rfl<|zB<|zH<|fin1 (rs_c rfl) ?_
    rw [hne,hbad]
   ·have hgood := word_yes hlt hp c3
    refine zK<|zR rfl<|zA rfl rfl (qC rfl rfl rfl ⟨by omega,by omega⟩)<|rMv rfl<|zB ?_
    refine ⟨k + 1,⟨by omega,hgood⟩,(by omega),Weak.mk [] ⟨VLe.refl _,VLe.refl _,VLe.refl _,trivial⟩ rfl⟩
  ·try simp only [sx] at c2
   refine qO<|sReg rfl<|rMv rfl<|zB<|zH<|fin1 (rs_c rfl) ?_
   rw [hne,word_all hp (by omega)]
theorem zBd (l : Lf) (hl : l.L.length ≤ 6000000000000) :
    Pur cfg 140 [vLin l] (vI (linErr l)):= by
 refine zV Tryz.func140 rfl Tryz.ntmps140 Tryz.results140 rfl ?_
 intro z hz
 refine sReg rfl<|zY rfl rfl (qM rfl rfl) ?_
 rintro _ _ ⟨b1,rfl,rfl⟩
 refine rMv rfl<|zB<|zJ<|sReg rfl<|zA rfl rfl (zC rfl yM rfl)<|zA rfl rfl (zD rfl kQ rfl (zE 0 rfl) rfl)<|zA rfl rfl (zT rfl el47 rfl)<|rMv rfl<|zB<|zU<|zX ⟨[(8,.c _),(1,.c _),(6,.c _),(7,.c _)],[_]⟩ (Weak.mk [true] ⟨VLe.of_eq rfl,VLe.of_eq rfl,VLe.of_eq rfl,VLe.of_eq rfl,trivial⟩ rfl)<|qI 1 0 rfl rfl (Nat) (fun k => [(8,vI k)]) (fun k => []) (fun k => k ≤ l.L.length ∧ (linOk l = monosOk (prevOf l.L k) (l.L.drop k))) (fun k => l.L.length - k) ⟨0,⟨by omega,rfl⟩,Weak.mk [true] ⟨VLe.refl _,VLe.refl _,VLe.refl _,VLe.refl _,trivial⟩ rfl⟩ ?_
 rintro k ⟨hk,hp⟩
 refine sReg rfl<|zA rfl rfl (qL rfl rfl rfl)<|zB<|zJ<|zG rfl (fun c1 => ?_) (fun c1 => ?_)
 ·try simp only [sx] at c1
  obtain ⟨x,hx⟩ := qZ l.L k (by omega)
  refine zK<|zJ<|zU<|sReg rfl<|rMv rfl<|zA rfl rfl (zP rfl el47 rfl rfl (by omega) (getm (by assumption)))<|zA rfl rfl (zF rfl zDh rfl qA rfl)<|zY rfl rfl (yJ rfl zCc) ?_
  rintro _ _ ⟨b2,rfl,rfl⟩
  refine rMv rfl<|zS rfl rfl (zO rfl sz111 rfl rfl rfl (qE 0 rfl rfl))<|zB<|zJ<|yG 25 mixed (by kernel_rfl) rfl rfl<|zM rfl rfl (zC rfl kN rfl)<|zM rfl rfl (zD rfl one9 rfl (zE 0 rfl) rfl)<|zM rfl rfl (zQ rfl ok141 (zHu _) ⟨VLe.refl _,rfl,trivial⟩)<|zM rfl rfl (yA rfl rfl)<|zM rfl rfl (zN rfl rfl)<|qG [] rfl rfl rfl rfl gv1 trivial (fun g4_4 => zC rfl zAz rfl) rfl<|qG [(18,_)] rfl rfl rfl rfl gv1 ⟨rfl,rfl,trivial⟩ (fun g4_4 => zD rfl one2 rfl (zE 0 rfl) rfl) rfl<|qG [(19,_)] rfl rfl rfl rfl gv1 ⟨rfl,rfl,trivial⟩ (fun g4_4 => qJ rfl rfl rfl) rfl<|zM rfl rfl (yP rfl rfl rfl rfl (fun h => (lzf h)))<|zM rfl rfl (zN rfl rfl)<|qG [] rfl rfl rfl rfl gv1 trivial (fun g4_9 => zN rfl rfl) rfl<|qG [(23,_)] rfl rfl rfl rfl gv1 ⟨rfl,rfl,trivial⟩ (fun g4_9 => yV rfl rfl rfl) rfl<|qG [(24,_)] rfl rfl rfl rfl gv1 ⟨rfl,rfl,trivial⟩ (fun g4_9 => zN rfl rfl) rfl<|qG [] rfl rfl rfl rfl gv2 trivial (fun g4_12 => zC rfl yM rfl) rfl<|qG [(26,_)] rfl rfl rfl rfl gv2 ⟨rfl,rfl,trivial⟩ (fun g4_12 => zD rfl kQ rfl (zE 1 rfl) rfl) rfl<|qG [] rfl rfl rfl rfl gv2 trivial (fun g4_12 => zN rfl rfl) rfl<|qG [(28,_)] rfl rfl rfl rfl gv2 ⟨rfl,rfl,trivial⟩ (fun g4_12 => yD rfl rfl rfl ⟨by omega,by omega⟩) rfl<|qG [(27,_),(29,_)] rfl rfl rfl rfl gv2 ⟨rfl,rfl,rfl,rfl,trivial⟩ (fun g4_12 => zP rfl el47 rfl rfl (by simp only [Lz,cond_true,cond_false,Bool.and_eq_true,Bool.or_eq_true,Bool.not_eq_true',Bool.not_eq_false',Bool.or_eq_false_iff,Bool.and_eq_false_iff,decide_eq_true_eq,decide_eq_false_iff_not,Bool.not_eq_true,Bool.not_eq_false] at g4_12; omega) (pv_get (by simp only [Lz,cond_true,cond_false,Bool.and_eq_true,Bool.or_eq_true,Bool.not_eq_true',Bool.not_eq_false',Bool.or_eq_false_iff,Bool.and_eq_false_iff,decide_eq_true_eq,decide_eq_false_iff_not,Bool.not_eq_true,Bool.not_eq_false] at g4_12; omega) (by omega))) rfl<|qG [(30,_)] rfl rfl rfl rfl gv2 ⟨rfl,rfl,trivial⟩ (fun g4_12 => zZ rfl kN rfl) rfl<|qG [(31,_)] rfl rfl rfl rfl gv2 ⟨rfl,rfl,trivial⟩ (fun g4_12 => zD rfl one9 rfl qA rfl) rfl<|qG [] rfl rfl rfl rfl gv2 trivial (fun g4_12 => zC rfl kN rfl) rfl<|qG [(33,_)] rfl rfl rfl rfl gv2 ⟨rfl,rfl,trivial⟩ (fun g4_12 => zD rfl one9 rfl (zE 0 rfl) rfl) rfl<|qG [(32,_),(34,_)] rfl rfl rfl rfl gv2 ⟨rfl,rfl,rfl,rfl,trivial⟩ (fun g4_12 => det_sgeq rfl rfl rfl) rfl<|qG [(25,_)] rfl rfl rfl rfl gv1 ⟨rfl,rfl,trivial⟩ (fun g4_9 => qP rfl rfl rfl (fun h => kF (by assumption) h) rfl) rfl<|zM rfl rfl (yP rfl rfl rfl rfl (fun h => (lzf h)))<|kI<|zB<|zG rfl (fun c2 => ?_) (fun c2 => ?_)
  ·refine sReg rfl<|rMv rfl<|zB<|zH<|fin1 (rs_c rfl) ?_
   rw [linErr,hp,zHc hx,show badM l.L k x = true from c2]; rfl
  ·refine zK<|zR rfl<|zA rfl rfl (qC rfl rfl rfl ⟨by omega,by omega⟩)<|rMv rfl<|zB ?_
   refine ⟨k + 1,⟨by omega,by rw [hp,zHc hx,show badM l.L k x = false from c2]; rfl⟩,(by omega),Weak.mk [false,true] ⟨VLe.refl _,VLe.refl _,VLe.refl _,VLe.refl _,trivial⟩ rfl⟩
 ·try simp only [sx] at c1
  refine qO<|sReg rfl<|rMv rfl<|zB<|zH<|fin1 (rs_c rfl) ?_
  rw [linErr,hp,monos_end (by omega)]; rfl
theorem zKk (l : Lf) (hl : l.L.length ≤ 6000000000000) :
    Pur cfg 181 [vLin l] (vB (linOk l)):= by
 refine zV Tryz.func181 rfl Tryz.ntmps181 Tryz.results181 rfl ?_
 intro z hz
 refine sReg rfl<|zY rfl rfl (qM rfl rfl) ?_
 rintro _ _ ⟨b1,rfl,rfl⟩
 refine rMv rfl<|zB<|zJ<|sReg rfl<|rMv rfl<|zB<|zU<|zX ⟨[(3,.c _),(1,.c _)],[_]⟩ (Weak.mk [true] ⟨VLe.of_eq rfl,VLe.of_eq rfl,trivial⟩ rfl)<|qI 1 0 rfl rfl (Nat) (fun k => [(3,vI k)]) (fun k => []) (fun k => k ≤ l.L.length ∧ (linOk l = monosOk (prevOf l.L k) (l.L.drop k))) (fun k => l.L.length - k) ⟨0,⟨by omega,rfl⟩,Weak.mk [true] ⟨VLe.refl _,VLe.refl _,trivial⟩ rfl⟩ ?_
 rintro k ⟨hk,hp⟩
 refine zJ<|sReg rfl<|rMv rfl<|zA rfl rfl (zC rfl yM rfl)<|zA rfl rfl (zD rfl kQ rfl (zE 0 rfl) rfl)<|zA rfl rfl (zT rfl el47 rfl)<|zA rfl rfl (qL rfl rfl rfl)<|zB<|zG rfl (fun c1 => ?_) (fun c1 => ?_)
 ·try simp only [sx] at c1
  obtain ⟨x,hx⟩ := qZ l.L k (by omega)
  refine zK<|zJ<|zU<|zJ<|yG 37 mixed (by kernel_rfl) rfl rfl<|zM rfl rfl (zC rfl yM rfl)<|zM rfl rfl (zD rfl kQ rfl (zE 0 rfl) rfl)<|zM rfl rfl (zN rfl rfl)<|zM rfl rfl (zP rfl el47 rfl rfl (by omega) (getm (by assumption)))<|zM rfl rfl (zZ rfl kN rfl)<|zM rfl rfl (zD rfl one9 rfl qA rfl)<|zM rfl rfl (zQ rfl ok50 (base_Name _) ⟨VLe.refl _,rfl,trivial⟩)<|zM rfl rfl (yA rfl rfl)<|zM rfl rfl (zN rfl rfl)<|qG [] rfl rfl rfl rfl gv1 trivial (fun g4_8 => zC rfl yM rfl) rfl<|qG [(20,_)] rfl rfl rfl rfl gv1 ⟨rfl,rfl,trivial⟩ (fun g4_8 => zD rfl kQ rfl (zE 0 rfl) rfl) rfl<|qG [] rfl rfl rfl rfl gv1 trivial (fun g4_8 => zN rfl rfl) rfl<|qG [(21,_),(22,_)] rfl rfl rfl rfl gv1 ⟨rfl,rfl,rfl,rfl,trivial⟩ (fun g4_8 => zP rfl el47 rfl rfl (by omega) (getm (by assumption))) rfl<|qG [(23,_)] rfl rfl rfl rfl gv1 ⟨rfl,rfl,trivial⟩ (fun g4_8 => zZ rfl zAz rfl) rfl<|qG [(24,_)] rfl rfl rfl rfl gv1 ⟨rfl,rfl,trivial⟩ (fun g4_8 => zD rfl one2 rfl qA rfl) rfl<|qG [(25,_)] rfl rfl rfl rfl gv1 ⟨rfl,rfl,trivial⟩ (fun g4_8 => qJ rfl rfl rfl) rfl<|zM rfl rfl (yP rfl rfl rfl rfl (fun h => (lzf h)))<|zM rfl rfl (zN rfl rfl)<|qG [] rfl rfl rfl rfl gv1 trivial (fun g4_17 => zN rfl rfl) rfl<|qG [(29,_)] rfl rfl rfl rfl gv1 ⟨rfl,rfl,trivial⟩ (fun g4_17 => yV rfl rfl rfl) rfl<|qG [(30,_)] rfl rfl rfl rfl gv1 ⟨rfl,rfl,trivial⟩ (fun g4_17 => zN rfl rfl) rfl<|qG [] rfl rfl rfl rfl gv2 trivial (fun g4_20 => zC rfl yM rfl) rfl<|qG [(32,_)] rfl rfl rfl rfl gv2 ⟨rfl,rfl,trivial⟩ (fun g4_20 => zD rfl kQ rfl (zE 0 rfl) rfl) rfl<|qG [] rfl rfl rfl rfl gv2 trivial (fun g4_20 => zN rfl rfl) rfl<|qG [(34,_)] rfl rfl rfl rfl gv2 ⟨rfl,rfl,trivial⟩ (fun g4_20 => yD rfl rfl rfl ⟨by omega,by omega⟩) rfl<|qG [(33,_),(35,_)] rfl rfl rfl rfl gv2 ⟨rfl,rfl,rfl,rfl,trivial⟩ (fun g4_20 => zP rfl el47 rfl rfl (by simp only [Lz,cond_true,cond_false,Bool.and_eq_true,Bool.or_eq_true,Bool.not_eq_true',Bool.not_eq_false',Bool.or_eq_false_iff,Bool.and_eq_false_iff,decide_eq_true_eq,decide_eq_false_iff_not,Bool.not_eq_true,Bool.not_eq_false] at g4_20; omega) (pv_get (by simp only [Lz,cond_true,cond_false,Bool.and_eq_true,Bool.or_eq_true,Bool.not_eq_true',Bool.not_eq_false',Bool.or_eq_false_iff,Bool.and_eq_false_iff,decide_eq_true_eq,decide_eq_false_iff_not,Bool.not_eq_true,Bool.not_eq_false] at g4_20; omega) (by omega))) rfl<|qG [(36,_)] rfl rfl rfl rfl gv2 ⟨rfl,rfl,trivial⟩ (fun g4_20 => zZ rfl kN rfl) rfl<|qG [(37,_)] rfl rfl rfl rfl gv2 ⟨rfl,rfl,trivial⟩ (fun g4_20 => zD rfl one9 rfl qA rfl) rfl<|qG [] rfl rfl rfl rfl gv2 trivial (fun g4_20 => zC rfl yM rfl) rfl<|qG [(39,_)] rfl rfl rfl rfl gv2 ⟨rfl,rfl,trivial⟩ (fun g4_20 => zD rfl kQ rfl (zE 0 rfl) rfl) rfl<|qG [] rfl rfl rfl rfl gv2 trivial (fun g4_20 => zN rfl rfl) rfl<|qG [(40,_),(41,_)] rfl rfl rfl rfl gv2 ⟨rfl,rfl,rfl,rfl,trivial⟩ (fun g4_20 => zP rfl el47 rfl rfl (by omega) (getm (by assumption))) rfl<|qG [(42,_)] rfl rfl rfl rfl gv2 ⟨rfl,rfl,trivial⟩ (fun g4_20 => zZ rfl kN rfl) rfl<|qG [(43,_)] rfl rfl rfl rfl gv2 ⟨rfl,rfl,trivial⟩ (fun g4_20 => zD rfl one9 rfl qA rfl) rfl<|qG [(38,_),(44,_)] rfl rfl rfl rfl gv2 ⟨rfl,rfl,rfl,rfl,trivial⟩ (fun g4_20 => det_sgeq rfl rfl rfl) rfl<|qG [(31,_)] rfl rfl rfl rfl gv1 ⟨rfl,rfl,trivial⟩ (fun g4_17 => qP rfl rfl rfl (fun h => kF (by assumption) h) rfl) rfl<|zM rfl rfl (yP rfl rfl rfl rfl (fun h => (lzf h)))<|kI<|zB<|zG rfl (fun c2 => ?_) (fun c2 => ?_)
  ·refine sReg rfl<|rMv rfl<|zB<|zH<|fin1 (rs_c rfl) ?_
   rw [hp,zHc hx,show badM l.L k x = true from c2]; rfl
  ·refine zK<|zR rfl<|rMv rfl<|zA rfl rfl (qC rfl rfl rfl ⟨by omega,by omega⟩)<|rMv rfl<|zB ?_
   refine ⟨k + 1,⟨by omega,by rw [hp,zHc hx,show badM l.L k x = false from c2]; rfl⟩,(by omega),Weak.mk [true] ⟨VLe.refl _,VLe.refl _,trivial⟩ rfl⟩
 ·try simp only [sx] at c1
  refine qO<|sReg rfl<|rMv rfl<|zB<|zH<|fin1 (rs_c rfl) ?_
  rw [hp,monos_end (by omega)]
theorem base_Lin (a b : Lf) (ha : a.L.length ≤ 6000000000000) :
    Pur cfg 128 [vLin a,vLin b] (vB (decide (a = b))):= by
 refine zV Tryz.func128 rfl Tryz.ntmps128 Tryz.results128 rfl ?_
 intro z hz
 refine sReg rfl<|zY rfl rfl (qM rfl rfl) ?_
 rintro _ _ ⟨b1,rfl,rfl⟩
 refine zY rfl rfl (qM rfl rfl) ?_
 rintro _ _ ⟨b2,rfl,rfl⟩
 refine rMv rfl<|zB<|zJ<|sReg rfl<|zA rfl rfl (zC rfl zCj rfl)<|zA rfl rfl (zD rfl one2 rfl (zE 1 rfl) rfl)<|zA rfl rfl (zC rfl zCj rfl)<|zA rfl rfl (zD rfl one2 rfl (zE 0 rfl) rfl)<|zA rfl rfl (qS rfl rfl rfl)<|rMv rfl<|rLz [] rfl gv1 trivial (fun g1_5 => zC rfl yM rfl) rfl<|rLz [(12,_)] rfl gv1 ⟨rfl,rfl,trivial⟩ (fun g1_5 => zD rfl kQ rfl (zE 1 rfl) rfl) rfl<|rLz [(13,_)] rfl gv1 ⟨rfl,rfl,trivial⟩ (fun g1_5 => zT rfl el47 rfl) rfl<|rLz [] rfl gv1 trivial (fun g1_5 => zC rfl yM rfl) rfl<|rLz [(15,_)] rfl gv1 ⟨rfl,rfl,trivial⟩ (fun g1_5 => zD rfl kQ rfl (zE 0 rfl) rfl) rfl<|rLz [(16,_)] rfl gv1 ⟨rfl,rfl,trivial⟩ (fun g1_5 => zT rfl el47 rfl) rfl<|rLz [(14,_),(17,_)] rfl gv1 ⟨rfl,rfl,rfl,rfl,trivial⟩ (fun g1_5 => qS rfl rfl rfl) rfl<|zA rfl rfl (yP rfl rfl rfl rfl (fun h => (lzf h)))<|zB<|zG rfl (fun c1 => ?_) (fun c1 => ?_)
 ·try simp only [sx] at c1
  refine sReg rfl<|rMv rfl<|zB<|zH<|fin1 (rs_c rfl) ?_
  rw [yW (fun h => by rw [h] at c1; simp at c1)]
 ·try simp only [sx] at c1
  refine zK<|zJ<|sReg rfl<|rMv rfl<|zB<|zU<|zX ⟨[(5,.c _),(2,.c _),(3,.c _)],[_,_]⟩ (Weak.mk [true,true] ⟨VLe.of_eq rfl,VLe.of_eq rfl,VLe.of_eq rfl,trivial⟩ rfl)<|qI 1 0 rfl rfl (Nat) (fun k => [(5,vI k)]) (fun k => []) (fun k => k ≤ a.L.length ∧ (a.L.take k = b.L.take k)) (fun k => a.L.length - k) ⟨0,⟨by omega,rfl⟩,Weak.mk [true,true] ⟨VLe.refl _,VLe.refl _,VLe.refl _,trivial⟩ rfl⟩ ?_
  rintro k ⟨hk,hp⟩
  refine zJ<|sReg rfl<|rMv rfl<|zA rfl rfl (zC rfl yM rfl)<|zA rfl rfl (zD rfl kQ rfl (zE 1 rfl) rfl)<|zA rfl rfl (zT rfl el47 rfl)<|zA rfl rfl (qL rfl rfl rfl)<|zB<|zG rfl (fun c2 => ?_) (fun c2 => ?_)
  ·try simp only [sx] at c2
   obtain ⟨x,hx⟩ := qZ a.L k (by omega)
   obtain ⟨y,hy⟩ := qZ b.L k (by omega)
   refine zK<|zJ<|zU<|zJ<|yG 11 mixed (by kernel_rfl) rfl rfl<|zM rfl rfl (zC rfl yM rfl)<|zM rfl rfl (zD rfl kQ rfl (zE 1 rfl) rfl)<|zM rfl rfl (zN rfl rfl)<|zM rfl rfl (zP rfl el47 rfl rfl (by omega) (getm (by assumption)))<|zM rfl rfl (zF rfl zDh rfl qA rfl)<|zM rfl rfl (zC rfl yM rfl)<|zM rfl rfl (zD rfl kQ rfl (zE 0 rfl) rfl)<|zM rfl rfl (zN rfl rfl)<|zM rfl rfl (zP rfl el47 rfl rfl (by omega) (getm (by assumption)))<|zM rfl rfl (zF rfl zDh rfl qA rfl)<|zM rfl rfl (zCa rfl fl111 rfl rfl rfl)<|kI<|zB<|zG rfl (fun c3 => ?_) (fun c3 => ?_)
   ·have hne := mono_ne c3
    refine sReg rfl<|rMv rfl<|zB<|zH<|fin1 (rs_c rfl) ?_
    rw [yW (fun h => zDq hx hy hne (by rw [h]))]
   ·have heq := mono_eq c3
    refine zK<|zR rfl<|rMv rfl<|zA rfl rfl (qC rfl rfl rfl ⟨by omega,by omega⟩)<|rMv rfl<|zB ?_
    refine ⟨k + 1,⟨by omega,zBa hx hy hp heq⟩,(by omega),Weak.mk [true,true] ⟨VLe.refl _,VLe.refl _,VLe.refl _,trivial⟩ rfl⟩
  ·try simp only [sx] at c2
   refine qO<|sReg rfl<|rMv rfl<|zB<|zH<|fin1 (rs_c rfl) ?_
   rw [wR (lin_mk (by omega) (zCo hp (by omega) (by omega)))]
theorem zIb (l : List Ix) (c : C) (p : Ix → Bool) (hl : l.length ≤ 6000000000000) (hc : ∀ x,x ∈ l → FnPur cfg c [vIndex x] (vB (p x))) :
    Pur cfg 297 [vIndices l,.c c] (vI (idxOf p l)):= by
 refine zV Tryz.func297 rfl Tryz.ntmps297 Tryz.results297 rfl ?_
 intro z hz
 refine sReg rfl<|rMv rfl<|zB<|zJ<|sReg rfl<|rMv rfl<|zA rfl rfl (zT rfl el44 rfl)<|rMv rfl<|zB<|zU<|zX ⟨[(8,.c _),(0,.c _),(1,.c _),(7,.c _)],[]⟩ (Weak.mk [] ⟨VLe.of_eq rfl,VLe.of_eq rfl,VLe.of_eq rfl,VLe.of_eq rfl,trivial⟩ rfl)<|qI 1 0 rfl rfl (Nat) (fun k => [(8,vI k)]) (fun k => []) (fun k => k ≤ l.length ∧ ((l.take k).any p = false)) (fun k => l.length - k) ⟨0,⟨by omega,rfl⟩,Weak.mk [] ⟨VLe.refl _,VLe.refl _,VLe.refl _,VLe.refl _,trivial⟩ rfl⟩ ?_
 rintro k ⟨hk,hp⟩
 refine sReg rfl<|zA rfl rfl (qL rfl rfl rfl)<|zB<|zJ<|zG rfl (fun c1 => ?_) (fun c1 => ?_)
 ·try simp only [sx] at c1
  obtain ⟨x,hx⟩ := qZ l k (by omega)
  refine zK<|zJ<|zU<|sReg rfl<|rMv rfl<|rMv rfl<|zB<|sReg rfl<|rMv rfl<|rMv rfl<|rMv rfl<|zA rfl rfl (zP rfl el44 rfl rfl (by omega) (getm (by assumption)))<|zA rfl rfl (zF rfl zAq rfl qA rfl)<|zA rfl rfl (wC rfl rfl (hc _ (qB hx)) ⟨VLe.refl _,rfl,trivial⟩)<|zB<|zG rfl (fun c2 => ?_) (fun c2 => ?_)
  ·try simp only [sx] at c2
   refine sReg rfl<|rMv rfl<|rMv rfl<|zB<|zH<|fin1 (rs_c rfl) ?_
   rw [zMy hx c2 hp]
  ·try simp only [sx] at c2
   refine zK<|zR rfl<|zA rfl rfl (qC rfl rfl rfl ⟨by omega,by omega⟩)<|rMv rfl<|zB ?_
   refine ⟨k + 1,⟨by omega,zNl hx hp c2⟩,(by omega),Weak.mk [] ⟨VLe.refl _,VLe.refl _,VLe.refl _,VLe.refl _,trivial⟩ rfl⟩
 ·try simp only [sx] at c1
  refine qO<|sReg rfl<|rMv rfl<|zB<|zH<|fin1 (rs_c rfl) ?_
  rw [zHh (by rw [yN (by omega)] at hp; exact hp)]
theorem wU (l : List Ix) (c : C) (p : Ix → Bool) (hl : l.length ≤ 6000000000000) (hc : ∀ x,x ∈ l → FnPur cfg c [vIndex x] (vB (p x))) :
    Pur cfg 284 [vIndices l,.c c] (vB (l.any p)):= by
 refine zV Tryz.func284 rfl Tryz.ntmps284 Tryz.results284 rfl ?_
 intro z hz
 refine sReg rfl<|rMv rfl<|zB<|sReg rfl<|rMv rfl<|rMv rfl<|zA rfl rfl (zQ rfl ok297 (zIb l c p hl hc) ⟨VLe.refl _,rfl,VLe.refl _,rfl,trivial⟩)<|zA rfl rfl (kZ rfl rfl rfl)<|rMv rfl<|zB<|zH<|fin1 (rs_c rfl) ?_
 rw [zJu]
end Go.W
