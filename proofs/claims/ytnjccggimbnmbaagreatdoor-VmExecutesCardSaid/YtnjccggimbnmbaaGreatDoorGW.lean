/-
  What functions compute.
  What functions compute.
  What functions compute.
  What functions compute.
  What functions compute.
  Conditions: none.
-/
import Derived.Test.YtnjccggimbnmbaaGreatDoorFacts
import Derived.Test.YtnjccggimbnmbaaGreatDoorPlain
set_option linter.unusedSimpArgs false
set_option linter.unusedVariables false
section
set_option maxRecDepth 10000
namespace Go.W
open Go Go.Eng Go.Proofs Go.L41 Go.Br
attribute [local irreducible] AWP RWP TD fT
theorem kw_ascii:∀(j:Nat) (b:UInt8),(bs kwBytes).data.toList[j]? =some b->b.toNat<128:=by
  intro j b h
  have:(kwBytes.all fun c=>decide (c.toNat<128))=true:=by decide
  rw [List.all_eq_true] at this
  simpa using this b (List.mem_of_getElem? h)
theorem kw_fields:(Lib.fields kwBytes).map bs=words:=by decide+kernel
theorem nm1 {s:ByteArray} (h:Lz (!decide (s=bs [])&&decide ((s.size:Int)<=16)) true=true):¬s=bs []:=by
  simp only [Lz,cond_true,Bool.and_eq_true,Bool.not_eq_true',decide_eq_false_iff_not] at h
  exact h.1
theorem nm2 {s:ByteArray} {p:Bool} (h:Lz (!decide (s=bs [])&&decide ((s.size:Int)<=16)&&p) true=true):s.size<=1000000:=by
  simp only [Lz,cond_true,Bool.and_eq_true,decide_eq_true_eq] at h
  omega
theorem zIp:lA Tryz.prog 195=some 4:=by kernel_rfl
theorem zPu:lA Tryz.prog 273=some 2:=by kernel_rfl
theorem zGn:dK Tryz.prog 137=some (9,1,16):=by kernel_rfl
theorem wU:dK Tryz.prog 161=some (195,4,72):=by kernel_rfl
theorem zDs:dK Tryz.prog 162=some (273,2,24):=by kernel_rfl
theorem zLs:bE Tryz.prog 164 0=some (0,2):=by kernel_rfl
theorem zAp:bE Tryz.prog 164 1=some (1,162):=by kernel_rfl
theorem zEo:bE Tryz.prog 273 0=some (0,9):=by kernel_rfl
theorem fd273_1:bE Tryz.prog 273 1=some (1,2):=by kernel_rfl
theorem fl273:flatK Tryz.prog 273=some [.str,.int]:=by kernel_rfl
theorem ik21:tC Tryz.prog 21=some .i32:=by kernel_rfl
theorem mixed:Tryz.prog.follows .mixedOrders=true:=by kernel_rfl
theorem ok120:bA Tryz.prog 120=true:=by kernel_rfl
theorem ok145:bA Tryz.prog 145=true:=by kernel_rfl
theorem ok146:bA Tryz.prog 146=true:=by kernel_rfl
theorem ok147:bA Tryz.prog 147=true:=by kernel_rfl
theorem ok148:bA Tryz.prog 148=true:=by kernel_rfl
theorem ok155:bA Tryz.prog 155=true:=by kernel_rfl
theorem ok156:bA Tryz.prog 156=true:=by kernel_rfl
theorem ok190:bA Tryz.prog 190=true:=by kernel_rfl
theorem ok191:bA Tryz.prog 191=true:=by kernel_rfl
theorem ok192:bA Tryz.prog 192=true:=by kernel_rfl
theorem ok218:bA Tryz.prog 218=true:=by kernel_rfl
theorem ok219:bA Tryz.prog 219=true:=by kernel_rfl
theorem ok283:bA Tryz.prog 283=true:=by kernel_rfl
theorem ok284:bA Tryz.prog 284=true:=by kernel_rfl
theorem ok300:bA Tryz.prog 300=true:=by kernel_rfl
theorem ok301:bA Tryz.prog 301=true:=by kernel_rfl
theorem U:jL Tryz.prog 2=true:=by kernel_rfl
theorem one9:jL Tryz.prog 9=true:=by kernel_rfl
theorem zCa:jL Tryz.prog 162=true:=by kernel_rfl
theorem sz273:(Tryz.prog.info? 273).map (·.size)=some 2:=by kernel_rfl
theorem un9:Tryz.prog.underlying 9=some .string:=by kernel_rfl
theorem us5:(Tryz.prog.underlying 5).isSome=true:=by kernel_rfl
theorem zr9:dM Tryz.prog 9=some [(Value.string (ByteArray.mk #[]))]:=by kernel_rfl
theorem zr273:dM Tryz.prog 273=some [(Value.string (ByteArray.mk #[])),(Value.int IntKind.i64 0)]:=by kernel_rfl
theorem zPj (n:Int):
    Pur cfg 145 [vR n] (vB (lM n)):=by
 refine zR Tryz.func145 O Tryz.ntmps145 Tryz.results145 O ?_
 exact r6
theorem lexer_digit (n:Int):
    Pur cfg 190 [vR n] (vB (sP n)):=by
 refine zR Tryz.func190 O Tryz.ntmps190 Tryz.results190 O ?_
 exact r6
theorem lexer_inWord (n:Int):
    Pur cfg 147 [vR n] (vB (nY n)):=by
 refine zR Tryz.func147 O Tryz.ntmps147 Tryz.results147 O ?_
 intro z hz
 refine Y O<|G O<|zA<|Y O<|G O<|zZ O ok145 (zPj _) ⟨zC,O,T⟩<|G O<|rL0 O (fun g1_2=>zO O O) O<|rL1 6 O (fun g1_2=>qE O ok190 (lexer_digit _) ⟨zC,O,T⟩) O<|r_or O (fun h=>(lzf h))<|G O<|rL0 O (fun g1_6=>zO O O) O<|rL1 10 O (fun g1_6=>yM O O O) O<|r_or O (fun h=>(lzf h))<|G O<|zA<|zG<|zS O ?_
 exact O
theorem zOh (s:ByteArray) (hs:s.size<=1000000):
    Pur cfg 146 [vS s,.c (.fn (.func 147) [] [])] (vI (rF fU s.data.toList)):=by
 refine zR Tryz.func146 O Tryz.ntmps146 Tryz.results146 O ?_
 intro z hz
 refine Y O<|G O<|zA<|Y O<|G O<|zA<|zK<|zT<|zY ⟨[(5,.c _),(0,.c _),(1,.c _)],[]⟩ (Weak.mk [] ⟨zC,zC,zC,T⟩ O)<|qG 1 0 O O (Nat) (fun k=>[(5,vI k)]) (fun k=>[]) (fun k=>k<=s.size/\(s.data.toList.take k).all fU=true) (fun k=>s.size-k) ⟨0,⟨by omega,O⟩,Weak.mk [] ⟨zC,zC,zC,T⟩ O⟩ ?_
 rintro k ⟨hk,hp⟩
 refine zK<|Y O<|G O<|G O<|zX O (wT O un9 O)<|yF O<|G O<|rL0 O (fun g2_4=>zO O O) O<|rL0 O (fun g2_4=>zO O O) O<|rL0 O (fun g2_4=>zO O O) O<|rLz [(12,_),(13,_)] O gv1 ⟨O,O,O,O,T⟩ (fun g2_4=>zBi O un9 O O (by omega) (by simp only [Lz,cond_true,decide_eq_true_eq] at g2_4;omega)) O<|rL1 14 O (fun g2_4=>wK O us5 ik21 O) O<|rLz [(11,_),(15,_)] O gv1 ⟨O,O,O,O,T⟩ (fun g2_4=>det_call_fn0 O O ok147 (lexer_inWord _) ⟨zC,O,T⟩) O<|yO O (fun h=>h)<|zA<|zE O (fun c1=>?_) (fun c1=>?_)
 ·try simp only [sx] at c1
  obtain ⟨hlt,hcc⟩:=c1
  have hlt:k<s.size:=by omega
  rw [zLf] at hcc
  refine zJ<|zT<|zQ O<|G O<|qF O ⟨by omega,by omega⟩<|G O<|zA ?_
  have hg:=zEd hlt
  refine ⟨k+1,⟨by omega,by rw [zNo hg,hp];exact hcc⟩,(by omega),Weak.mk [] ⟨zC,zC,zC,T⟩ O⟩
 ·try simp only [sx] at c1
  have hsp:rF fU s.data.toList=k:=span_stop hp (by
    by_cases hlt:k<s.size
    · right;refine ⟨_,zEd hlt,?_⟩;rcases c1 with c1|c1;omega;rw [zLf] at c1;exact c1
    · left;simp;omega)
  refine qM<|Y O<|G O<|G O<|zA<|zG<|zS O ?_
  rw [hsp]
theorem zPx (l:List ByteArray) (s:ByteArray) (hl:l.length<=6000000000000):
    Pur cfg 218 [vSs l,vS s] (vI (tK l s)):=by
 refine zR Tryz.func218 O Tryz.ntmps218 Tryz.results218 O ?_
 intro z hz
 refine Y O<|G O<|zA<|zK<|Y O<|G O<|qC O zGn<|G O<|zA<|zT<|zY ⟨[(8,.c _),(0,.c _),(1,.c _),(7,.c _)],[]⟩ (Weak.mk [] ⟨zC,zC,zC,zC,T⟩ O)<|qG 1 0 O O (Nat) (fun k=>[(8,vI k)]) (fun k=>[]) (fun k=>k<=l.length/\dW (l.take k) s=false) (fun k=>l.length-k) ⟨0,⟨by omega,O⟩,Weak.mk [] ⟨zC,zC,zC,zC,T⟩ O⟩ ?_
 rintro k ⟨hk,hp⟩
 refine Y O<|yF O<|zA<|zK<|zE O (fun c1=>?_) (fun c1=>?_)
 ·try simp only [sx] at c1
  obtain ⟨t,ht⟩:=yC l k (by omega)
  refine zJ<|zK<|zT<|Y O<|G O<|G O<|zA<|Y O<|G O<|G O<|G O<|qI O zGn (by omega) (D ht)<|zI one9 qD O<|zX O (kF O O O)<|zA<|zE O (fun c2=>?_) (fun c2=>?_)
  ·try simp only [sx] at c2
   refine Y O<|G O<|G O<|zA<|zG<|zS O ?_
   rw [idxB_some ht c2 hp]
  ·try simp only [sx] at c2
   refine zJ<|zQ O<|qF O ⟨by omega,by omega⟩<|G O<|zA ?_
   refine ⟨k+1,⟨by omega,zPm ht hp (fun e=>c2 e.symm)⟩,(by omega),Weak.mk [] ⟨zC,zC,zC,zC,T⟩ O⟩
 ·try simp only [sx] at c1
  refine qM<|Y O<|G O<|zA<|zG<|zS O ?_
  rw [idxB_none (by rw [yP (by omega)] at hp;exact hp)]
theorem zCz (l:List ByteArray) (s:ByteArray) (hl:l.length<=6000000000000):
    Pur cfg 191 [vSs l,vS s] (vB (dW l s)):=by
 refine zR Tryz.func191 O Tryz.ntmps191 Tryz.results191 O ?_
 intro z hz
 refine Y O<|G O<|zA<|Y O<|G O<|G O<|zZ O ok218 (zPx l s hl) ⟨zC,O,zC,O,T⟩<|zX O (kB O O O)<|G O<|zA<|zG<|zS O ?_
 rw [idxB_has]
theorem lexer_keywords  :
    Pur cfg 192 [] (vSs words):=by
 refine zR Tryz.func192 O Tryz.ntmps192 Tryz.results192 O ?_
 intro z hz
 refine Y O<|yN 1 O<|zA<|Y O<|zZ O ok219 (strings_Fields _ (by decide) kw_ascii) ⟨zC,O,T⟩<|G O<|zA<|zG<|zS O ?_
 exact congrArg vSs kw_fields
theorem zTf (s:ByteArray):
    Pur cfg 148 [vS s] (vB (dW words s)):=by
 refine zR Tryz.func148 O Tryz.ntmps148 Tryz.results148 O ?_
 intro z hz
 refine Y O<|G O<|zA<|Y O<|zZ O ok192 (lexer_keywords) T<|G O<|zZ O ok191 (zCz _ _ (by decide)) ⟨zC,O,zC,O,T⟩<|G O<|zA<|zG<|zS O ?_
 exact O
theorem zFw (s:ByteArray):
    Pur cfg 113 [vS s] (vB (bU s)):=by
 refine zR Tryz.func113 O Tryz.ntmps113 Tryz.results113 O ?_
 intro z hz
 refine Y O<|G O<|zA<|Y O<|G O<|zX O (zEe O O O)<|G O<|rL0 O (fun g1_2=>zO O O) O<|rL1 6 O (fun g1_2=>wT O un9 O) O<|rL1 7 O (fun g1_2=>kH O O O) O<|yO O (fun h=>h)<|G O<|rL0 O (fun g1_7=>zO O O) O<|rL1 11 O (fun g1_7=>zBi O un9 O O (by decide) (size_pos (nm1 g1_7))) O<|rL1 12 O (fun g1_7=>wK O us5 ik21 O) O<|rL1 13 O (fun g1_7=>qE O ok145 (zPj _) ⟨zC,O,T⟩) O<|yO O (fun h=>h)<|G O<|rL0 O (fun g1_13=>zO O O) O<|rL1 17 O (fun g1_13=>qE O ok146 (zOh s (nm2 g1_13)) ⟨zC,O,zC,O,T⟩) O<|rL0 O (fun g1_13=>zO O O) O<|rL1 19 O (fun g1_13=>wT O un9 O) O<|rLz [(18,_),(20,_)] O gv1 ⟨O,O,O,O,T⟩ (fun g1_13=>yM O O O) O<|yO O (fun h=>h)<|G O<|rL0 O (fun g1_20=>zO O O) O<|rL1 24 O (fun g1_20=>qE O ok148 (zTf _) ⟨zC,O,T⟩) O<|rL1 25 O (fun g1_20=>kA O O) O<|yO O (fun h=>h)<|G O<|zA<|zG<|zS O ?_
 exact congrArg vB (isName_eq s)
theorem base_Words  :
    Pur cfg 156 [] (vSs words):=by
 refine zR Tryz.func156 O Tryz.ntmps156 Tryz.results156 O ?_
 intro z hz
 refine Y O<|yN 1 O<|zA<|Y O<|zX O (yS O zGn zr9 O O O O)<|G O<|zA<|zG<|zS O ?_
 exact O
theorem base_Has (l:List ByteArray) (s:ByteArray) (hl:l.length<=6000000000000):
    Pur cfg 155 [vSs l,vS s] (vB (dW l s)):=by
 refine zR Tryz.func155 O Tryz.ntmps155 Tryz.results155 O ?_
 intro z hz
 refine Y O<|G O<|zA<|zK<|Y O<|G O<|zA<|zT<|zY ⟨[(5,.c _),(0,.c _),(1,.c _)],[]⟩ (Weak.mk [] ⟨zC,zC,zC,T⟩ O)<|qG 1 0 O O (Nat) (fun k=>[(5,vI k)]) (fun k=>[]) (fun k=>k<=l.length/\dW (l.take k) s=false) (fun k=>l.length-k) ⟨0,⟨by omega,O⟩,Weak.mk [] ⟨zC,zC,zC,T⟩ O⟩ ?_
 rintro k ⟨hk,hp⟩
 refine zK<|Y O<|G O<|G O<|qC O zGn<|yF O<|zA<|zE O (fun c1=>?_) (fun c1=>?_)
 ·try simp only [sx] at c1
  obtain ⟨t,ht⟩:=yC l k (by omega)
  refine zJ<|zK<|zT<|Y O<|G O<|G O<|qI O zGn (by omega) (D ht)<|zI one9 qD O<|G O<|zX O (kF O O O)<|zA<|zE O (fun c2=>?_) (fun c2=>?_)
  ·try simp only [sx] at c2
   refine Y O<|G O<|zA<|zG<|zS O ?_
   rw [kJ ht c2]
  ·try simp only [sx] at c2
   refine zJ<|zQ O<|G O<|qF O ⟨by omega,by omega⟩<|G O<|zA ?_
   refine ⟨k+1,⟨by omega,zPm ht hp c2⟩,(by omega),Weak.mk [] ⟨zC,zC,zC,T⟩ O⟩
 ·try simp only [sx] at c1
  refine qM<|Y O<|G O<|zA<|zG<|zS O ?_
  rw [show dW l s=false by rw [yP (by omega)] at hp;exact hp]
theorem zKa (s:ByteArray):
    Pur cfg 120 [vS s] (vB (bU s)):=by
 refine zR Tryz.func120 O Tryz.ntmps120 Tryz.results120 O ?_
 intro z hz
 refine Y O<|G O<|zA<|zK<|Y O<|G O<|zX O (wT O un9 O)<|yF O<|G O<|rL0 O (fun g1_3=>zO O O) O<|rL1 9 O (fun g1_3=>wT O un9 O) O<|rL1 10 O (fun g1_3=>kD O O O) O<|r_or O (fun h=>(lzf h))<|G O<|rL0 O (fun g1_8=>qE O ok156 (base_Words) T) O<|rL0 O (fun g1_8=>zO O O) O<|rLz [(14,_),(15,_)] O gv1 ⟨O,O,O,O,T⟩ (fun g1_8=>qE O ok155 (base_Has _ _ (by decide)) ⟨zC,O,zC,O,T⟩) O<|r_or O (fun h=>(lzf h))<|zA<|zE O (fun c1=>?_) (fun c1=>?_)
 ·try simp only [sx] at c1
  have hno:=name_short (s:=s) (by simpa using c1)
  refine Y O<|G O<|zA<|zG<|zS O ?_
  rw [hno]
 ·try simp only [sx] at c1
  obtain ⟨⟨n1,n2⟩,n3⟩:=c1
  have n1:1<=s.size:=by omega
  have n2:s.size<=16:=by omega
  have hne:=name_end n1 n2 n3
  refine zJ<|zK<|Y O<|G O<|zA<|zT<|zY ⟨[(3,.c _),(0,.c _)],[]⟩ (Weak.mk [] ⟨zC,zC,T⟩ O)<|qG 1 0 O O (Nat) (fun k=>[(3,vI k)]) (fun k=>[]) (fun k=>k<=s.size/\pQ s k=true) (fun k=>s.size-k) ⟨0,⟨by omega,O⟩,Weak.mk [] ⟨zC,zC,T⟩ O⟩ ?_
  rintro k ⟨hk,hp⟩
  refine zK<|Y O<|G O<|G O<|zX O (wT O un9 O)<|yF O<|zA<|zE O (fun c2=>?_) (fun c2=>?_)
  ·try simp only [sx] at c2
   have hlt:k<s.size:=by omega
   refine zJ<|zK<|zT<|Y O<|G O<|G O<|zX O (zBi O un9 O O (by omega) (by omega))<|G O<|zA<|Y O<|G O<|zX O (kB O O O)<|G O<|rL0 O (fun g7_2=>zO O O) O<|rL1 30 O (fun g7_2=>kH O O O) O<|yO O (fun h=>h)<|G O<|rL0 O (fun g7_6=>zO O O) O<|rL1 34 O (fun g7_6=>kD O O O) O<|rL1 35 O (fun g7_6=>zO O O) O<|rLz [] O A T (fun g7_9=>zO O O) O<|rLz [(37,_)] O A ⟨O,O,T⟩ (fun g7_9=>kB O O O) O<|rLz [(38,_)] O A ⟨O,O,T⟩ (fun g7_9=>zO O O) O<|rLz [] O A T (fun g7_12=>zO O O) O<|rLz [(40,_)] O A ⟨O,O,T⟩ (fun g7_12=>kH O O O) O<|rLz [(39,_)] O A ⟨O,O,T⟩ (fun g7_9=>wF O O O (fun h=>kC (by assumption) h) O) O<|rLz [(42,_)] O A ⟨O,O,T⟩ (fun g7_9=>zO O O) O<|rLz [] O A T (fun g7_16=>zO O O) O<|rLz [(44,_)] O A ⟨O,O,T⟩ (fun g7_16=>yM O O O) O<|rLz [(43,_)] O A ⟨O,O,T⟩ (fun g7_9=>zAl O O O O (fun h=>kC (by assumption) (lzf h))) O<|rL1 36 O (fun g7_6=>wF O O O (fun h=>kC (by assumption) h) O) O<|r_or O (fun h=>(lzf h))<|yT O<|zA<|zE O (fun c3=>?_) (fun c3=>?_)
   ·have hbad:pQ s (k+1)=false:=by rw [okTo_next,show nK k (s.data.toList.getD k 0)=false from (Bool.not_eq_true' _).mp c3];simp
    refine Y O<|G O<|zA<|zG<|zS O ?_
    rw [hne];cases ho:pQ s s.size;rfl;exact absurd (okTo_le (k:=k+1) (by omega) ho) (by rw [hbad];simp)
   ·have hgood:pQ s (k+1)=true:=by rw [okTo_next,hp,show nK k (s.data.toList.getD k 0)=true from (Bool.not_eq_false' _).mp c3];rfl
    refine zJ<|zQ O<|G O<|qF O ⟨by omega,by omega⟩<|G O<|zA ?_
    refine ⟨k+1,⟨by omega,hgood⟩,(by omega),Weak.mk [] ⟨zC,zC,T⟩ O⟩
  ·try simp only [sx] at c2
   refine qM<|Y O<|G O<|zA<|zG<|zS O ?_
   rw [hne,show s.size=k by omega,hp]
theorem lin_reserved (s:ByteArray):
    Pur cfg 301 [vS s] (vB (dW words s)):=by
 refine zR Tryz.func301 O Tryz.ntmps301 Tryz.results301 O ?_
 intro z hz
 refine Y O<|G O<|zA<|zK<|Y O<|G O<|zA<|zT<|zK<|Y O<|zX O (kF O O O)<|G O<|zA<|zE O (fun c1=>?_) (fun c1=>?_)
 ·try simp only [sx] at c1
  refine zJ<|zE O (fun c22=>?_) (fun c22=>?_)
  ·refine Y O<|G O<|zA<|zG<|zS O ?_
   rw [kJ (l:=words) (k:=0) rfl c1.symm]
  ·try simp only [sx] at c22
   refine zJ<|Y O<|G O<|zA<|zG<|zS O ?_
   exact absurd c1 c22
 ·try simp only [sx] at c1
  refine Y O<|zX O (kF O O O)<|G O<|zA<|zE O (fun c2=>?_) (fun c2=>?_)
  ·try simp only [sx] at c2
   refine zJ<|zE O (fun c22=>?_) (fun c22=>?_)
   ·refine Y O<|G O<|zA<|zG<|zS O ?_
    rw [kJ (l:=words) (k:=1) rfl c2.symm]
   ·try simp only [sx] at c22
    refine zJ<|Y O<|G O<|zA<|zG<|zS O ?_
    exact absurd c2 c22
  ·try simp only [sx] at c2
   refine Y O<|zX O (kF O O O)<|G O<|zA<|zE O (fun c3=>?_) (fun c3=>?_)
   ·try simp only [sx] at c3
    refine zJ<|zE O (fun c22=>?_) (fun c22=>?_)
    ·refine Y O<|G O<|zA<|zG<|zS O ?_
     rw [kJ (l:=words) (k:=2) rfl c3.symm]
    ·try simp only [sx] at c22
     refine zJ<|Y O<|G O<|zA<|zG<|zS O ?_
     exact absurd c3 c22
   ·try simp only [sx] at c3
    refine Y O<|zX O (kF O O O)<|G O<|zA<|zE O (fun c4=>?_) (fun c4=>?_)
    ·try simp only [sx] at c4
     refine zJ<|zE O (fun c22=>?_) (fun c22=>?_)
     ·refine Y O<|G O<|zA<|zG<|zS O ?_
      rw [kJ (l:=words) (k:=3) rfl c4.symm]
     ·try simp only [sx] at c22
      refine zJ<|Y O<|G O<|zA<|zG<|zS O ?_
      exact absurd c4 c22
    ·try simp only [sx] at c4
     refine Y O<|zX O (kF O O O)<|G O<|zA<|zE O (fun c5=>?_) (fun c5=>?_)
     ·try simp only [sx] at c5
      refine zJ<|zE O (fun c22=>?_) (fun c22=>?_)
      ·refine Y O<|G O<|zA<|zG<|zS O ?_
       rw [kJ (l:=words) (k:=4) rfl c5.symm]
      ·try simp only [sx] at c22
       refine zJ<|Y O<|G O<|zA<|zG<|zS O ?_
       exact absurd c5 c22
     ·try simp only [sx] at c5
      refine Y O<|zX O (kF O O O)<|G O<|zA<|zE O (fun c6=>?_) (fun c6=>?_)
      ·try simp only [sx] at c6
       refine zJ<|zE O (fun c22=>?_) (fun c22=>?_)
       ·refine Y O<|G O<|zA<|zG<|zS O ?_
        rw [kJ (l:=words) (k:=5) rfl c6.symm]
       ·try simp only [sx] at c22
        refine zJ<|Y O<|G O<|zA<|zG<|zS O ?_
        exact absurd c6 c22
      ·try simp only [sx] at c6
       refine Y O<|zX O (kF O O O)<|G O<|zA<|zE O (fun c7=>?_) (fun c7=>?_)
       ·try simp only [sx] at c7
        refine zJ<|zE O (fun c22=>?_) (fun c22=>?_)
        ·refine Y O<|G O<|zA<|zG<|zS O ?_
         rw [kJ (l:=words) (k:=6) rfl c7.symm]
        ·try simp only [sx] at c22
         refine zJ<|Y O<|G O<|zA<|zG<|zS O ?_
         exact absurd c7 c22
       ·try simp only [sx] at c7
        refine Y O<|zX O (kF O O O)<|G O<|zA<|zE O (fun c8=>?_) (fun c8=>?_)
        ·try simp only [sx] at c8
         refine zJ<|zE O (fun c22=>?_) (fun c22=>?_)
         ·refine Y O<|G O<|zA<|zG<|zS O ?_
          rw [kJ (l:=words) (k:=7) rfl c8.symm]
         ·try simp only [sx] at c22
          refine zJ<|Y O<|G O<|zA<|zG<|zS O ?_
          exact absurd c8 c22
        ·try simp only [sx] at c8
         refine Y O<|zX O (kF O O O)<|G O<|zA<|zE O (fun c9=>?_) (fun c9=>?_)
         ·try simp only [sx] at c9
          refine zJ<|zE O (fun c22=>?_) (fun c22=>?_)
          ·refine Y O<|G O<|zA<|zG<|zS O ?_
           rw [kJ (l:=words) (k:=8) rfl c9.symm]
          ·try simp only [sx] at c22
           refine zJ<|Y O<|G O<|zA<|zG<|zS O ?_
           exact absurd c9 c22
         ·try simp only [sx] at c9
          refine Y O<|zX O (kF O O O)<|G O<|zA<|zE O (fun c10=>?_) (fun c10=>?_)
          ·try simp only [sx] at c10
           refine zJ<|zE O (fun c22=>?_) (fun c22=>?_)
           ·refine Y O<|G O<|zA<|zG<|zS O ?_
            rw [kJ (l:=words) (k:=9) rfl c10.symm]
           ·try simp only [sx] at c22
            refine zJ<|Y O<|G O<|zA<|zG<|zS O ?_
            exact absurd c10 c22
          ·try simp only [sx] at c10
           refine Y O<|zX O (kF O O O)<|G O<|zA<|zE O (fun c11=>?_) (fun c11=>?_)
           ·try simp only [sx] at c11
            refine zJ<|zE O (fun c22=>?_) (fun c22=>?_)
            ·refine Y O<|G O<|zA<|zG<|zS O ?_
             rw [kJ (l:=words) (k:=10) rfl c11.symm]
            ·try simp only [sx] at c22
             refine zJ<|Y O<|G O<|zA<|zG<|zS O ?_
             exact absurd c11 c22
           ·try simp only [sx] at c11
            refine Y O<|zX O (kF O O O)<|G O<|zA<|zE O (fun c12=>?_) (fun c12=>?_)
            ·try simp only [sx] at c12
             refine zJ<|zE O (fun c22=>?_) (fun c22=>?_)
             ·refine Y O<|G O<|zA<|zG<|zS O ?_
              rw [kJ (l:=words) (k:=11) rfl c12.symm]
             ·try simp only [sx] at c22
              refine zJ<|Y O<|G O<|zA<|zG<|zS O ?_
              exact absurd c12 c22
            ·try simp only [sx] at c12
             refine Y O<|zX O (kF O O O)<|G O<|zA<|zE O (fun c13=>?_) (fun c13=>?_)
             ·try simp only [sx] at c13
              refine zJ<|zE O (fun c22=>?_) (fun c22=>?_)
              ·refine Y O<|G O<|zA<|zG<|zS O ?_
               rw [kJ (l:=words) (k:=12) rfl c13.symm]
              ·try simp only [sx] at c22
               refine zJ<|Y O<|G O<|zA<|zG<|zS O ?_
               exact absurd c13 c22
             ·try simp only [sx] at c13
              refine Y O<|zX O (kF O O O)<|G O<|zA<|zE O (fun c14=>?_) (fun c14=>?_)
              ·try simp only [sx] at c14
               refine zJ<|zE O (fun c22=>?_) (fun c22=>?_)
               ·refine Y O<|G O<|zA<|zG<|zS O ?_
                rw [kJ (l:=words) (k:=13) rfl c14.symm]
               ·try simp only [sx] at c22
                refine zJ<|Y O<|G O<|zA<|zG<|zS O ?_
                exact absurd c14 c22
              ·try simp only [sx] at c14
               refine Y O<|zX O (kF O O O)<|G O<|zA<|zE O (fun c15=>?_) (fun c15=>?_)
               ·try simp only [sx] at c15
                refine zJ<|zE O (fun c22=>?_) (fun c22=>?_)
                ·refine Y O<|G O<|zA<|zG<|zS O ?_
                 rw [kJ (l:=words) (k:=14) rfl c15.symm]
                ·try simp only [sx] at c22
                 refine zJ<|Y O<|G O<|zA<|zG<|zS O ?_
                 exact absurd c15 c22
               ·try simp only [sx] at c15
                refine Y O<|zX O (kF O O O)<|G O<|zA<|zE O (fun c16=>?_) (fun c16=>?_)
                ·try simp only [sx] at c16
                 refine zJ<|zE O (fun c22=>?_) (fun c22=>?_)
                 ·refine Y O<|G O<|zA<|zG<|zS O ?_
                  rw [kJ (l:=words) (k:=15) rfl c16.symm]
                 ·try simp only [sx] at c22
                  refine zJ<|Y O<|G O<|zA<|zG<|zS O ?_
                  exact absurd c16 c22
                ·try simp only [sx] at c16
                 refine Y O<|zX O (kF O O O)<|G O<|zA<|zE O (fun c17=>?_) (fun c17=>?_)
                 ·try simp only [sx] at c17
                  refine zJ<|zE O (fun c22=>?_) (fun c22=>?_)
                  ·refine Y O<|G O<|zA<|zG<|zS O ?_
                   rw [kJ (l:=words) (k:=16) rfl c17.symm]
                  ·try simp only [sx] at c22
                   refine zJ<|Y O<|G O<|zA<|zG<|zS O ?_
                   exact absurd c17 c22
                 ·try simp only [sx] at c17
                  refine Y O<|zX O (kF O O O)<|G O<|zA<|zE O (fun c18=>?_) (fun c18=>?_)
                  ·try simp only [sx] at c18
                   refine zJ<|zE O (fun c22=>?_) (fun c22=>?_)
                   ·refine Y O<|G O<|zA<|zG<|zS O ?_
                    rw [kJ (l:=words) (k:=17) rfl c18.symm]
                   ·try simp only [sx] at c22
                    refine zJ<|Y O<|G O<|zA<|zG<|zS O ?_
                    exact absurd c18 c22
                  ·try simp only [sx] at c18
                   refine Y O<|zX O (kF O O O)<|G O<|zA<|zE O (fun c19=>?_) (fun c19=>?_)
                   ·try simp only [sx] at c19
                    refine zJ<|zE O (fun c22=>?_) (fun c22=>?_)
                    ·refine Y O<|G O<|zA<|zG<|zS O ?_
                     rw [kJ (l:=words) (k:=18) rfl c19.symm]
                    ·try simp only [sx] at c22
                     refine zJ<|Y O<|G O<|zA<|zG<|zS O ?_
                     exact absurd c19 c22
                   ·try simp only [sx] at c19
                    refine Y O<|zX O (kF O O O)<|G O<|zA<|zE O (fun c20=>?_) (fun c20=>?_)
                    ·try simp only [sx] at c20
                     refine zJ<|zE O (fun c22=>?_) (fun c22=>?_)
                     ·refine Y O<|G O<|zA<|zG<|zS O ?_
                      rw [kJ (l:=words) (k:=19) rfl c20.symm]
                     ·try simp only [sx] at c22
                      refine zJ<|Y O<|G O<|zA<|zG<|zS O ?_
                      exact absurd c20 c22
                    ·try simp only [sx] at c20
                     refine Y O<|zX O (kF O O O)<|G O<|zA<|zE O (fun c21=>?_) (fun c21=>?_)
                     ·try simp only [sx] at c21
                      refine zJ<|zE O (fun c22=>?_) (fun c22=>?_)
                      ·refine Y O<|G O<|zA<|zG<|zS O ?_
                       rw [kJ (l:=words) (k:=20) rfl c21.symm]
                      ·try simp only [sx] at c22
                       refine zJ<|Y O<|G O<|zA<|zG<|zS O ?_
                       exact absurd c21 c22
                     ·try simp only [sx] at c21
                      refine zQ O<|zX O (kF O O O)<|G O<|zA<|zE O (fun c22=>?_) (fun c22=>?_)
                      ·try simp only [sx] at c22
                       refine Y O<|G O<|zA<|zG<|zS O ?_
                       rw [kJ (l:=words) (k:=21) rfl c22.symm]
                      ·try simp only [sx] at c22
                       refine zJ<|Y O<|G O<|zA<|zG<|zS O ?_
                       rw [show dW words s=false by
                         simp only [dW,words,List.any_cons,List.any_nil,Bool.or_eq_false_iff,decide_eq_false_iff_not]
                         exact ⟨fun h=>c1 h.symm,fun h=>c2 h.symm,fun h=>c3 h.symm,fun h=>c4 h.symm,fun h=>c5 h.symm,fun h=>c6 h.symm,fun h=>c7 h.symm,fun h=>c8 h.symm,fun h=>c9 h.symm,fun h=>c10 h.symm,fun h=>c11 h.symm,fun h=>c12 h.symm,fun h=>c13 h.symm,fun h=>c14 h.symm,fun h=>c15 h.symm,fun h=>c16 h.symm,fun h=>c17 h.symm,fun h=>c18 h.symm,fun h=>c19 h.symm,fun h=>c20 h.symm,fun h=>c21 h.symm,fun h=>c22 h.symm,T⟩]
theorem lin_identifier (s:ByteArray):
    Pur cfg 283 [vS s] (vB (bU s)):=by
 refine zR Tryz.func283 O Tryz.ntmps283 Tryz.results283 O ?_
 intro z hz
 refine Y O<|G O<|zA<|zK<|Y O<|G O<|zX O (wT O un9 O)<|yF O<|G O<|rL0 O (fun g1_3=>zO O O) O<|rL1 9 O (fun g1_3=>wT O un9 O) O<|rL1 10 O (fun g1_3=>kD O O O) O<|r_or O (fun h=>(lzf h))<|G O<|rL0 O (fun g1_8=>zO O O) O<|rL1 14 O (fun g1_8=>qE O ok301 (lin_reserved _) ⟨zC,O,T⟩) O<|r_or O (fun h=>(lzf h))<|G O<|rL0 O (fun g1_12=>zO O O) O<|rL1 18 O (fun g1_12=>zBi O un9 O O (by decide) (by simp only [Lz,cond_true,cond_false,Bool.and_eq_true,Bool.or_eq_true,Bool.not_eq_true',Bool.not_eq_false',Bool.or_eq_false_iff,Bool.and_eq_false_iff,decide_eq_true_eq,decide_eq_false_iff_not,Bool.not_eq_true,Bool.not_eq_false] at g1_12;omega)) O<|rL1 19 O (fun g1_12=>wI O O O) O<|r_or O (fun h=>(lzf h))<|G O<|rL0 O (fun g1_17=>zO O O) O<|rL1 23 O (fun g1_17=>zBi O un9 O O (by decide) (by simp only [Lz,cond_true,cond_false,Bool.and_eq_true,Bool.or_eq_true,Bool.not_eq_true',Bool.not_eq_false',Bool.or_eq_false_iff,Bool.and_eq_false_iff,decide_eq_true_eq,decide_eq_false_iff_not,Bool.not_eq_true,Bool.not_eq_false] at g1_17;omega)) O<|rL1 24 O (fun g1_17=>kD O O O) O<|r_or O (fun h=>(lzf h))<|zA<|zE O (fun c1=>?_) (fun c1=>?_)
 ·have hno:=ident_no c1
  refine Y O<|G O<|zA<|zG<|zS O ?_
  rw [hno]
 ·obtain ⟨n1,n2,hne⟩:=ident_yes c1
  refine zJ<|zK<|Y O<|G O<|zX O (wT O un9 O)<|G O<|zA<|zT<|zY ⟨[(29,.c _),(0,.c _),(28,.c _)],[]⟩ (Weak.mk [] ⟨zC,zC,zC,T⟩ O)<|qG 1 0 O O (Nat) (fun k=>[(29,vI k)]) (fun k=>[]) (fun k=>k<=s.size/\(s.data.toList.take k).all fU=true) (fun k=>s.size-k) ⟨0,⟨by omega,O⟩,Weak.mk [] ⟨zC,zC,zC,T⟩ O⟩ ?_
  rintro k ⟨hk,hp⟩
  refine Y O<|yF O<|zA<|zK<|zE O (fun c2=>?_) (fun c2=>?_)
  ·try simp only [sx] at c2
   have hlt:k<s.size:=by omega
   refine zJ<|zK<|zT<|Y O<|G O<|G O<|zA<|Y O<|G O<|G O<|zX O (zBi O un9 O O (by omega) (by omega))<|G O<|zA<|Y O<|G O<|yF O<|G O<|rL0 O (fun g7_2=>zO O O) O<|rL1 38 O (fun g7_2=>kD O O O) O<|r_or O (fun h=>(lzf h))<|G O<|rL0 O (fun g7_6=>zO O O) O<|rL1 42 O (fun g7_6=>wI O O O) O<|rL1 43 O (fun g7_6=>zO O O) O<|rLz [] O A T (fun g7_9=>zO O O) O<|rLz [(45,_)] O A ⟨O,O,T⟩ (fun g7_9=>kD O O O) O<|rL1 44 O (fun g7_6=>zAl O O O O (fun h=>kC (by assumption) (lzf h))) O<|yO O (fun h=>h)<|G O<|rL0 O (fun g7_14=>zO O O) O<|rL1 50 O (fun g7_14=>kT O O O) O<|yO O (fun h=>h)<|zA<|zE O (fun c3=>?_) (fun c3=>?_)
   ·have hbad:=word_no hlt c3
    refine Y O<|G O<|zA<|zG<|zS O ?_
    rw [hne,hbad]
   ·have hgood:=word_yes hlt hp c3
    refine zJ<|zQ O<|qF O ⟨by omega,by omega⟩<|G O<|zA ?_
    refine ⟨k+1,⟨by omega,hgood⟩,(by omega),Weak.mk [] ⟨zC,zC,zC,T⟩ O⟩
  ·try simp only [sx] at c2
   refine qM<|Y O<|G O<|zA<|zG<|zS O ?_
   rw [hne,word_all hp (by omega)]
theorem lin_Validate (l:Lf) (hl:l.L.length<=6000000000000):
    Pur cfg 251 [nA l] (vI (nM l)):=by
 refine zR Tryz.func251 O Tryz.ntmps251 Tryz.results251 O ?_
 intro z hz
 refine Y O<|zW O O (qB O O) ?_
 rintro _ _ ⟨b1,rfl,rfl⟩
 refine G O<|zA<|zK<|Y O<|zD O zAp<|zI zCa (J 0 O) O<|qC O zDs<|G O<|zA<|zT<|zY ⟨[(8,.c _),(1,.c _),(6,.c _),(7,.c _)],[_]⟩ (Weak.mk [true] ⟨zC,zC,zC,zC,T⟩ O)<|qG 1 0 O O (Nat) (fun k=>[(8,vI k)]) (fun k=>[]) (fun k=>k<=l.L.length/\(fW l=lL (mB l.L k) (l.L.drop k))) (fun k=>l.L.length-k) ⟨0,⟨by omega,O⟩,Weak.mk [true] ⟨zC,zC,zC,zC,T⟩ O⟩ ?_
 rintro k ⟨hk,hp⟩
 refine Y O<|yF O<|zA<|zK<|zE O (fun c1=>?_) (fun c1=>?_)
 ·try simp only [sx] at c1
  obtain ⟨x,hx⟩:=yC l.L k (by omega)
  refine zJ<|zK<|zT<|Y O<|G O<|qI O zDs (by omega) (D (by assumption))<|zL zPu qD O<|zW O O (qS O zr273) ?_
  rintro _ _ ⟨b2,rfl,rfl⟩
  refine G O<|rStR 0 sz273 O<|zA<|zK<|qV 25 mixed (by kernel_rfl) O O<|zN O O (zF O zEo O)<|zN O O (zH O one9 O (J 0 O) O)<|zN O O (qE O ok283 (lin_identifier _) ⟨zC,O,T⟩)<|zN O O (kA O O)<|zN O O (zO O O)<|qO [] O O O O gv1 T (fun g4_4=>zF O fd273_1 O) O<|qO [(18,_)] O O O O gv1 ⟨O,O,T⟩ (fun g4_4=>zH O U O (J 0 O) O) O<|qO [(19,_)] O O O O gv1 ⟨O,O,T⟩ (fun g4_4=>yM O O O) O<|zN O O (zAl O O O O (fun h=>(lzf h)))<|zN O O (zO O O)<|qO [] O O O O gv1 T (fun g4_9=>zO O O) O<|qO [(23,_)] O O O O gv1 ⟨O,O,T⟩ (fun g4_9=>kD O O O) O<|qO [(24,_)] O O O O gv1 ⟨O,O,T⟩ (fun g4_9=>zO O O) O<|qO [] O O O O A T (fun g4_12=>zF O zAp O) O<|qO [(26,_)] O O O O A ⟨O,O,T⟩ (fun g4_12=>zH O zCa O (J 1 O) O) O<|qO [] O O O O A T (fun g4_12=>zO O O) O<|qO [(28,_)] O O O O A ⟨O,O,T⟩ (fun g4_12=>qZ O O O ⟨by omega,by omega⟩) O<|qO [(27,_),(29,_)] O O O O A ⟨O,O,O,O,T⟩ (fun g4_12=>qH O zDs O O (by simp only [Lz,cond_true,cond_false,Bool.and_eq_true,Bool.or_eq_true,Bool.not_eq_true',Bool.not_eq_false',Bool.or_eq_false_iff,Bool.and_eq_false_iff,decide_eq_true_eq,decide_eq_false_iff_not,Bool.not_eq_true,Bool.not_eq_false] at g4_12;omega) (pv_get (by simp only [Lz,cond_true,cond_false,Bool.and_eq_true,Bool.or_eq_true,Bool.not_eq_true',Bool.not_eq_false',Bool.or_eq_false_iff,Bool.and_eq_false_iff,decide_eq_true_eq,decide_eq_false_iff_not,Bool.not_eq_true,Bool.not_eq_false] at g4_12;omega) (by omega))) O<|qO [(30,_)] O O O O A ⟨O,O,T⟩ (fun g4_12=>qU O zEo O) O<|qO [(31,_)] O O O O A ⟨O,O,T⟩ (fun g4_12=>zH O one9 O qD O) O<|qO [] O O O O A T (fun g4_12=>zF O zEo O) O<|qO [(33,_)] O O O O A ⟨O,O,T⟩ (fun g4_12=>zH O one9 O (J 0 O) O) O<|qO [(32,_),(34,_)] O O O O A ⟨O,O,O,O,T⟩ (fun g4_12=>det_sgeq O O O) O<|qO [(25,_)] O O O O gv1 ⟨O,O,T⟩ (fun g4_9=>wF O O O (fun h=>kC (by assumption) h) O) O<|zN O O (zAl O O O O (fun h=>(lzf h)))<|yK<|zA<|zE O (fun c2=>?_) (fun c2=>?_)
  ·refine Y O<|G O<|zA<|zG<|zS O ?_
   rw [nM,hp,zKi hx,show vJ l.L k x=true from c2];rfl
  ·refine zJ<|zQ O<|qF O ⟨by omega,by omega⟩<|G O<|zA ?_
   refine ⟨k+1,⟨by omega,by rw [hp,zKi hx,show vJ l.L k x=false from c2];rfl⟩,(by omega),Weak.mk [false,true] ⟨zC,zC,zC,zC,T⟩ O⟩
 ·try simp only [sx] at c1
  refine qM<|Y O<|G O<|zA<|zG<|zS O ?_
  rw [nM,hp,monos_end (by omega)];rfl
theorem zIc (l:Lf) (hl:l.L.length<=6000000000000):
    Pur cfg 288 [nA l] (vB (fW l)):=by
 refine zR Tryz.func288 O Tryz.ntmps288 Tryz.results288 O ?_
 intro z hz
 refine Y O<|zW O O (qB O O) ?_
 rintro _ _ ⟨b1,rfl,rfl⟩
 refine G O<|zA<|zK<|Y O<|G O<|zA<|zT<|zY ⟨[(3,.c _),(1,.c _)],[_]⟩ (Weak.mk [true] ⟨zC,zC,T⟩ O)<|qG 1 0 O O (Nat) (fun k=>[(3,vI k)]) (fun k=>[]) (fun k=>k<=l.L.length/\(fW l=lL (mB l.L k) (l.L.drop k))) (fun k=>l.L.length-k) ⟨0,⟨by omega,O⟩,Weak.mk [true] ⟨zC,zC,T⟩ O⟩ ?_
 rintro k ⟨hk,hp⟩
 refine zK<|Y O<|G O<|zD O zAp<|zI zCa (J 0 O) O<|qC O zDs<|yF O<|zA<|zE O (fun c1=>?_) (fun c1=>?_)
 ·try simp only [sx] at c1
  obtain ⟨x,hx⟩:=yC l.L k (by omega)
  refine zJ<|zK<|zT<|zK<|qV 37 mixed (by kernel_rfl) O O<|zN O O (zF O zAp O)<|zN O O (zH O zCa O (J 0 O) O)<|zN O O (zO O O)<|zN O O (qH O zDs O O (by omega) (D (by assumption)))<|zN O O (qU O zEo O)<|zN O O (zH O one9 O qD O)<|zN O O (qE O ok120 (zKa _) ⟨zC,O,T⟩)<|zN O O (kA O O)<|zN O O (zO O O)<|qO [] O O O O gv1 T (fun g4_8=>zF O zAp O) O<|qO [(20,_)] O O O O gv1 ⟨O,O,T⟩ (fun g4_8=>zH O zCa O (J 0 O) O) O<|qO [] O O O O gv1 T (fun g4_8=>zO O O) O<|qO [(21,_),(22,_)] O O O O gv1 ⟨O,O,O,O,T⟩ (fun g4_8=>qH O zDs O O (by omega) (D (by assumption))) O<|qO [(23,_)] O O O O gv1 ⟨O,O,T⟩ (fun g4_8=>qU O fd273_1 O) O<|qO [(24,_)] O O O O gv1 ⟨O,O,T⟩ (fun g4_8=>zH O U O qD O) O<|qO [(25,_)] O O O O gv1 ⟨O,O,T⟩ (fun g4_8=>yM O O O) O<|zN O O (zAl O O O O (fun h=>(lzf h)))<|zN O O (zO O O)<|qO [] O O O O gv1 T (fun g4_17=>zO O O) O<|qO [(29,_)] O O O O gv1 ⟨O,O,T⟩ (fun g4_17=>kD O O O) O<|qO [(30,_)] O O O O gv1 ⟨O,O,T⟩ (fun g4_17=>zO O O) O<|qO [] O O O O A T (fun g4_20=>zF O zAp O) O<|qO [(32,_)] O O O O A ⟨O,O,T⟩ (fun g4_20=>zH O zCa O (J 0 O) O) O<|qO [] O O O O A T (fun g4_20=>zO O O) O<|qO [(34,_)] O O O O A ⟨O,O,T⟩ (fun g4_20=>qZ O O O ⟨by omega,by omega⟩) O<|qO [(33,_),(35,_)] O O O O A ⟨O,O,O,O,T⟩ (fun g4_20=>qH O zDs O O (by simp only [Lz,cond_true,cond_false,Bool.and_eq_true,Bool.or_eq_true,Bool.not_eq_true',Bool.not_eq_false',Bool.or_eq_false_iff,Bool.and_eq_false_iff,decide_eq_true_eq,decide_eq_false_iff_not,Bool.not_eq_true,Bool.not_eq_false] at g4_20;omega) (pv_get (by simp only [Lz,cond_true,cond_false,Bool.and_eq_true,Bool.or_eq_true,Bool.not_eq_true',Bool.not_eq_false',Bool.or_eq_false_iff,Bool.and_eq_false_iff,decide_eq_true_eq,decide_eq_false_iff_not,Bool.not_eq_true,Bool.not_eq_false] at g4_20;omega) (by omega))) O<|qO [(36,_)] O O O O A ⟨O,O,T⟩ (fun g4_20=>qU O zEo O) O<|qO [(37,_)] O O O O A ⟨O,O,T⟩ (fun g4_20=>zH O one9 O qD O) O<|qO [] O O O O A T (fun g4_20=>zF O zAp O) O<|qO [(39,_)] O O O O A ⟨O,O,T⟩ (fun g4_20=>zH O zCa O (J 0 O) O) O<|qO [] O O O O A T (fun g4_20=>zO O O) O<|qO [(40,_),(41,_)] O O O O A ⟨O,O,O,O,T⟩ (fun g4_20=>qH O zDs O O (by omega) (D (by assumption))) O<|qO [(42,_)] O O O O A ⟨O,O,T⟩ (fun g4_20=>qU O zEo O) O<|qO [(43,_)] O O O O A ⟨O,O,T⟩ (fun g4_20=>zH O one9 O qD O) O<|qO [(38,_),(44,_)] O O O O A ⟨O,O,O,O,T⟩ (fun g4_20=>det_sgeq O O O) O<|qO [(31,_)] O O O O gv1 ⟨O,O,T⟩ (fun g4_17=>wF O O O (fun h=>kC (by assumption) h) O) O<|zN O O (zAl O O O O (fun h=>(lzf h)))<|yK<|zA<|zE O (fun c2=>?_) (fun c2=>?_)
  ·refine Y O<|G O<|zA<|zG<|zS O ?_
   rw [hp,zKi hx,show vJ l.L k x=true from c2];rfl
  ·refine zJ<|zQ O<|G O<|qF O ⟨by omega,by omega⟩<|G O<|zA ?_
   refine ⟨k+1,⟨by omega,by rw [hp,zKi hx,show vJ l.L k x=false from c2];rfl⟩,(by omega),Weak.mk [true] ⟨zC,zC,T⟩ O⟩
 ·try simp only [sx] at c1
  refine qM<|Y O<|G O<|zA<|zG<|zS O ?_
  rw [hp,monos_end (by omega)]
theorem base_Lin (a b:Lf) (ha:a.L.length<=6000000000000):
    Pur cfg 230 [nA a,nA b] (vB (decide (a=b))):=by
 refine zR Tryz.func230 O Tryz.ntmps230 Tryz.results230 O ?_
 intro z hz
 refine Y O<|zW O O (qB O O) ?_
 rintro _ _ ⟨b1,rfl,rfl⟩
 refine zW O O (qB O O) ?_
 rintro _ _ ⟨b2,rfl,rfl⟩
 refine G O<|zA<|zK<|Y O<|zD O zLs<|zI U (J 1 O) O<|zD O zLs<|zI U (J 0 O) O<|yQ O<|G O<|rL0 O (fun g1_5=>zF O zAp O) O<|rL1 12 O (fun g1_5=>zH O zCa O (J 1 O) O) O<|rL1 13 O (fun g1_5=>yH O zDs O) O<|rL0 O (fun g1_5=>zF O zAp O) O<|rL1 15 O (fun g1_5=>zH O zCa O (J 0 O) O) O<|rL1 16 O (fun g1_5=>yH O zDs O) O<|rLz [(14,_),(17,_)] O gv1 ⟨O,O,O,O,T⟩ (fun g1_5=>kT O O O) O<|r_or O (fun h=>(lzf h))<|zA<|zE O (fun c1=>?_) (fun c1=>?_)
 ·try simp only [sx] at c1
  refine Y O<|G O<|zA<|zG<|zS O ?_
  rw [qK (fun h=>by rw [h] at c1;simp at c1)]
 ·try simp only [sx] at c1
  refine zJ<|zK<|Y O<|G O<|zA<|zT<|zY ⟨[(5,.c _),(2,.c _),(3,.c _)],[_,_]⟩ (Weak.mk [true,true] ⟨zC,zC,zC,T⟩ O)<|qG 1 0 O O (Nat) (fun k=>[(5,vI k)]) (fun k=>[]) (fun k=>k<=a.L.length/\(a.L.take k=b.L.take k)) (fun k=>a.L.length-k) ⟨0,⟨by omega,O⟩,Weak.mk [true,true] ⟨zC,zC,zC,T⟩ O⟩ ?_
  rintro k ⟨hk,hp⟩
  refine zK<|Y O<|G O<|zD O zAp<|zI zCa (J 1 O) O<|qC O zDs<|yF O<|zA<|zE O (fun c2=>?_) (fun c2=>?_)
  ·try simp only [sx] at c2
   obtain ⟨x,hx⟩:=yC a.L k (by omega)
   obtain ⟨y,hy⟩:=yC b.L k (by omega)
   refine zJ<|zK<|zT<|zK<|qV 11 mixed (by kernel_rfl) O O<|zN O O (zF O zAp O)<|zN O O (zH O zCa O (J 1 O) O)<|zN O O (zO O O)<|zN O O (qH O zDs O O (by omega) (D (by assumption)))<|zN O O (zV O zPu O qD O)<|zN O O (zF O zAp O)<|zN O O (zH O zCa O (J 0 O) O)<|zN O O (zO O O)<|zN O O (qH O zDs O O (by omega) (D (by assumption)))<|zN O O (zV O zPu O qD O)<|zN O O (zAu O fl273 O O O)<|yK<|zA<|zE O (fun c3=>?_) (fun c3=>?_)
   ·have hne:=mono_ne c3
    refine Y O<|G O<|zA<|zG<|zS O ?_
    rw [qK (fun h=>zGx hx hy hne (by rw [h]))]
   ·have heq:=mono_eq c3
    refine zJ<|zQ O<|G O<|qF O ⟨by omega,by omega⟩<|G O<|zA ?_
    refine ⟨k+1,⟨by omega,zDd hx hy hp heq⟩,(by omega),Weak.mk [true,true] ⟨zC,zC,zC,T⟩ O⟩
  ·try simp only [sx] at c2
   refine qM<|Y O<|G O<|zA<|zG<|zS O ?_
   rw [zAi (lin_mk (by omega) (zFh hp (by omega) (by omega)))]
theorem zLh (l:List Ix) (c:C) (p:Ix->Bool) (hl:l.length<=6000000000000) (hc:∀x,x∈l->FnPur cfg c [jD x] (vB (p x))):
    Pur cfg 300 [mP l,.c c] (vI (bW p l)):=by
 refine zR Tryz.func300 O Tryz.ntmps300 Tryz.results300 O ?_
 intro z hz
 refine Y O<|G O<|zA<|zK<|Y O<|G O<|qC O wU<|G O<|zA<|zT<|zY ⟨[(8,.c _),(0,.c _),(1,.c _),(7,.c _)],[]⟩ (Weak.mk [] ⟨zC,zC,zC,zC,T⟩ O)<|qG 1 0 O O (Nat) (fun k=>[(8,vI k)]) (fun k=>[]) (fun k=>k<=l.length/\((l.take k).any p=false)) (fun k=>l.length-k) ⟨0,⟨by omega,O⟩,Weak.mk [] ⟨zC,zC,zC,zC,T⟩ O⟩ ?_
 rintro k ⟨hk,hp⟩
 refine Y O<|yF O<|zA<|zK<|zE O (fun c1=>?_) (fun c1=>?_)
 ·try simp only [sx] at c1
  obtain ⟨x,hx⟩:=yC l k (by omega)
  refine zJ<|zK<|zT<|Y O<|G O<|G O<|zA<|Y O<|G O<|G O<|G O<|qI O wU (by omega) (D (by assumption))<|zL zIp qD O<|zX O (zAm O O (hc _ (qL hx)) ⟨zC,O,T⟩)<|zA<|zE O (fun c2=>?_) (fun c2=>?_)
  ·exact v11
  ·exact p9
 ·exact k7
theorem zBs (l:List Ix) (c:C) (p:Ix->Bool) (hl:l.length<=6000000000000) (hc:∀x,x∈l->FnPur cfg c [jD x] (vB (p x))):
    Pur cfg 275 [mP l,.c c] (vB (l.any p)):=by
 refine zR Tryz.func275 O Tryz.ntmps275 Tryz.results275 O ?_
 intro z hz
 refine Y O<|G O<|zA<|Y O<|G O<|G O<|zZ O ok300 (zLh l c p hl hc) ⟨zC,O,zC,O,T⟩<|zX O (kB O O O)<|G O<|zA<|zG<|zS O ?_
 rw [zHb]
end Go.W
end
section
set_option maxRecDepth 10000
namespace Go.W
open Go Go.Eng Go.Proofs Go.L41 Go.Br
attribute [local irreducible] AWP RWP TD fT
theorem qX:lA Tryz.prog 43=some 5:=by kernel_rfl
theorem qN:lA Tryz.prog 59=some 2:=by kernel_rfl
theorem zBx:bE Tryz.prog 43 0=some (0,3):=by kernel_rfl
theorem zIm:bE Tryz.prog 43 1=some (1,3):=by kernel_rfl
theorem zIl:bE Tryz.prog 43 2=some (2,3):=by kernel_rfl
theorem zGa:bE Tryz.prog 43 3=some (3,3):=by kernel_rfl
theorem zMv:bE Tryz.prog 43 4=some (4,3):=by kernel_rfl
theorem yR:bE Tryz.prog 59 0=some (0,2):=by kernel_rfl
theorem kU:bE Tryz.prog 59 1=some (1,2):=by kernel_rfl
theorem fl43:flatK Tryz.prog 43=some [.int,.int,.int,.int,.int]:=by kernel_rfl
theorem ik129:tC Tryz.prog 129=some .u64:=by kernel_rfl
theorem ik147:tC Tryz.prog 147=some .u64:=by kernel_rfl
theorem ok51:bA Tryz.prog 51=true:=by kernel_rfl
theorem ok52:bA Tryz.prog 52=true:=by kernel_rfl
theorem ok53:bA Tryz.prog 53=true:=by kernel_rfl
theorem ok54:bA Tryz.prog 54=true:=by kernel_rfl
theorem ok62:bA Tryz.prog 62=true:=by kernel_rfl
theorem ok86:bA Tryz.prog 86=true:=by kernel_rfl
theorem ok87:bA Tryz.prog 87=true:=by kernel_rfl
theorem ok88:bA Tryz.prog 88=true:=by kernel_rfl
theorem ok89:bA Tryz.prog 89=true:=by kernel_rfl
theorem ok90:bA Tryz.prog 90=true:=by kernel_rfl
theorem ok91:bA Tryz.prog 91=true:=by kernel_rfl
theorem ok92:bA Tryz.prog 92=true:=by kernel_rfl
theorem ok104:bA Tryz.prog 104=true:=by kernel_rfl
theorem ok119:bA Tryz.prog 119=true:=by kernel_rfl
theorem one3:jL Tryz.prog 3=true:=by kernel_rfl
theorem pl43:fG Tryz.prog 43=some [(0,1),(1,1),(2,1),(3,1),(4,1)]:=by kernel_rfl
theorem pl59:fG Tryz.prog 59=some [(0,1),(1,1)]:=by kernel_rfl
theorem W:(Tryz.prog.info? 59).map (·.size)=some 2:=by kernel_rfl
theorem us2:(Tryz.prog.underlying 2).isSome=true:=by kernel_rfl
theorem us3:(Tryz.prog.underlying 3).isSome=true:=by kernel_rfl
theorem zr43:dM Tryz.prog 43=some [(Value.int IntKind.i64 0),(Value.int IntKind.i64 0),(Value.int IntKind.i64 0),(Value.int IntKind.i64 0),(Value.int IntKind.i64 0)]:=by kernel_rfl
theorem zr59:dM Tryz.prog 59=some [(Value.int IntKind.i64 0),(Value.int IntKind.i64 0)]:=by kernel_rfl
theorem zRr (t:Ty):
    Pur cfg 86 [vTy t] (vB (sE t)):=by
 refine zR Tryz.func86 O Tryz.ntmps86 Tryz.results86 O ?_
 intro z hz
 refine Y O<|zW O O (qB O O) ?_
 rintro _ _ ⟨b1,rfl,rfl⟩
 refine G O<|zA<|Y O<|zL qX (J 0 O) O<|zD O zBx<|zI one3 (J 0 O) O<|qR O zr43 pl43<|zX O (zKp O fl43 O O O)<|G O<|zA<|zG<|zS O ?_
 exact congrArg vB (plainT_eq t)
theorem zAt (t:Ty):
    Pur cfg 87 [vTy t] (vI (bif bP t then 0 else 10)):=by
 refine zR Tryz.func87 O Tryz.ntmps87 Tryz.results87 O ?_
 intro z hz
 refine Y O<|zW O O (qB O O) ?_
 rintro _ _ ⟨b1,rfl,rfl⟩
 refine G O<|zA<|Y O<|zD O zGa<|zI one3 (J 0 O) O<|zX O (kB O O O)<|G O<|rL0 O (fun g1_3=>zF O zGa O) O<|rL1 8 O (fun g1_3=>zH O one3 O (J 0 O) O) O<|rL1 9 O (fun g1_3=>kH O O O) O<|yO O (fun h=>h)<|G O<|rL0 O (fun g1_8=>zF O zMv O) O<|rL1 13 O (fun g1_8=>zH O one3 O (J 0 O) O) O<|rL1 14 O (fun g1_8=>yM O O O) O<|rL1 15 O (fun g1_8=>zO O O) O<|rLz [] O A T (fun g1_12=>zF O zMv O) O<|rLz [(17,_)] O A ⟨O,O,T⟩ (fun g1_12=>zH O one3 O (J 0 O) O) O<|rLz [(18,_)] O A ⟨O,O,T⟩ (fun g1_12=>yM O O O) O<|rL1 16 O (fun g1_8=>zAl O O O O (fun h=>kC (by assumption) (lzf h))) O<|yO O (fun h=>h)<|G O<|zA<|zK<|Y O<|zD O zBx<|zI one3 (J 0 O) O<|yQ O<|G O<|rL0 O (fun g2_3=>zF O zIm O) O<|rL1 26 O (fun g2_3=>zH O one3 O (J 0 O) O) O<|rL1 27 O (fun g2_3=>wI O O O) O<|r_or O (fun h=>(lzf h))<|G O<|rL0 O (fun g2_8=>zF O zIm O) O<|rL1 31 O (fun g2_8=>zH O one3 O (J 0 O) O) O<|rL1 32 O (fun g2_8=>kD O O O) O<|r_or O (fun h=>(lzf h))<|G O<|rL0 O (fun g2_13=>zF O zIl O) O<|rL1 36 O (fun g2_13=>zH O one3 O (J 0 O) O) O<|rL1 37 O (fun g2_13=>wI O O O) O<|r_or O (fun h=>(lzf h))<|G O<|rL0 O (fun g2_18=>zF O zIl O) O<|rL1 41 O (fun g2_18=>zH O one3 O (J 0 O) O) O<|rL1 42 O (fun g2_18=>kD O O O) O<|r_or O (fun h=>(lzf h))<|G O<|rL0 O (fun g2_23=>zO O O) O<|rL1 46 O (fun g2_23=>kA O O) O<|r_or O (fun h=>(lzf h))<|zA<|zE O (fun c1=>?_) (fun c1=>?_)
 ·refine Y O<|G O<|zA<|zG<|zS O ?_
  rw [show bP t=false from fix_no c1];rfl
 ·refine zJ<|Y O<|G O<|zA<|zG<|zS O ?_
  rw [show bP t=true from fix_yes c1];rfl
theorem kO (t:Ty):
    Pur cfg 51 [vTy t] (vI (bS t)):=by
 refine zR Tryz.func51 O Tryz.ntmps51 Tryz.results51 O ?_
 intro z hz
 refine Y O<|zW O O (qB O O) ?_
 rintro _ _ ⟨b1,rfl,rfl⟩
 refine G O<|zA<|zK<|Y O<|zD O zBx<|zI one3 (J 0 O) O<|zA<|zT<|zK<|Y O<|qQ O<|G O<|zA<|zE O (fun c1=>?_) (fun c1=>?_)
 ·try simp only [sx] at c1
  refine zJ<|zE O (fun c2=>?_) (fun c2=>?_)
  ·exact v18
  ·exact l6
 ·try simp only [sx] at c1
  refine zQ O<|qQ O<|G O<|zA<|zE O (fun c2=>?_) (fun c2=>?_)
  ·exact v18
  ·exact l6
theorem zCv (t:Ty):
    Pur cfg 62 [vTy t] (vB (bD t)):=by
 refine zR Tryz.func62 O Tryz.ntmps62 Tryz.results62 O ?_
 intro z hz
 refine Y O<|zW O O (qB O O) ?_
 rintro _ _ ⟨b1,rfl,rfl⟩
 refine G O<|zA<|zK<|Y O<|zD O zBx<|zI one3 (J 0 O) O<|qQ O<|G O<|rL0 O (fun g1_3=>zF O zBx O) O<|rL1 7 O (fun g1_3=>zH O one3 O (J 0 O) O) O<|rL1 8 O (fun g1_3=>yM O O O) O<|r_or O (fun h=>(lzf h))<|zA<|zE O (fun c1=>?_) (fun c1=>?_)
 ·refine Y O<|zD O zIm<|zI one3 (J 0 O) O<|qQ O<|G O<|rL0 O (fun g2_3=>zF O zIl O) O<|rL1 15 O (fun g2_3=>zH O one3 O (J 0 O) O) O<|rL1 16 O (fun g2_3=>yM O O O) O<|yO O (fun h=>h)<|G O<|rL0 O (fun g2_8=>zF O zGa O) O<|rL1 20 O (fun g2_8=>zH O one3 O (J 0 O) O) O<|rL1 21 O (fun g2_8=>yM O O O) O<|yO O (fun h=>h)<|G O<|rL0 O (fun g2_13=>zF O zMv O) O<|rL1 25 O (fun g2_13=>zH O one3 O (J 0 O) O) O<|rL1 26 O (fun g2_13=>yM O O O) O<|yO O (fun h=>h)<|G O<|zA<|zG<|zS O ?_
  exact congrArg vB (type1 c1)
 ·refine zJ<|Y O<|zD O zBx<|zI one3 (J 0 O) O<|qQ O<|G O<|rL0 O (fun g3_3=>zF O zIm O) O<|rL1 33 O (fun g3_3=>zH O one3 O (J 0 O) O) O<|rL1 34 O (fun g3_3=>kB O O O) O<|yO O (fun h=>h)<|G O<|rL0 O (fun g3_8=>zF O zIm O) O<|rL1 38 O (fun g3_8=>zH O one3 O (J 0 O) O) O<|rL1 39 O (fun g3_8=>kH O O O) O<|yO O (fun h=>h)<|G O<|rL0 O (fun g3_13=>zF O zIl O) O<|rL1 43 O (fun g3_13=>zH O one3 O (J 0 O) O) O<|rL1 44 O (fun g3_13=>kB O O O) O<|yO O (fun h=>h)<|G O<|rL0 O (fun g3_18=>zF O zIl O) O<|rL1 48 O (fun g3_18=>zH O one3 O (J 0 O) O) O<|rL1 49 O (fun g3_18=>kH O O O) O<|yO O (fun h=>h)<|G O<|rL0 O (fun g3_23=>zF O zGa O) O<|rL1 53 O (fun g3_23=>zH O one3 O (J 0 O) O) O<|rL1 54 O (fun g3_23=>kB O O O) O<|yO O (fun h=>h)<|G O<|rL0 O (fun g3_28=>zF O zGa O) O<|rL1 58 O (fun g3_28=>zH O one3 O (J 0 O) O) O<|rL1 59 O (fun g3_28=>kH O O O) O<|yO O (fun h=>h)<|G O<|rL0 O (fun g3_33=>zF O zMv O) O<|rL1 63 O (fun g3_33=>zH O one3 O (J 0 O) O) O<|rL1 64 O (fun g3_33=>yM O O O) O<|rL1 65 O (fun g3_33=>zO O O) O<|rLz [] O A T (fun g3_37=>zF O zMv O) O<|rLz [(67,_)] O A ⟨O,O,T⟩ (fun g3_37=>zH O one3 O (J 0 O) O) O<|rLz [(68,_)] O A ⟨O,O,T⟩ (fun g3_37=>yM O O O) O<|rL1 66 O (fun g3_33=>zAl O O O O (fun h=>kC (by assumption) (lzf h))) O<|yO O (fun h=>h)<|G O<|zA<|zG<|zS O ?_
  exact congrArg vB (type2 c1)
theorem zLj (b:Int):
    Pur cfg 119 [vI b] (vB (decide (2<=b)&&decide (b<=31))):=by
 refine zR Tryz.func119 O Tryz.ntmps119 Tryz.results119 O ?_
 exact r6
theorem zPd (b:Int) (h1:2<=b) (h2:b<=31):
    Pur cfg 88 [vI b] (vI (-bL b)):=by
 refine zR Tryz.func88 O Tryz.ntmps88 Tryz.results88 O ?_
 intro z hz
 refine Y O<|G O<|zA<|zK<|Y O<|G O<|zZ O ok119 (zLj _) ⟨zC,O,T⟩<|yT O<|zA<|zE O (fun c1=>?_) (fun c1=>?_)
 ·try simp only [sx] at c1
  exact absurd c1 (by omega)
 ·try simp only [sx] at c1
  refine zJ<|Y O<|G O<|zX O (qZ O O O ⟨by omega,by omega⟩)<|zX O (wK O us3 ik129 O)<|zX O (zUg O O O (by rw [zCh (by omega)];omega))<|zX O (zFr O O)<|G O<|zA<|zG<|zS O ?_
  exact congrArg vI (min_eq h1 h2)
theorem zPe (b:Int) (h1:2<=b) (h2:b<=31):
    Pur cfg 89 [vI b] (vI (bL b-1)):=by
 refine zR Tryz.func89 O Tryz.ntmps89 Tryz.results89 O ?_
 intro z hz
 refine Y O<|G O<|zA<|zK<|Y O<|G O<|zZ O ok119 (zLj _) ⟨zC,O,T⟩<|yT O<|zA<|zE O (fun c1=>?_) (fun c1=>?_)
 ·try simp only [sx] at c1
  exact absurd c1 (by omega)
 ·try simp only [sx] at c1
  refine zJ<|Y O<|G O<|zX O (qZ O O O ⟨by omega,by omega⟩)<|zX O (wK O us3 ik129 O)<|zX O (zUg O O O (by rw [zCh (by omega)];omega))<|zX O (det_sub O O O)<|G O<|zA<|zG<|zS O ?_
  exact congrArg vI (max_eq h1 h2)
theorem zTt (t:Ty) (v:Vl):
    Pur cfg 52 [vTy t,bJ v] (vB (bP t&&(decide (v.D=1)&&decide (-bL t.Bits<=v.N)&&decide (v.N<bL t.Bits)))):=by
 refine zR Tryz.func52 O Tryz.ntmps52 Tryz.results52 O ?_
 intro z hz
 refine Y O<|zW O O (qB O O) ?_
 rintro _ _ ⟨b1,rfl,rfl⟩
 refine zW O O (qB O O) ?_
 rintro _ _ ⟨b2,rfl,rfl⟩
 refine G O<|zA<|zK<|qV 25 mixed (by kernel_rfl) O O<|zN O O (zV O qX O (J 1 O) O)<|zN O O (qE O ok87 (zAt _) ⟨zC,O,T⟩)<|zN O O (yM O O O)<|zN O O (zO O O)<|qO [] O O O O gv1 T (fun g1_3=>zF O kU O) O<|qO [(9,_)] O O O O gv1 ⟨O,O,T⟩ (fun g1_3=>zH O U O (J 0 O) O) O<|qO [(10,_)] O O O O gv1 ⟨O,O,T⟩ (fun g1_3=>yM O O O) O<|zN O O (wF O O O (fun h=>h) O)<|zN O O (zO O O)<|qO [] O O O O gv1 T (fun g1_8=>zF O yR O) O<|qO [(14,_)] O O O O gv1 ⟨O,O,T⟩ (fun g1_8=>zH O U O (J 0 O) O) O<|qO [] O O O O gv1 T (fun g1_8=>zF O zIm O) O<|qO [(16,_)] O O O O gv1 ⟨O,O,T⟩ (fun g1_8=>zH O one3 O (J 1 O) O) O<|qO [(17,_)] O O O O gv1 ⟨O,O,T⟩ (fun g1_8=>qE O ok88 (zPd _ (fixB (fxa g1_8)).1 (fixB (fxa g1_8)).2) ⟨zC,O,T⟩) O<|qO [(15,_),(18,_)] O O O O gv1 ⟨O,O,O,O,T⟩ (fun g1_8=>kB O O O) O<|zN O O (wF O O O (fun h=>h) O)<|zN O O (zO O O)<|qO [] O O O O gv1 T (fun g1_16=>zF O yR O) O<|qO [(22,_)] O O O O gv1 ⟨O,O,T⟩ (fun g1_16=>zH O U O (J 0 O) O) O<|qO [] O O O O gv1 T (fun g1_16=>zF O zIm O) O<|qO [(24,_)] O O O O gv1 ⟨O,O,T⟩ (fun g1_16=>zH O one3 O (J 1 O) O) O<|qO [(25,_)] O O O O gv1 ⟨O,O,T⟩ (fun g1_16=>qE O ok89 (zPe _ (fixB (fxb g1_16)).1 (fixB (fxb g1_16)).2) ⟨zC,O,T⟩) O<|qO [(23,_),(26,_)] O O O O gv1 ⟨O,O,O,O,T⟩ (fun g1_16=>kH O O O) O<|zN O O (wF O O O (fun h=>h) O)<|zN O O (yE O O)<|yK<|zA<|zG<|zS O ?_
 exact congrArg vB (fixV t v)
theorem zDw (n:Int):
    Pur cfg 53 [vI n] (vB (bI n)):=by
 refine zR Tryz.func53 O Tryz.ntmps53 Tryz.results53 O ?_
 exact r6
theorem frac_inRange (n:Int):
    Pur cfg 90 [vI n] (vB (bI n)):=by
 refine zR Tryz.func90 O Tryz.ntmps90 Tryz.results90 O ?_
 exact r6
theorem zGl (n:Int) (hn: -9223372036854775808<=n) (hm:n<=9223372036854775807):
    Pur cfg 92 [vI n] (lB n.natAbs):=by
 refine zR Tryz.func92 O Tryz.ntmps92 Tryz.results92 O ?_
 intro z hz
 refine Y O<|G O<|zA<|zK<|Y O<|G O<|yF O<|zA<|zE O (fun c1=>?_) (fun c1=>?_)
 ·try simp only [sx] at c1
  refine Y O<|G O<|zX O (wK O us2 ik147 O)<|zX O (zFr O O)<|G O<|zA<|zG<|zS O ?_
  exact congrArg lB (mag_neg c1 hn)
 ·try simp only [sx] at c1
  refine zJ<|Y O<|G O<|zX O (wK O us2 ik147 O)<|G O<|zA<|zG<|zS O ?_
  exact congrArg lB (mag_pos (by omega) hm)
theorem frac_gcd (a b:Nat):
    Pur cfg 91 [lB a,lB b] (lB (Nat.gcd a b)):=by
 refine zR Tryz.func91 O Tryz.ntmps91 Tryz.results91 O ?_
 exact s8
theorem base_gcd (a b:Nat):
    Pur cfg 104 [vI a,vI b] (vI (Nat.gcd a b)):=by
 refine zR Tryz.func104 O Tryz.ntmps104 Tryz.results104 O ?_
 intro z hz
 refine Y O<|G O<|zA<|zK<|zT<|zY ⟨[(0,.c _),(1,.c _)],[]⟩ (Weak.mk [] ⟨zC,zC,T⟩ O)<|qG 2 0 O O (Nat×Nat) (fun ⟨x,y⟩=>[(0,vI x),(1,vI y)]) (fun ⟨x,y⟩=>[]) (fun ⟨x,y⟩=>Nat.gcd a b=Nat.gcd x y) (fun ⟨x,y⟩=>y) ⟨⟨a,b⟩,O,Weak.mk [] ⟨zC,zC,T⟩ O⟩ ?_
 rintro ⟨x,y⟩ hg
 refine zK<|Y O<|G O<|yQ O<|zA<|zE O (fun c1=>?_) (fun c1=>?_)
 ·try simp only [sx] at c1
  refine zJ<|zT<|qV 6 mixed (by kernel_rfl) O O<|zN O O (zO O O)<|zN O O (zO O O)<|zN O O (zO O O)<|zN O O (zLt O O O (by omega))<|zN O O (yE O O)<|zN O O (yE O O)<|yK<|zA ?_
  refine ⟨⟨y,x%y⟩,(by rw [hg];exact gcd_step (by omega)),(Nat.mod_lt _ (by omega)),Weak.mk [] ⟨zC,VLe.of_eq (congrArg vI (Int.ofNat_tmod x y).symm),T⟩ O⟩
 ·try simp only [sx] at c1
  refine qM<|Y O<|G O<|G O<|zA<|zG<|zS O ?_
  exact congrArg vI (by rw [hg,show y=0 by omega,Nat.gcd_zero_right])
theorem wR (v:Vl):
    Pur cfg 54 [bJ v] (vB (decide (1<=v.D)&&decide (v.D<=2147483647)&&bI v.N&&decide (Int.gcd v.N v.D=1))):=by
 refine zR Tryz.func54 O Tryz.ntmps54 Tryz.results54 O ?_
 intro z hz
 refine Y O<|zW O O (qB O O) ?_
 rintro _ _ ⟨b1,rfl,rfl⟩
 refine G O<|zA<|zK<|qV 24 mixed (by kernel_rfl) O O<|zN O O (zF O kU O)<|zN O O (zH O U O (J 0 O) O)<|zN O O (kB O O O)<|zN O O (zO O O)<|qO [] O O O O gv1 T (fun g1_3=>zF O kU O) O<|qO [(7,_)] O O O O gv1 ⟨O,O,T⟩ (fun g1_3=>zH O U O (J 0 O) O) O<|qO [(8,_)] O O O O gv1 ⟨O,O,T⟩ (fun g1_3=>kH O O O) O<|zN O O (wF O O O (fun h=>h) O)<|zN O O (zO O O)<|qO [] O O O O gv1 T (fun g1_8=>zF O yR O) O<|qO [(12,_)] O O O O gv1 ⟨O,O,T⟩ (fun g1_8=>zH O U O (J 0 O) O) O<|qO [(13,_)] O O O O gv1 ⟨O,O,T⟩ (fun g1_8=>qE O ok90 (frac_inRange _) ⟨zC,O,T⟩) O<|zN O O (wF O O O (fun h=>h) O)<|zN O O (zO O O)<|qO [] O O O O gv1 T (fun g1_13=>zF O yR O) O<|qO [(17,_)] O O O O gv1 ⟨O,O,T⟩ (fun g1_13=>zH O U O (J 0 O) O) O<|qO [(18,_)] O O O O gv1 ⟨O,O,T⟩ (fun g1_13=>qE O ok92 (zGl v.N (frV g1_13).2.2.1 (frV g1_13).2.2.2) ⟨zC,O,T⟩) O<|qO [] O O O O gv1 T (fun g1_13=>zF O kU O) O<|qO [(20,_)] O O O O gv1 ⟨O,O,T⟩ (fun g1_13=>zH O U O (J 0 O) O) O<|qO [(21,_)] O O O O gv1 ⟨O,O,T⟩ (fun g1_13=>wK O us2 ik147 O) O<|qO [(19,_),(22,_)] O O O O gv1 ⟨O,O,O,O,T⟩ (fun g1_13=>qE O ok91 (show Pur cfg 91 [lB v.N.natAbs,lB (IntKind.u64.wrap v.D)] (lB (Nat.gcd v.N.natAbs v.D.natAbs)) from by rw [u64_D (frV g1_13).1 (frV g1_13).2.1];exact frac_gcd _ _) ⟨zC,O,zC,O,T⟩) O<|qO [(23,_)] O O O O gv1 ⟨O,O,T⟩ (fun g1_13=>yM O O O) O<|zN O O (wF O O O (fun h=>h) O)<|zN O O (yE O O)<|yK<|zA<|zG<|zS O ?_
 exact congrArg vB (by rw [show (decide (((Nat.gcd v.N.natAbs v.D.natAbs:Nat):Int)=1))=decide (Int.gcd v.N v.D=1) from decide_eq_decide.2 (by unfold Int.gcd;omega)])
theorem zAw (t:Ty) (v:Vl):
    Pur cfg 22 [vTy t,bJ v] (vB (bD t&&bC t v)):=by
 refine zR Tryz.func22 O Tryz.ntmps22 Tryz.results22 O ?_
 intro z hz
 refine Y O<|zW O O (qB O O) ?_
 rintro _ _ ⟨b1,rfl,rfl⟩
 refine zW O O (qB O O) ?_
 rintro _ _ ⟨b2,rfl,rfl⟩
 refine G O<|zA<|zK<|Y O<|zL qX (J 1 O) O<|zZ O ok51 (kO _) ⟨zC,O,T⟩<|yQ O<|zA<|zE O (fun c1=>?_) (fun c1=>?_)
 ·try simp only [sx] at c1
  have ht:bD t=false:=zHl c1
  refine Y O<|G O<|zA<|zG<|zS O ?_
  rw [ht];rfl
 ·try simp only [sx] at c1
  have ht:bD t=true:=zEc c1
  refine zJ<|zK<|Y O<|zD O zBx<|zI one3 (J 1 O) O<|zA<|zT<|Y O<|qQ O<|G O<|zA<|zE O (fun c2=>?_) (fun c2=>?_)
  ·try simp only [sx] at c2
   refine Y O<|zL qX (J 1 O) O<|zL qN (J 0 O) O<|zZ O ok52 (zTt _ _) ⟨zC,O,zC,O,T⟩<|G O<|zA<|zG<|zS O ?_
   exact congrArg vB (by rw [ht,bC,c2,←wY c2,ht];rfl)
  ·try simp only [sx] at c2
   refine Y O<|qQ O<|G O<|zA<|zE O (fun c3=>?_) (fun c3=>?_)
   ·try simp only [sx] at c3
    refine Y O<|zD O kU<|zI U (J 0 O) O<|qQ O<|G O<|rL0 O (fun g7_3=>zF O yR O) O<|rL1 21 O (fun g7_3=>zH O U O (J 0 O) O) O<|rL1 22 O (fun g7_3=>qE O ok53 (zDw _) ⟨zC,O,T⟩) O<|yO O (fun h=>h)<|G O<|zA<|zG<|zS O ?_
    exact congrArg vB (by rw [ht,bC,qK c2,c3];rfl)
   ·try simp only [sx] at c3
    refine zJ<|Y O<|zL qN (J 0 O) O<|zZ O ok54 (wR _) ⟨zC,O,T⟩<|G O<|zA<|zG<|zS O ?_
    exact congrArg vB (by rw [ht,bC,qK c2,qK c3];rfl)
theorem zGf (t:Ty) (v:Vl) (ht:bD t=true):
    Pur cfg 63 [vTy t,bJ v] (vB (bC t v)):=by
 refine zR Tryz.func63 O Tryz.ntmps63 Tryz.results63 O ?_
 intro z hz
 refine Y O<|zW O O (qB O O) ?_
 rintro _ _ ⟨b1,rfl,rfl⟩
 refine zW O O (qB O O) ?_
 rintro _ _ ⟨b2,rfl,rfl⟩
 refine G O<|zA<|zK<|Y O<|zD O zBx<|zI one3 (J 1 O) O<|qQ O<|zA<|zE O (fun c1=>?_) (fun c1=>?_)
 ·try simp only [sx] at c1
  obtain ⟨b1,b2⟩:=fixB (by rw [←wY c1];exact ht)
  refine Y O<|zD O zIm<|zI one3 (J 1 O) O<|zX O (qZ O O O ⟨by omega,by omega⟩)<|zX O (zUg O O O (by omega))<|G O<|zA<|Y O<|zD O kU<|zI U (J 0 O) O<|qQ O<|G O<|rL0 O (fun g3_3=>zF O yR O) O<|rL1 17 O (fun g3_3=>zH O U O (J 0 O) O) O<|rL0 O (fun g3_3=>zO O O) O<|rL1 19 O (fun g3_3=>zFr O O) O<|rLz [(18,_),(20,_)] O gv1 ⟨O,O,O,O,T⟩ (fun g3_3=>kB O O O) O<|yO O (fun h=>h)<|G O<|rL0 O (fun g3_10=>zF O yR O) O<|rL1 24 O (fun g3_10=>zH O U O (J 0 O) O) O<|rL0 O (fun g3_10=>zO O O) O<|rLz [(25,_),(26,_)] O gv1 ⟨O,O,O,O,T⟩ (fun g3_10=>wI O O O) O<|yO O (fun h=>h)<|G O<|zA<|zG<|zS O ?_
  exact congrArg vB (valfix c1 b1 b2)
 ·try simp only [sx] at c1
  refine zJ<|zK<|Y O<|zD O yR<|zI U (J 0 O) O<|zAf O<|G O<|rL0 O (fun g4_3=>zF O yR O) O<|rL1 33 O (fun g4_3=>zH O U O (J 0 O) O) O<|rL1 34 O (fun g4_3=>wI O O O) O<|r_or O (fun h=>(lzf h))<|G O<|rL0 O (fun g4_8=>zF O kU O) O<|rL1 38 O (fun g4_8=>zH O U O (J 0 O) O) O<|rL1 39 O (fun g4_8=>wI O O O) O<|r_or O (fun h=>(lzf h))<|G O<|rL0 O (fun g4_13=>zF O kU O) O<|rL1 43 O (fun g4_13=>zH O U O (J 0 O) O) O<|rL1 44 O (fun g4_13=>kD O O O) O<|r_or O (fun h=>(lzf h))<|zA<|zE O (fun c2=>?_) (fun c2=>?_)
  ·refine Y O<|G O<|zA<|zG<|zS O ?_
   exact congrArg vB (val_out c1 c2).symm
  ·obtain ⟨hN1,hN2,hD1,hD2⟩:=val_in c2
   refine zJ<|zK<|Y O<|zD O zBx<|zI one3 (J 1 O) O<|qQ O<|zA<|zE O (fun c3=>?_) (fun c3=>?_)
   ·try simp only [sx] at c3
    refine Y O<|zD O kU<|zI U (J 0 O) O<|qQ O<|G O<|zA<|zG<|zS O ?_
    exact congrArg vB (by rw [bC,qK c1,c3];simp [bI,hN1,hN2])
   ·try simp only [sx] at c3
    refine zJ<|Y O<|zD O yR<|zI U (J 0 O) O<|zD O yR<|zI U (J 0 O) O<|zX O (zFr O O)<|zX O (zEb O O O)<|zD O kU<|zI U (J 0 O) O<|zZ O ok104 (show Pur cfg 104 [vI (max v.N (IntKind.i64.wrap (-v.N))),vI v.D] (vI (Int.gcd v.N v.D)) from by rw [max_abs hN1 hN2,show v.D=(v.D.natAbs:Int) by omega];exact base_gcd _ _) ⟨zC,O,zC,O,T⟩<|qQ O<|G O<|zA<|zG<|zS O ?_
    exact congrArg vB (by rw [bC,qK c1,qK c3];simp [bI,hN1,hN2,hD1,hD2];omega)
theorem value_Zero (t:Ty):
    Pur cfg 44 [vTy t] (bJ (pL t)):=by
 refine zR Tryz.func44 O Tryz.ntmps44 Tryz.results44 O ?_
 intro z hz
 refine Y O<|zW O O (qB O O) ?_
 rintro _ _ ⟨b1,rfl,rfl⟩
 refine zW O O (qS O zr59) ?_
 rintro _ _ ⟨b2,rfl,rfl⟩
 refine zA<|zK<|Y O<|zL qX (J 1 O) O<|zZ O ok51 (kO _) ⟨zC,O,T⟩<|yQ O<|zA<|zE O (fun c1=>?_) (fun c1=>?_)
 ·try simp only [sx] at c1
  refine Y O<|qR O zr59 pl59<|rStR 0 W O<|zA<|zG<|fin1 (zP qN O (J 0 O) O) ?_
  rw [pL,zHl c1];rfl
 ·try simp only [sx] at c1
  refine zJ<|Y O<|qR O zr59 pl59<|rStR 0 W O<|zA<|zG<|fin1 (zP qN O (J 0 O) O) ?_
  rw [pL,zEc c1];rfl
theorem ref04_Zero (t:Ty):
    Pur cfg 57 [vTy t] (bJ (pL t)):=by
 refine zR Tryz.func57 O Tryz.ntmps57 Tryz.results57 O ?_
 intro z hz
 refine Y O<|zW O O (qB O O) ?_
 rintro _ _ ⟨b1,rfl,rfl⟩
 refine zW O O (qS O zr59) ?_
 rintro _ _ ⟨b2,rfl,rfl⟩
 refine zA<|zK<|Y O<|zL qX (J 1 O) O<|zZ O ok62 (zCv _) ⟨zC,O,T⟩<|yT O<|zA<|zE O (fun c1=>?_) (fun c1=>?_)
 ·try simp only [sx] at c1
  refine Y O<|qR O zr59 pl59<|rStR 0 W O<|zA<|zG<|fin1 (zP qN O (J 0 O) O) ?_
  rw [pL,c1];rfl
 ·try simp only [sx] at c1
  refine zJ<|Y O<|qR O zr59 pl59<|rStR 0 W O<|zA<|zG<|fin1 (zP qN O (J 0 O) O) ?_
  rw [pL,c1];rfl
end Go.W
end
section
set_option maxRecDepth 10000
namespace Go.W
open Go Go.Eng Go.Proofs Go.L41 Go.Br
attribute [local irreducible] AWP RWP TD fT
theorem zAq:lA Tryz.prog 164=some 2:=by kernel_rfl
theorem yV:lA Tryz.prog 167=some 13:=by kernel_rfl
theorem zBa:dK Tryz.prog 165=some (167,13,160):=by kernel_rfl
theorem zCf:dK Tryz.prog 193=some (164,2,32):=by kernel_rfl
theorem kR:bE Tryz.prog 167 0=some (0,3):=by kernel_rfl
theorem zDp:bE Tryz.prog 167 1=some (1,9):=by kernel_rfl
theorem zGm:bE Tryz.prog 167 2=some (2,59):=by kernel_rfl
theorem zDo:bE Tryz.prog 167 3=some (4,43):=by kernel_rfl
theorem zEr:bE Tryz.prog 167 4=some (9,164):=by kernel_rfl
theorem kQ:bE Tryz.prog 167 5=some (11,161):=by kernel_rfl
theorem zAd:bE Tryz.prog 167 6=some (12,165):=by kernel_rfl
theorem zEp:bE Tryz.prog 195 0=some (0,164):=by kernel_rfl
theorem zDb:bE Tryz.prog 195 1=some (2,9):=by kernel_rfl
theorem zBu:bE Tryz.prog 195 2=some (3,193):=by kernel_rfl
theorem fl59:flatK Tryz.prog 59=some [.int,.int]:=by kernel_rfl
theorem ok63:bA Tryz.prog 63=true:=by kernel_rfl
theorem ok113:bA Tryz.prog 113=true:=by kernel_rfl
theorem ok153:bA Tryz.prog 153=true:=by kernel_rfl
theorem ok160:bA Tryz.prog 160=true:=by kernel_rfl
theorem ok233:bA Tryz.prog 233=true:=by kernel_rfl
theorem ok234:bA Tryz.prog 234=true:=by kernel_rfl
theorem ok235:bA Tryz.prog 235=true:=by kernel_rfl
theorem ok245:bA Tryz.prog 245=true:=by kernel_rfl
theorem ok256:bA Tryz.prog 256=true:=by kernel_rfl
theorem ok257:bA Tryz.prog 257=true:=by kernel_rfl
theorem ok258:bA Tryz.prog 258=true:=by kernel_rfl
theorem ok259:bA Tryz.prog 259=true:=by kernel_rfl
theorem ok260:bA Tryz.prog 260=true:=by kernel_rfl
theorem ok261:bA Tryz.prog 261=true:=by kernel_rfl
theorem ok262:bA Tryz.prog 262=true:=by kernel_rfl
theorem ok274:bA Tryz.prog 274=true:=by kernel_rfl
theorem ok275:bA Tryz.prog 275=true:=by kernel_rfl
theorem ok276:bA Tryz.prog 276=true:=by kernel_rfl
theorem ok277:bA Tryz.prog 277=true:=by kernel_rfl
theorem ok278:bA Tryz.prog 278=true:=by kernel_rfl
theorem ok279:bA Tryz.prog 279=true:=by kernel_rfl
theorem ok280:bA Tryz.prog 280=true:=by kernel_rfl
theorem ok281:bA Tryz.prog 281=true:=by kernel_rfl
theorem ok286:bA Tryz.prog 286=true:=by kernel_rfl
theorem ok287:bA Tryz.prog 287=true:=by kernel_rfl
theorem ok288:bA Tryz.prog 288=true:=by kernel_rfl
theorem wA:jL Tryz.prog 161=true:=by kernel_rfl
theorem zBl:jL Tryz.prog 165=true:=by kernel_rfl
theorem zDv:jL Tryz.prog 193=true:=by kernel_rfl
theorem sz167:(Tryz.prog.info? 167).map (·.size)=some 13:=by kernel_rfl
theorem sz195:(Tryz.prog.info? 195).map (·.size)=some 4:=by kernel_rfl
theorem un4:Tryz.prog.underlying 4=some .bool:=by kernel_rfl
theorem zLw:dM Tryz.prog 167=some [(Value.int IntKind.i64 0),(Value.string (ByteArray.mk #[])),(Value.int IntKind.i64 0),(Value.int IntKind.i64 0),(Value.int IntKind.i64 0),(Value.int IntKind.i64 0),(Value.int IntKind.i64 0),(Value.int IntKind.i64 0),(Value.int IntKind.i64 0),(Value.int IntKind.i64 0),(Value.slice none 0 0),(Value.slice none 0 0),(Value.slice none 0 0)]:=by kernel_rfl
theorem zr195:dM Tryz.prog 195=some [(Value.int IntKind.i64 0),(Value.slice none 0 0),(Value.string (ByteArray.mk #[])),(Value.slice none 0 0)]:=by kernel_rfl
theorem expr_operands (op:Int):
    Pur cfg 279 [vI op] (vI (bK op)):=by
 refine zR Tryz.func279 O Tryz.ntmps279 Tryz.results279 O ?_
 exact o8
theorem wD (e:Ex):
    Pur cfg 153 [vE e] (vB (bO e)):=by
 refine zR Tryz.func153 O Tryz.ntmps153 Tryz.results153 O ?_
 intro z hz
 refine Y O<|zW O O (qB O O) ?_
 rintro _ _ ⟨b1,rfl,rfl⟩
 refine G O<|zA<|Y O<|zD O kR<|zI one3 (J 0 O) O<|zX O (kH O O O)<|G O<|rL0 O (fun g1_3=>zF O kR O) O<|rL1 7 O (fun g1_3=>zH O one3 O (J 0 O) O) O<|rL1 8 O (fun g1_3=>kH O O O) O<|yO O (fun h=>h)<|G O<|zA<|zG<|zS O ?_
 exact O
theorem zOy (op:Int):
    Pur cfg 286 [vI op] (vI (bK op)):=by
 refine zR Tryz.func286 O Tryz.ntmps286 Tryz.results286 O ?_
 exact o8
theorem kV (e:Ex):
    Pur cfg 160 [vE e] (vB (bO e)):=by
 refine zR Tryz.func160 O Tryz.ntmps160 Tryz.results160 O ?_
 intro z hz
 refine Y O<|zW O O (qB O O) ?_
 rintro _ _ ⟨b1,rfl,rfl⟩
 refine G O<|zA<|Y O<|zD O kR<|zI one3 (J 0 O) O<|zX O (kB O O O)<|G O<|rL0 O (fun g1_3=>zF O kR O) O<|rL1 7 O (fun g1_3=>zH O one3 O (J 0 O) O) O<|rL1 8 O (fun g1_3=>kH O O O) O<|yO O (fun h=>h)<|G O<|zA<|zG<|zS O ?_
 exact O
theorem zIu (op i:Int):
    Pur cfg 281 [vI op,vI i] (vB (fZ op i)):=by
 refine zR Tryz.func281 O Tryz.ntmps281 Tryz.results281 O ?_
 intro z hz
 refine Y O<|G O<|zA<|zK<|Y O<|G O<|zA<|zT<|zK<|Y O<|qQ O<|G O<|zA<|zE O (fun c1=>?_) (fun c1=>?_)
 ·try simp only [sx] at c1
  refine zJ<|zE O (fun c3=>?_) (fun c3=>?_)
  ·try simp only [sx] at c3
   refine Y O<|G O<|zA<|zG<|zS O ?_
   exact r7
  ·exact j6
 ·try simp only [sx] at c1
  refine Y O<|qQ O<|G O<|zA<|zE O (fun c2=>?_) (fun c2=>?_)
  ·try simp only [sx] at c2
   refine zJ<|zE O (fun c3=>?_) (fun c3=>?_)
   ·try simp only [sx] at c3
    refine Y O<|G O<|zA<|zG<|zS O ?_
    exact r7
   ·exact j6
  ·try simp only [sx] at c2
   refine zQ O<|qQ O<|G O<|zA<|zE O (fun c3=>?_) (fun c3=>?_)
   ·try simp only [sx] at c3
    refine Y O<|G O<|zA<|zG<|zS O ?_
    exact r7
   ·exact j6
theorem ref14_wants (op i:Int):
    Pur cfg 287 [vI op,vI i] (vB (fZ op i)):=by
 refine zR Tryz.func287 O Tryz.ntmps287 Tryz.results287 O ?_
 intro z hz
 refine Y O<|G O<|zA<|Y O<|G O<|qQ O<|G O<|rL0 O (fun g1_2=>zO O O) O<|rL1 8 O (fun g1_2=>yM O O O) O<|yO O (fun h=>h)<|G O<|rL0 O (fun g1_6=>zO O O) O<|rL1 12 O (fun g1_6=>yM O O O) O<|r_or O (fun h=>(lzf h))<|G O<|rL0 O (fun g1_10=>zO O O) O<|rL1 16 O (fun g1_10=>yM O O O) O<|r_or O (fun h=>(lzf h))<|G O<|rL0 O (fun g1_14=>zO O O) O<|rL1 20 O (fun g1_14=>yM O O O) O<|r_or O (fun h=>(lzf h))<|G O<|zA<|zG<|zS O ?_
 exact O
theorem zUa (l:Lf):
    Pur cfg 274 [nA l] (vB (nQ l)):=by
 refine zR Tryz.func274 O Tryz.ntmps274 Tryz.results274 O ?_
 intro z hz
 refine Y O<|zW O O (qB O O) ?_
 rintro _ _ ⟨b1,rfl,rfl⟩
 refine G O<|zA<|Y O<|zD O zLs<|zI U (J 0 O) O<|qQ O<|G O<|rL0 O (fun g1_3=>zF O zAp O) O<|rL1 7 O (fun g1_3=>zH O zCa O (J 0 O) O) O<|rL1 8 O (fun g1_3=>yH O zDs O) O<|rL1 9 O (fun g1_3=>yM O O O) O<|yO O (fun h=>h)<|G O<|zA<|zG<|zS O ?_
 exact O
theorem zTz (x:Ix):
    Pur cfg 277 [jD x] (vB (jV x)):=by
 refine zR Tryz.func277 O Tryz.ntmps277 Tryz.results277 O ?_
 intro z hz
 refine Y O<|zW O O (qB O O) ?_
 rintro _ _ ⟨b1,rfl,rfl⟩
 refine G O<|zA<|zK<|Y O<|zD O zDb<|zI one9 (J 0 O) O<|zX O (kF O O O)<|zA<|zE O (fun c1=>?_) (fun c1=>?_)
 ·try simp only [sx] at c1
  refine Y O<|zD O zBu<|zI zDv (J 0 O) O<|qC O zCf<|qQ O<|G O<|zA<|zG<|zS O ?_
  rw [jV,zAi c1];rfl
 ·try simp only [sx] at c1
  refine zJ<|Y O<|zD O zEp<|zL zAq (J 0 O) O<|zZ O ok274 (zUa x.Lin) ⟨zC,O,T⟩<|G O<|zA<|zG<|zS O ?_
  rw [jV,qK c1];rfl
theorem expr_syntax_1 (x:Ix):
    Pur cfg 276 [jD x] (vB (!jV x)):=by
 refine zR Tryz.func276 O Tryz.ntmps276 Tryz.results276 O ?_
 intro z hz
 refine Y O<|zW O O (qB O O) ?_
 rintro _ _ ⟨b1,rfl,rfl⟩
 refine G O<|zA<|Y O<|zL zIp (J 0 O) O<|zZ O ok277 (zTz x) ⟨zC,O,T⟩<|yT O<|G O<|zA<|zG<|zS O ?_
 exact O
theorem expr_names_1 (x:Ix):
    Pur cfg 278 [jD x] (vB (!sI x)):=by
 refine zR Tryz.func278 O Tryz.ntmps278 Tryz.results278 O ?_
 intro z hz
 refine Y O<|zW O O (qB O O) ?_
 rintro _ _ ⟨b1,rfl,rfl⟩
 refine G O<|zA<|Y O<|zD O zDb<|zI one9 (J 0 O) O<|zX O (zEe O O O)<|G O<|rL0 O (fun g1_3=>zF O zDb O) O<|rL1 7 O (fun g1_3=>zH O one9 O (J 0 O) O) O<|rL1 8 O (fun g1_3=>qE O ok113 (zFw _) ⟨zC,O,T⟩) O<|rL1 9 O (fun g1_3=>kA O O) O<|yO O (fun h=>h)<|G O<|zA<|zG<|zS O ?_
 exact congrArg vB (by unfold sI;simp)
theorem expr_rank_1 (x:Ix):
    Pur cfg 280 [jD x] (vB (!sD x)):=by
 refine zR Tryz.func280 O Tryz.ntmps280 Tryz.results280 O ?_
 intro z hz
 refine Y O<|zW O O (qB O O) ?_
 rintro _ _ ⟨b1,rfl,rfl⟩
 refine G O<|zA<|Y O<|zD O zBu<|zI zDv (J 0 O) O<|qC O zCf<|zAf O<|G O<|zA<|zG<|zS O ?_
 exact congrArg vB (by unfold sD;simp)
theorem expr_syntax (e:Ex) (he:e.wt<=6000000000000):
    Pur cfg 246 [vE e] (vB (hY e)):=by
 refine zR Tryz.func246 O Tryz.ntmps246 Tryz.results246 O ?_
 intro z hz
 obtain ⟨hL,hI,hA⟩:=e.parts he
 refine Y O<|zW O O (qB O O) ?_
 rintro _ _ ⟨b1,rfl,rfl⟩
 refine G O<|zA<|zK<|qV 13 mixed (by kernel_rfl) O O<|zN O O (zF O kR O)<|zN O O (zH O one3 O (J 0 O) O)<|zN O O (yM O O O)<|zN O O (zF O kR O)<|zN O O (zH O one3 O (J 0 O) O)<|zN O O (yM O O O)<|zN O O (zO O O)<|qO [] O O O O gv1 T (fun g1_6=>zF O kR O) O<|qO [(14,_)] O O O O gv1 ⟨O,O,T⟩ (fun g1_6=>zH O one3 O (J 0 O) O) O<|qO [(15,_)] O O O O gv1 ⟨O,O,T⟩ (fun g1_6=>yM O O O) O<|zN O O (zAl O O O O (fun h=>(lzf h)))<|zN O O (yE O O)<|zN O O (yE O O)<|yK<|zA<|zK<|qV 8 mixed (by kernel_rfl) O O<|zN O O (zF O kR O)<|zN O O (zH O one3 O (J 0 O) O)<|zN O O (yM O O O)<|zN O O (zF O kR O)<|zN O O (zH O one3 O (J 0 O) O)<|zN O O (yM O O O)<|zN O O (yE O O)<|zN O O (yE O O)<|yK<|zA<|zK<|zT<|Y O<|zD O kR<|zI one3 (J 0 O) O<|yF O<|G O<|rL0 O (fun g3_3=>zF O kR O) O<|rL1 29 O (fun g3_3=>zH O one3 O (J 0 O) O) O<|rL1 30 O (fun g3_3=>kD O O O) O<|r_or O (fun h=>(lzf h))<|G O<|zA<|zE O (fun c1=>?_) (fun c1=>?_)
 ·refine Y O<|G O<|zA<|zG<|zS O ?_
  exact congrArg vB (by simp only [hY,c1,Bool.not_true,Bool.not_false,Bool.true_and,Bool.and_true,Bool.false_and,Bool.and_false])
 ·refine Y O<|G O<|yT O<|G O<|rL0 O (fun g5_2=>zF O zGm O) O<|rL1 37 O (fun g5_2=>zV O qN O (J 0 O) O) O<|rL0 O (fun g5_2=>zBp O zr59 pl59 O) O<|rLz [(38,_),(39,_)] O gv1 ⟨O,O,O,O,T⟩ (fun g5_2=>zAu O fl59 O O O) O<|yO O (fun h=>h)<|G O<|zA<|zE O (fun c2=>?_) (fun c2=>?_)
  ·have c2:(!decide (e.Op=1)&& !rB e.Val)=true:=c2
   refine Y O<|G O<|zA<|zG<|zS O ?_
   exact congrArg vB (by simp only [hY,c2,Bool.not_true,Bool.not_false,Bool.true_and,Bool.and_true,Bool.false_and,Bool.and_false])
  ·have c2:(!decide (e.Op=1)&& !rB e.Val)=false:=c2
   refine Y O<|G O<|yT O<|G O<|rL0 O (fun g7_2=>zF O zDo O) O<|rL1 46 O (fun g7_2=>zV O qX O (J 0 O) O) O<|rL0 O (fun g7_2=>zBp O zr43 pl43 O) O<|rLz [(47,_),(48,_)] O gv1 ⟨O,O,O,O,T⟩ (fun g7_2=>zAu O fl43 O O O) O<|yO O (fun h=>h)<|G O<|zA<|zE O (fun c3=>?_) (fun c3=>?_)
   ·have c3:(!(decide (e.Op=1)||decide (e.Op=12))&& !ty0 e.Ty)=true:=c3
    refine Y O<|G O<|zA<|zG<|zS O ?_
    exact congrArg vB (by simp only [hY,c3,Bool.not_true,Bool.not_false,Bool.true_and,Bool.and_true,Bool.false_and,Bool.and_false])
   ·have c3:(!(decide (e.Op=1)||decide (e.Op=12))&& !ty0 e.Ty)=false:=c3
    refine Y O<|G O<|yT O<|G O<|rL0 O (fun g9_2=>zF O zEr O) O<|rL1 55 O (fun g9_2=>zV O zAq O (J 0 O) O) O<|rL1 56 O (fun g9_2=>qE O ok274 (zUa e.Lin) ⟨zC,O,T⟩) O<|rL1 57 O (fun g9_2=>kA O O) O<|yO O (fun h=>h)<|G O<|zA<|zE O (fun c4=>?_) (fun c4=>?_)
    ·refine Y O<|G O<|zA<|zG<|zS O ?_
     exact congrArg vB (by simp only [hY,c4,Bool.not_true,Bool.not_false,Bool.true_and,Bool.and_true,Bool.false_and,Bool.and_false])
    ·refine Y O<|G O<|yT O<|G O<|rL0 O (fun g11_2=>zF O zDp O) O<|rL1 64 O (fun g11_2=>zH O one9 O (J 0 O) O) O<|rL1 65 O (fun g11_2=>zEe O O O) O<|rL1 66 O (fun g11_2=>zO O O) O<|rLz [] O A T (fun g11_6=>zF O kQ O) O<|rLz [(68,_)] O A ⟨O,O,T⟩ (fun g11_6=>zH O wA O (J 0 O) O) O<|rLz [(69,_)] O A ⟨O,O,T⟩ (fun g11_6=>yH O wU O) O<|rLz [(70,_)] O A ⟨O,O,T⟩ (fun g11_6=>kD O O O) O<|rL1 67 O (fun g11_2=>zAl O O O O (fun h=>kC (by assumption) (lzf h))) O<|yO O (fun h=>h)<|G O<|zA<|zE O (fun c5=>?_) (fun c5=>?_)
     ·refine Y O<|G O<|zA<|zG<|zS O ?_
      exact congrArg vB (by simp only [hY,c5,Bool.not_true,Bool.not_false,Bool.true_and,Bool.and_true,Bool.false_and,Bool.and_false])
     ·refine zJ<|Y O<|zD O kQ<|zI wA (J 0 O) O<|zZ O ok275 (zBs e.Idx _ (fun x=> !jV x) hI (fun x _=>FnPur.of_pur (first:=[]) (cap:=[]) ok276 (expr_syntax_1 x))) ⟨zC,O,zC,O,T⟩<|yT O<|G O<|zA<|zG<|zS O ?_
      exact congrArg vB (by rw [zJo];simp only [hY,c1,c2,c3,c4,c5,Bool.not_true,Bool.not_false,Bool.true_and,Bool.and_true,Bool.false_and,Bool.and_false])
theorem expr_names (e:Ex) (he:e.wt<=6000000000000):
    Pur cfg 247 [vE e] (vB (lP e)):=by
 refine zR Tryz.func247 O Tryz.ntmps247 Tryz.results247 O ?_
 intro z hz
 obtain ⟨hL,hI,hA⟩:=e.parts he
 refine Y O<|zW O O (qB O O) ?_
 rintro _ _ ⟨b1,rfl,rfl⟩
 refine G O<|zA<|zK<|Y O<|zD O kR<|zI one3 (J 0 O) O<|qQ O<|G O<|rL0 O (fun g1_3=>zF O zDp O) O<|rL1 7 O (fun g1_3=>zH O one9 O (J 0 O) O) O<|rL1 8 O (fun g1_3=>qE O ok113 (zFw _) ⟨zC,O,T⟩) O<|rL1 9 O (fun g1_3=>kA O O) O<|yO O (fun h=>h)<|zA<|zE O (fun c1=>?_) (fun c1=>?_)
 ·refine Y O<|G O<|zA<|zG<|zS O ?_
  exact congrArg vB (by simp only [lP,c1,Bool.not_true,Bool.false_and])
 ·refine zJ<|Y O<|zD O kQ<|zI wA (J 0 O) O<|zZ O ok275 (zBs e.Idx _ (fun x=> !sI x) hI (fun x _=>FnPur.of_pur (first:=[]) (cap:=[]) ok278 (expr_names_1 x))) ⟨zC,O,zC,O,T⟩<|yT O<|G O<|zA<|zG<|zS O ?_
  exact congrArg vB (by rw [zJo];simp only [lP,c1,Bool.not_false,Bool.true_and])
theorem expr_rank (e:Ex) (he:e.wt<=6000000000000):
    Pur cfg 248 [vE e] (vB (mS e)):=by
 refine zR Tryz.func248 O Tryz.ntmps248 Tryz.results248 O ?_
 intro z hz
 obtain ⟨hL,hI,hA⟩:=e.parts he
 refine Y O<|zW O O (qB O O) ?_
 rintro _ _ ⟨b1,rfl,rfl⟩
 refine G O<|zA<|zK<|zK<|qV 13 mixed (by kernel_rfl) O O<|zN O O (zF O zAd O)<|zN O O (zH O zBl O (J 0 O) O)<|zN O O (yH O zBa O)<|zN O O (zF O kR O)<|zN O O (zH O one3 O (J 0 O) O)<|zN O O (qE O ok279 (expr_operands _) ⟨zC,O,T⟩)<|zN O O (kT O O O)<|zN O O (zO O O)<|qO [] O O O O gv1 T (fun g1_7=>zF O kQ O) O<|qO [(11,_)] O O O O gv1 ⟨O,O,T⟩ (fun g1_7=>zH O wA O (J 0 O) O) O<|qO [(12,_)] O O O O gv1 ⟨O,O,T⟩ (fun g1_7=>yH O wU O) O<|qO [(13,_)] O O O O gv1 ⟨O,O,T⟩ (fun g1_7=>kD O O O) O<|zN O O (zAl O O O O (fun h=>(lzf h)))<|yK<|zA<|zE O (fun c1=>?_) (fun c1=>?_)
 ·refine Y O<|G O<|zA<|zG<|zS O ?_
  exact congrArg vB (by simp only [mS,c1,Bool.not_true,Bool.false_and])
 ·refine zJ<|Y O<|zD O kQ<|zI wA (J 0 O) O<|zZ O ok275 (zBs e.Idx _ (fun x=> !sD x) hI (fun x _=>FnPur.of_pur (first:=[]) (cap:=[]) ok280 (expr_rank_1 x))) ⟨zC,O,zC,O,T⟩<|yT O<|G O<|zA<|zG<|zS O ?_
  exact congrArg vB (by rw [zJo];simp only [mS,c1,Bool.not_false,Bool.true_and])
theorem expr_types (e:Ex) (he:e.wt<=6000000000000):
    Pur cfg 249 [vE e] (vB (gU e)):=by
 refine zR Tryz.func249 O Tryz.ntmps249 Tryz.results249 O ?_
 intro z hz
 obtain ⟨hL,hI,hA⟩:=e.parts he
 refine Y O<|zW O O (qB O O) ?_
 rintro _ _ ⟨b1,rfl,rfl⟩
 refine G O<|zA<|zK<|Y O<|zD O kR<|zI one3 (J 0 O) O<|qQ O<|G O<|rL0 O (fun g1_3=>zF O kR O) O<|rL1 9 O (fun g1_3=>zH O one3 O (J 0 O) O) O<|rL1 10 O (fun g1_3=>yM O O O) O<|r_or O (fun h=>(lzf h))<|G O<|rL0 O (fun g1_8=>zF O zDo O) O<|rL1 14 O (fun g1_8=>zV O qX O (J 0 O) O) O<|rL1 15 O (fun g1_8=>qE O ok51 (kO _) ⟨zC,O,T⟩) O<|rL1 16 O (fun g1_8=>kT O O O) O<|yO O (fun h=>h)<|zA<|zE O (fun c1=>?_) (fun c1=>?_)
 ·rw [tyErr_dec] at c1
  refine Y O<|G O<|zA<|zG<|zS O ?_
  exact congrArg vB (by simp only [gU,c1,Bool.not_true,Bool.false_and])
 ·rw [tyErr_dec] at c1
  refine zJ<|zK<|Y O<|zD O zAd<|zI zBl (J 0 O) O<|qC O zBa<|G O<|zA<|zT<|zY ⟨[(22,.c _),(1,.c _),(20,.c _),(21,.c _)],[_]⟩ (Weak.mk [true] ⟨zC,zC,zC,zC,T⟩ O)<|qG 1 0 O O (Nat) (fun k=>[(22,vI k)]) (fun k=>[]) (fun k=>k<=e.Args.length/\(fV e.Op 0 e.Args=fV e.Op k (e.Args.drop k))) (fun k=>e.Args.length-k) ⟨0,⟨by omega,O⟩,Weak.mk [true] ⟨zC,zC,zC,zC,T⟩ O⟩ ?_
  rintro k ⟨hk,hp⟩
  refine Y O<|yF O<|zA<|zK<|zE O (fun c2=>?_) (fun c2=>?_)
  ·try simp only [sx] at c2
   obtain ⟨a,ha⟩:=yC e.Args k (by omega)
   refine zJ<|zK<|zT<|Y O<|G O<|qI O zBa (by omega) (zJt (by assumption))<|zL yV qD O<|zW O O (qT [none,none,none,none,none,none,none,none,none,none,some 2,some 4,some 13] O zLw O) ?_
   rintro _ _ ⟨b2,rfl,rfl⟩
   refine G O<|rStR 0 sz167 O<|zA<|zK<|qV 7 mixed (by kernel_rfl) O O<|zN O O (zV O yV O (J 0 O) O)<|zN O O (qE O ok153 (wD a) ⟨zC,O,T⟩)<|zN O O (zF O kR O)<|zN O O (zH O one3 O (J 1 O) O)<|zN O O (zO O O)<|zN O O (qE O ok281 (zIu _ _) ⟨zC,O,zC,O,T⟩)<|zN O O (zKo O un4 O O)<|yK<|zA<|zE O (fun c3=>?_) (fun c3=>?_)
   ·exact v50
   ·refine zJ<|zQ O<|qF O ⟨by omega,by omega⟩<|G O<|zA ?_
    refine ⟨k+1,⟨by omega,(by rw [hp,yA ha,fV,show (bO a==fZ e.Op k)=true by simpa using c3,Bool.true_and];rfl)⟩,(by omega),Weak.mk [false,true] ⟨zC,zC,zC,zC,T⟩ O⟩
  ·try simp only [sx] at c2
   refine qM<|Y O<|G O<|zA<|zG<|zS O ?_
   exact congrArg vB (by simp only [gU,c1,Bool.not_false,Bool.true_and];rw [hp,wE (by omega)];rfl)
theorem ref14_typed (e:Ex) (he:e.wt<=6000000000000):
    Pur cfg 261 [vE e] (vB (gU e)):=by
 refine zR Tryz.func261 O Tryz.ntmps261 Tryz.results261 O ?_
 intro z hz
 obtain ⟨hL,hI,hA⟩:=e.parts he
 refine Y O<|zW O O (qB O O) ?_
 rintro _ _ ⟨b1,rfl,rfl⟩
 refine G O<|zA<|zK<|Y O<|zD O kR<|zI one3 (J 0 O) O<|qQ O<|G O<|rL0 O (fun g1_3=>zF O kR O) O<|rL1 8 O (fun g1_3=>zH O one3 O (J 0 O) O) O<|rL1 9 O (fun g1_3=>yM O O O) O<|r_or O (fun h=>(lzf h))<|G O<|rL0 O (fun g1_8=>zF O zDo O) O<|rL1 13 O (fun g1_8=>zV O qX O (J 0 O) O) O<|rL1 14 O (fun g1_8=>qE O ok62 (zCv _) ⟨zC,O,T⟩) O<|rL1 15 O (fun g1_8=>kA O O) O<|yO O (fun h=>h)<|zA<|zE O (fun c1=>?_) (fun c1=>?_)
 ·refine Y O<|G O<|zA<|zG<|zS O ?_
  exact congrArg vB (by simp only [gU,c1,Bool.not_true,Bool.false_and])
 ·refine zJ<|zK<|Y O<|G O<|zA<|zT<|zY ⟨[(3,.c _),(1,.c _)],[_]⟩ (Weak.mk [true] ⟨zC,zC,T⟩ O)<|qG 1 0 O O (Nat) (fun k=>[(3,vI k)]) (fun k=>[]) (fun k=>k<=e.Args.length/\(fV e.Op 0 e.Args=fV e.Op k (e.Args.drop k))) (fun k=>e.Args.length-k) ⟨0,⟨by omega,O⟩,Weak.mk [true] ⟨zC,zC,T⟩ O⟩ ?_
  rintro k ⟨hk,hp⟩
  refine zK<|Y O<|G O<|zD O zAd<|zI zBl (J 0 O) O<|qC O zBa<|yF O<|zA<|zE O (fun c2=>?_) (fun c2=>?_)
  ·try simp only [sx] at c2
   obtain ⟨a,ha⟩:=yC e.Args k (by omega)
   refine zJ<|zK<|zT<|zK<|qV 11 mixed (by kernel_rfl) O O<|zN O O (zF O zAd O)<|zN O O (zH O zBl O (J 0 O) O)<|zN O O (zO O O)<|zN O O (qH O zBa O O (by omega) (zJt (by assumption)))<|zN O O (zV O yV O qD O)<|zN O O (qE O ok160 (kV a) ⟨zC,O,T⟩)<|zN O O (zF O kR O)<|zN O O (zH O one3 O (J 0 O) O)<|zN O O (zO O O)<|zN O O (qE O ok287 (ref14_wants _ _) ⟨zC,O,zC,O,T⟩)<|zN O O (zKo O un4 O O)<|yK<|zA<|zE O (fun c3=>?_) (fun c3=>?_)
   ·exact v50
   ·refine zJ<|zQ O<|G O<|qF O ⟨by omega,by omega⟩<|G O<|zA ?_
    refine ⟨k+1,⟨by omega,(by rw [hp,yA ha,fV,show (bO a==fZ e.Op k)=true by simpa using c3,Bool.true_and];rfl)⟩,(by omega),Weak.mk [true] ⟨zC,zC,T⟩ O⟩
  ·try simp only [sx] at c2
   refine qM<|Y O<|G O<|zA<|zG<|zS O ?_
   exact congrArg vB (by simp only [gU,c1,Bool.not_false,Bool.true_and];rw [hp,wE (by omega)];rfl)
theorem ref14_plain (e:Ex) (he:e.wt<=6000000000000):
    Pur cfg 258 [vE e] (vB (hY e)):=by
 refine zR Tryz.func258 O Tryz.ntmps258 Tryz.results258 O ?_
 intro z hz
 obtain ⟨hL,hI,hA⟩:=e.parts he
 refine Y O<|zW O O (qB O O) ?_
 rintro _ _ ⟨b1,rfl,rfl⟩
 refine G O<|zA<|zK<|Y O<|zD O kR<|zI one3 (J 0 O) O<|yF O<|G O<|rL0 O (fun g1_3=>zF O kR O) O<|rL1 9 O (fun g1_3=>zH O one3 O (J 0 O) O) O<|rL1 10 O (fun g1_3=>kD O O O) O<|r_or O (fun h=>(lzf h))<|zA<|zE O (fun c1=>?_) (fun c1=>?_)
 ·refine Y O<|G O<|zA<|zG<|zS O ?_
  exact congrArg vB (by simp only [hY,c1,Bool.not_true,Bool.false_and])
 ·refine zJ<|zK<|Y O<|zD O kR<|zI one3 (J 0 O) O<|yQ O<|G O<|rL0 O (fun g3_3=>zF O zGm O) O<|rL1 17 O (fun g3_3=>zV O qN O (J 0 O) O) O<|rL0 O (fun g3_3=>zBp O zr59 pl59 O) O<|rLz [(18,_),(19,_)] O gv1 ⟨O,O,O,O,T⟩ (fun g3_3=>zAu O fl59 O O O) O<|yO O (fun h=>h)<|G O<|rL0 O (fun g3_9=>zF O kR O) O<|rL1 23 O (fun g3_9=>zH O one3 O (J 0 O) O) O<|rL1 24 O (fun g3_9=>kT O O O) O<|rL1 25 O (fun g3_9=>zO O O) O<|rLz [] O A T (fun g3_13=>zF O kR O) O<|rLz [(27,_)] O A ⟨O,O,T⟩ (fun g3_13=>zH O one3 O (J 0 O) O) O<|rLz [(28,_)] O A ⟨O,O,T⟩ (fun g3_13=>kT O O O) O<|rL1 26 O (fun g3_9=>wF O O O (fun h=>kC (by assumption) h) O) O<|rL1 30 O (fun g3_9=>zO O O) O<|rLz [] O A T (fun g3_18=>zF O zDo O) O<|rLz [(32,_)] O A ⟨O,O,T⟩ (fun g3_18=>zV O qX O (J 0 O) O) O<|rLz [] O A T (fun g3_18=>zBp O zr43 pl43 O) O<|rLz [(33,_),(34,_)] O A ⟨O,O,O,O,T⟩ (fun g3_18=>zAu O fl43 O O O) O<|rL1 31 O (fun g3_9=>wF O O O (fun h=>kC (by assumption) h) O) O<|r_or O (fun h=>(lzf h))<|zA<|zE O (fun c2=>?_) (fun c2=>?_)
  ·have h2:=plain2 (e:=e) c2
   refine Y O<|G O<|zA<|zG<|zS O ?_
   exact congrArg vB (syn2 h2)
  ·have h2:=plain2 (e:=e) c2
   refine zJ<|zK<|Y O<|zD O kR<|zI one3 (J 0 O) O<|yQ O<|G O<|rL0 O (fun g5_3=>zF O zEr O) O<|rL1 42 O (fun g5_3=>zF O zLs O) O<|rL1 43 O (fun g5_3=>zH O U O (J 0 O) O) O<|rL1 44 O (fun g5_3=>kT O O O) O<|rL1 45 O (fun g5_3=>zO O O) O<|rLz [] O A T (fun g5_8=>zF O zEr O) O<|rLz [(47,_)] O A ⟨O,O,T⟩ (fun g5_8=>zF O zAp O) O<|rLz [(48,_)] O A ⟨O,O,T⟩ (fun g5_8=>zH O zCa O (J 0 O) O) O<|rLz [(49,_)] O A ⟨O,O,T⟩ (fun g5_8=>yH O zDs O) O<|rLz [(50,_)] O A ⟨O,O,T⟩ (fun g5_8=>kD O O O) O<|rL1 46 O (fun g5_3=>zAl O O O O (fun h=>kC (by assumption) (lzf h))) O<|yO O (fun h=>h)<|G O<|rL0 O (fun g5_16=>zF O kR O) O<|rL1 55 O (fun g5_16=>zH O one3 O (J 0 O) O) O<|rL1 56 O (fun g5_16=>kT O O O) O<|rL1 57 O (fun g5_16=>zO O O) O<|rLz [] O A T (fun g5_20=>zF O zDp O) O<|rLz [(59,_)] O A ⟨O,O,T⟩ (fun g5_20=>zH O one9 O (J 0 O) O) O<|rLz [(60,_)] O A ⟨O,O,T⟩ (fun g5_20=>zEe O O O) O<|rLz [(61,_)] O A ⟨O,O,T⟩ (fun g5_20=>zO O O) O<|rLz [] O A T (fun g5_24=>zF O kQ O) O<|rLz [(63,_)] O A ⟨O,O,T⟩ (fun g5_24=>zH O wA O (J 0 O) O) O<|rLz [(64,_)] O A ⟨O,O,T⟩ (fun g5_24=>yH O wU O) O<|rLz [(65,_)] O A ⟨O,O,T⟩ (fun g5_24=>kD O O O) O<|rLz [(62,_)] O A ⟨O,O,T⟩ (fun g5_20=>zAl O O O O (fun h=>kC (by assumption) (lzf h))) O<|rL1 58 O (fun g5_16=>wF O O O (fun h=>kC (by assumption) h) O) O<|r_or O (fun h=>(lzf h))<|zA<|zE O (fun c3=>?_) (fun c3=>?_)
   ·have h3:=plain3 (e:=e) c3
    refine Y O<|G O<|zA<|zG<|zS O ?_
    exact congrArg vB (syn3 h3)
   ·have h3:=plain3 (e:=e) c3
    refine zJ<|zK<|Y O<|G O<|zA<|zT<|zY ⟨[(3,.c _),(1,.c _)],[_]⟩ (Weak.mk [true] ⟨zC,zC,T⟩ O)<|qG 1 0 O O (Nat) (fun k=>[(3,vI k)]) (fun k=>[]) (fun k=>k<=e.Idx.length/\(e.Idx.all jV=(e.Idx.drop k).all jV)) (fun k=>e.Idx.length-k) ⟨0,⟨by omega,O⟩,Weak.mk [true] ⟨zC,zC,T⟩ O⟩ ?_
    rintro k ⟨hk,hp⟩
    refine zK<|Y O<|G O<|zD O kQ<|zI wA (J 0 O) O<|qC O wU<|yF O<|zA<|zE O (fun c4=>?_) (fun c4=>?_)
    ·try simp only [sx] at c4
     obtain ⟨x,hx⟩:=yC e.Idx k (by omega)
     refine zJ<|zK<|zT<|Y O<|zD O kQ<|zI wA (J 0 O) O<|G O<|qI O wU (by omega) (D (by assumption))<|zL zIp qD O<|zW O O (qT [none,some 2,none,some 2] O zr195 O) ?_
     rintro _ _ ⟨b2,rfl,rfl⟩
     refine rStR 0 sz195 O<|zA<|Y O<|zD O zDb<|zI one9 (J 0 O) O<|zX O (kF O O O)<|G O<|rL0 O (fun g11_3=>zF O zBu O) O<|rL1 86 O (fun g11_3=>zH O zDv O (J 0 O) O) O<|rL1 87 O (fun g11_3=>yH O zCf O) O<|rL1 88 O (fun g11_3=>kD O O O) O<|yO O (fun h=>h)<|G O<|rL0 O (fun g11_9=>zF O zDb O) O<|rL1 92 O (fun g11_9=>zH O one9 O (J 0 O) O) O<|rL1 93 O (fun g11_9=>zEe O O O) O<|rL1 94 O (fun g11_9=>zO O O) O<|rLz [] O A T (fun g11_13=>zF O zEp O) O<|rLz [(96,_)] O A ⟨O,O,T⟩ (fun g11_13=>zF O zLs O) O<|rLz [(97,_)] O A ⟨O,O,T⟩ (fun g11_13=>zH O U O (J 0 O) O) O<|rLz [(98,_)] O A ⟨O,O,T⟩ (fun g11_13=>kT O O O) O<|rLz [(99,_)] O A ⟨O,O,T⟩ (fun g11_13=>zO O O) O<|rLz [] O A T (fun g11_18=>zF O zEp O) O<|rLz [(101,_)] O A ⟨O,O,T⟩ (fun g11_18=>zF O zAp O) O<|rLz [(102,_)] O A ⟨O,O,T⟩ (fun g11_18=>zH O zCa O (J 0 O) O) O<|rLz [(103,_)] O A ⟨O,O,T⟩ (fun g11_18=>yH O zDs O) O<|rLz [(104,_)] O A ⟨O,O,T⟩ (fun g11_18=>kD O O O) O<|rLz [(100,_)] O A ⟨O,O,T⟩ (fun g11_13=>zAl O O O O (fun h=>kC (by assumption) (lzf h))) O<|rL1 95 O (fun g11_9=>wF O O O (fun h=>kC (by assumption) h) O) O<|r_or O (fun h=>(lzf h))<|zA<|zE O (fun c5=>?_) (fun c5=>?_)
     ·have h5:=well_dec (x:=x) c5
      refine Y O<|G O<|zA<|zG<|zS O ?_
      exact congrArg vB (by rw [hY,zIo hx (p:=jV) (by simpa using h5)];simp)
     ·have h5:=well_dec (x:=x) c5
      refine zJ<|zQ O<|G O<|qF O ⟨by omega,by omega⟩<|G O<|zA ?_
      refine ⟨k+1,⟨by omega,zRi hx hp (by simpa using h5)⟩,(by omega),Weak.mk [false,true] ⟨zC,zC,T⟩ O⟩
    ·try simp only [sx] at c4
     refine qM<|Y O<|G O<|zA<|zG<|zS O ?_
     exact congrArg vB (syn5 c1 h2 h3 (all_end hp (by omega)))
theorem ref14_named (e:Ex) (he:e.wt<=6000000000000):
    Pur cfg 259 [vE e] (vB (lP e)):=by
 refine zR Tryz.func259 O Tryz.ntmps259 Tryz.results259 O ?_
 intro z hz
 obtain ⟨hL,hI,hA⟩:=e.parts he
 refine Y O<|zW O O (qB O O) ?_
 rintro _ _ ⟨b1,rfl,rfl⟩
 refine G O<|zA<|zK<|Y O<|zD O kR<|zI one3 (J 0 O) O<|qQ O<|G O<|rL0 O (fun g1_3=>zF O zDp O) O<|rL1 8 O (fun g1_3=>zH O one9 O (J 0 O) O) O<|rL1 9 O (fun g1_3=>qE O ok120 (zKa _) ⟨zC,O,T⟩) O<|rL1 10 O (fun g1_3=>kA O O) O<|yO O (fun h=>h)<|zA<|zE O (fun c1=>?_) (fun c1=>?_)
 ·refine Y O<|G O<|zA<|zG<|zS O ?_
  exact congrArg vB (by simp only [lP,c1,Bool.not_true,Bool.false_and])
 ·refine zJ<|zK<|Y O<|G O<|zA<|zT<|zY ⟨[(3,.c _),(1,.c _)],[_]⟩ (Weak.mk [true] ⟨zC,zC,T⟩ O)<|qG 1 0 O O (Nat) (fun k=>[(3,vI k)]) (fun k=>[]) (fun k=>k<=e.Idx.length/\(e.Idx.all sI=(e.Idx.drop k).all sI)) (fun k=>e.Idx.length-k) ⟨0,⟨by omega,O⟩,Weak.mk [true] ⟨zC,zC,T⟩ O⟩ ?_
  rintro k ⟨hk,hp⟩
  refine zK<|Y O<|G O<|zD O kQ<|zI wA (J 0 O) O<|qC O wU<|yF O<|zA<|zE O (fun c2=>?_) (fun c2=>?_)
  ·try simp only [sx] at c2
   obtain ⟨x,hx⟩:=yC e.Idx k (by omega)
   refine zJ<|zK<|zT<|Y O<|zD O kQ<|zI wA (J 0 O) O<|G O<|qI O wU (by omega) (D (by assumption))<|yB O zDb<|zI one9 qD O<|zX O (zEe O O O)<|G O<|rL0 O (fun g6_7=>zF O kQ O) O<|rL1 28 O (fun g6_7=>zH O wA O (J 0 O) O) O<|rL0 O (fun g6_7=>zO O O) O<|rLz [(29,_),(30,_)] O gv1 ⟨O,O,O,O,T⟩ (fun g6_7=>qH O wU O O (by omega) (D (by assumption))) O<|rL1 31 O (fun g6_7=>qU O zDb O) O<|rL1 32 O (fun g6_7=>zH O one9 O qD O) O<|rL1 33 O (fun g6_7=>qE O ok120 (zKa _) ⟨zC,O,T⟩) O<|rL1 34 O (fun g6_7=>kA O O) O<|yO O (fun h=>h)<|zA<|zE O (fun c3=>?_) (fun c3=>?_)
   ·refine Y O<|G O<|zA<|zG<|zS O ?_
    exact congrArg vB (by rw [lP,zIo hx (p:=sI) (by unfold sI;rw [c3];rfl)];simp)
   ·refine zJ<|zQ O<|G O<|qF O ⟨by omega,by omega⟩<|G O<|zA ?_
    refine ⟨k+1,⟨by omega,zRi hx hp (by unfold sI;rw [c3];rfl)⟩,(by omega),Weak.mk [true] ⟨zC,zC,T⟩ O⟩
  ·try simp only [sx] at c2
   refine qM<|Y O<|G O<|zA<|zG<|zS O ?_
   exact congrArg vB (by rw [lP,c1,all_end hp (by omega)];rfl)
theorem ref14_ranked (e:Ex) (he:e.wt<=6000000000000):
    Pur cfg 260 [vE e] (vB (mS e)):=by
 refine zR Tryz.func260 O Tryz.ntmps260 Tryz.results260 O ?_
 intro z hz
 obtain ⟨hL,hI,hA⟩:=e.parts he
 refine Y O<|zW O O (qB O O) ?_
 rintro _ _ ⟨b1,rfl,rfl⟩
 refine G O<|zA<|zK<|zK<|qV 13 mixed (by kernel_rfl) O O<|zN O O (zF O zAd O)<|zN O O (zH O zBl O (J 0 O) O)<|zN O O (yH O zBa O)<|zN O O (zF O kR O)<|zN O O (zH O one3 O (J 0 O) O)<|zN O O (qE O ok286 (zOy _) ⟨zC,O,T⟩)<|zN O O (kT O O O)<|zN O O (zO O O)<|qO [] O O O O gv1 T (fun g1_7=>zF O kQ O) O<|qO [(12,_)] O O O O gv1 ⟨O,O,T⟩ (fun g1_7=>zH O wA O (J 0 O) O) O<|qO [(13,_)] O O O O gv1 ⟨O,O,T⟩ (fun g1_7=>yH O wU O) O<|qO [(14,_)] O O O O gv1 ⟨O,O,T⟩ (fun g1_7=>kD O O O) O<|zN O O (zAl O O O O (fun h=>(lzf h)))<|yK<|zA<|zE O (fun c1=>?_) (fun c1=>?_)
 ·refine Y O<|G O<|zA<|zG<|zS O ?_
  exact congrArg vB (by simp only [mS,c1,Bool.not_true,Bool.false_and])
 ·refine zJ<|zK<|Y O<|G O<|zA<|zT<|zY ⟨[(3,.c _),(1,.c _)],[_]⟩ (Weak.mk [true] ⟨zC,zC,T⟩ O)<|qG 1 0 O O (Nat) (fun k=>[(3,vI k)]) (fun k=>[]) (fun k=>k<=e.Idx.length/\(e.Idx.all sD=(e.Idx.drop k).all sD)) (fun k=>e.Idx.length-k) ⟨0,⟨by omega,O⟩,Weak.mk [true] ⟨zC,zC,T⟩ O⟩ ?_
  rintro k ⟨hk,hp⟩
  refine zK<|Y O<|G O<|zD O kQ<|zI wA (J 0 O) O<|qC O wU<|yF O<|zA<|zE O (fun c2=>?_) (fun c2=>?_)
  ·try simp only [sx] at c2
   obtain ⟨x,hx⟩:=yC e.Idx k (by omega)
   refine zJ<|zK<|zT<|Y O<|zD O kQ<|zI wA (J 0 O) O<|G O<|qI O wU (by omega) (D (by assumption))<|yB O zBu<|zI zDv qD O<|qC O zCf<|zAf O<|zA<|zE O (fun c3=>?_) (fun c3=>?_)
   ·refine Y O<|G O<|zA<|zG<|zS O ?_
    exact congrArg vB (by rw [mS,zIo hx (p:=sD) (by unfold sD;rw [c3];rfl)];simp)
   ·refine zJ<|zQ O<|G O<|qF O ⟨by omega,by omega⟩<|G O<|zA ?_
    refine ⟨k+1,⟨by omega,zRi hx hp (by unfold sD;rw [c3];rfl)⟩,(by omega),Weak.mk [true] ⟨zC,zC,T⟩ O⟩
  ·try simp only [sx] at c2
   refine qM<|Y O<|G O<|zA<|zG<|zS O ?_
   exact congrArg vB (by rw [mS,c1,all_end hp (by omega)];rfl)
theorem ref14_formed (e:Ex) (he:e.wt<=6000000000000) (hty:e.Op=1->bD e.Ty=true):
    Pur cfg 262 [vE e] (vB (jS e)):=by
 refine zR Tryz.func262 O Tryz.ntmps262 Tryz.results262 O ?_
 intro z hz
 obtain ⟨hL,hI,hA⟩:=e.parts he
 refine Y O<|zW O O (qB O O) ?_
 rintro _ _ ⟨b1,rfl,rfl⟩
 refine G O<|zA<|zK<|Y O<|zD O kR<|zI one3 (J 0 O) O<|qQ O<|G O<|rL0 O (fun g1_3=>zF O zDo O) O<|rL1 9 O (fun g1_3=>zV O qX O (J 0 O) O) O<|rL0 O (fun g1_3=>zF O zGm O) O<|rL1 11 O (fun g1_3=>zV O qN O (J 0 O) O) O<|rLz [(10,_),(12,_)] O gv1 ⟨O,O,O,O,T⟩ (fun g1_3=>qE O ok63 (zGf e.Ty e.Val (hty (by simp only [Lz,cond_true,cond_false,Bool.and_eq_true,Bool.or_eq_true,Bool.not_eq_true',Bool.not_eq_false',Bool.or_eq_false_iff,Bool.and_eq_false_iff,decide_eq_true_eq,decide_eq_false_iff_not,Bool.not_eq_true,Bool.not_eq_false] at g1_3;exact g1_3))) ⟨zC,O,zC,O,T⟩) O<|rL1 13 O (fun g1_3=>kA O O) O<|yO O (fun h=>h)<|G O<|rL0 O (fun g1_11=>zF O zEr O) O<|rL1 17 O (fun g1_11=>zV O zAq O (J 0 O) O) O<|rL1 18 O (fun g1_11=>qE O ok288 (zIc e.Lin hL) ⟨zC,O,T⟩) O<|rL1 19 O (fun g1_11=>kA O O) O<|r_or O (fun h=>(lzf h))<|zA<|zE O (fun c1=>?_) (fun c1=>?_)
 ·refine Y O<|G O<|zA<|zG<|zS O ?_
  exact congrArg vB (form_no c1)
 ·refine zJ<|zK<|Y O<|G O<|zA<|zT<|zY ⟨[(3,.c _),(1,.c _)],[_]⟩ (Weak.mk [true] ⟨zC,zC,T⟩ O)<|qG 1 0 O O (Nat) (fun k=>[(3,vI k)]) (fun k=>[]) (fun k=>k<=e.Idx.length/\((gY e).all fW=((e.Idx.drop k).flatMap fun x=>x.Lin::x.At).all fW)) (fun k=>e.Idx.length-k) ⟨0,⟨by omega,form_start c1⟩,Weak.mk [true] ⟨zC,zC,T⟩ O⟩ ?_
  rintro k ⟨hk,hp⟩
  refine zK<|Y O<|G O<|zD O kQ<|zI wA (J 0 O) O<|qC O wU<|yF O<|zA<|zE O (fun c2=>?_) (fun c2=>?_)
  ·try simp only [sx] at c2
   obtain ⟨x,hx⟩:=yC e.Idx k (by omega)
   have hxw:=Ex.idx_wt (qL hx)
   refine zJ<|zK<|zT<|zK<|Y O<|zD O kQ<|zI wA (J 0 O) O<|G O<|qI O wU (by omega) (D (by assumption))<|yB O zEp<|zL zAq qD O<|zZ O ok288 (zIc x.Lin (by omega)) ⟨zC,O,T⟩<|yT O<|zA<|zE O (fun c3=>?_) (fun c3=>?_)
   ·try simp only [sx] at c3
    refine Y O<|G O<|zA<|zG<|zS O ?_
    exact congrArg vB (form_no2 hp (by rw [yA hx,List.flatMap_cons,List.all_append,List.all_cons,c3];rfl))
   ·try simp only [sx] at c3
    refine zJ<|Y O<|G O<|zA<|zT<|zY ⟨[(4,.c _),(1,.c _),(3,.c _)],[_]⟩ (Weak.mk [true] ⟨zC,zC,zC,T⟩ O)<|qG 1 0 O O (Nat) (fun j=>[(4,vI j)]) (fun j=>[]) (fun j=>j<=x.At.length/\(x.At.all fW=(x.At.drop j).all fW)) (fun j=>x.At.length-j) ⟨0,⟨by omega,O⟩,Weak.mk [true] ⟨zC,zC,zC,T⟩ O⟩ ?_
    rintro j ⟨hj,hq⟩
    refine zK<|Y O<|G O<|zD O kQ<|zI wA (J 0 O) O<|G O<|qI O wU (by omega) (D (by assumption))<|yB O zBu<|zI zDv qD O<|qC O zCf<|yF O<|zA<|zE O (fun c4=>?_) (fun c4=>?_)
    ·try simp only [sx] at c4
     obtain ⟨l,hl⟩:=yC x.At j (by omega)
     have hlw:=zFg (qL hl)
     refine zJ<|zK<|zT<|Y O<|zD O kQ<|zI wA (J 0 O) O<|G O<|qI O wU (by omega) (D (by assumption))<|yB O zBu<|zI zDv qD O<|G O<|qI O zCf (by omega) (D (by assumption))<|zL zAq qD O<|zZ O ok288 (zIc l (by omega)) ⟨zC,O,T⟩<|yT O<|zA<|zE O (fun c5=>?_) (fun c5=>?_)
     ·try simp only [sx] at c5
      refine Y O<|G O<|zA<|zG<|zS O ?_
      exact congrArg vB (form_no2 hp (by rw [yA hx,List.flatMap_cons,List.all_append,List.all_cons,zIo hl (p:=fW) c5];simp))
     ·try simp only [sx] at c5
      refine zJ<|zQ O<|G O<|qF O ⟨by omega,by omega⟩<|G O<|zA ?_
      refine ⟨j+1,⟨by omega,zRi hl hq c5⟩,(by omega),Weak.mk [true] ⟨zC,zC,zC,T⟩ O⟩
    ·try simp only [sx] at c4
     refine qM<|zQ O<|G O<|qF O ⟨by omega,by omega⟩<|G O<|zA ?_
     refine ⟨k+1,⟨by omega,(by rw [hp,yA hx,List.flatMap_cons,List.all_append,List.all_cons,c3,all_end hq (by omega)];rfl)⟩,(by omega),Weak.mk [true] ⟨zC,zC,T⟩ O⟩
  ·try simp only [sx] at c2
   refine qM<|Y O<|G O<|zA<|zG<|zS O ?_
   exact congrArg vB (form_yes c1 (by rw [hp,wE (by omega)];rfl))
theorem zSr (e:Ex) (ih:∀a,a∈e.Args->a.wt<=6000000000000->Pur cfg 235 [vE a] (vI (fK a))) (he:e.wt<=6000000000000):
    Pur cfg 235 [vE e] (vI (fK e)):=by
 refine zR Tryz.func235 O Tryz.ntmps235 Tryz.results235 O ?_
 intro z hz
 obtain ⟨hL,hI,hA⟩:=e.parts he
 refine Y O<|zW O O (qB O O) ?_
 rintro _ _ ⟨b1,rfl,rfl⟩
 refine G O<|zA<|zK<|zT<|Y O<|zL yV (J 0 O) O<|zZ O ok258 (ref14_plain e he) ⟨zC,O,T⟩<|yT O<|G O<|zA<|zE O (fun c1=>?_) (fun c1=>?_)
 ·try simp only [sx] at c1
  refine Y O<|G O<|zA<|zG<|zS O ?_
  exact congrArg vI (by rw [zFu,show bQ e=5 by simp only [bQ,c1];rfl];rfl)
 ·try simp only [sx] at c1
  refine Y O<|zL yV (J 0 O) O<|zZ O ok259 (ref14_named e he) ⟨zC,O,T⟩<|yT O<|G O<|zA<|zE O (fun c2=>?_) (fun c2=>?_)
  ·try simp only [sx] at c2
   refine Y O<|G O<|zA<|zG<|zS O ?_
   exact congrArg vI (by rw [zFu,show bQ e=7 by simp only [bQ,c1,c2];rfl];rfl)
  ·try simp only [sx] at c2
   refine Y O<|zL yV (J 0 O) O<|zZ O ok260 (ref14_ranked e he) ⟨zC,O,T⟩<|yT O<|G O<|zA<|zE O (fun c3=>?_) (fun c3=>?_)
   ·try simp only [sx] at c3
    refine Y O<|G O<|zA<|zG<|zS O ?_
    exact congrArg vI (by rw [zFu,show bQ e=11 by simp only [bQ,c1,c2,c3];rfl];rfl)
   ·try simp only [sx] at c3
    refine Y O<|zL yV (J 0 O) O<|zZ O ok261 (ref14_typed e he) ⟨zC,O,T⟩<|yT O<|G O<|zA<|zE O (fun c4=>?_) (fun c4=>?_)
    ·try simp only [sx] at c4
     refine Y O<|G O<|zA<|zG<|zS O ?_
     exact congrArg vI (by rw [zFu,show bQ e=10 by simp only [bQ,c1,c2,c3,c4];rfl];rfl)
    ·try simp only [sx] at c4
     refine Y O<|zL yV (J 0 O) O<|zZ O ok262 (ref14_formed e he (types_ty c4)) ⟨zC,O,T⟩<|yT O<|G O<|zA<|zE O (fun c5=>?_) (fun c5=>?_)
     ·try simp only [sx] at c5
      refine Y O<|G O<|zA<|zG<|zS O ?_
      exact congrArg vI (by rw [zFu,show bQ e=1 by simp only [bQ,c1,c2,c3,c4,c5];rfl];rfl)
     ·try simp only [sx] at c5
      have hn:bQ e=0:=by simp only [bQ,c1,c2,c3,c4,c5];rfl
      refine zJ<|zK<|Y O<|G O<|zA<|zT<|zY ⟨[(3,.c _),(1,.c _)],[_]⟩ (Weak.mk [true] ⟨zC,zC,T⟩ O)<|qG 1 0 O O (Nat) (fun k=>[(3,vI k)]) (fun k=>[]) (fun k=>k<=e.Args.length/\(rJ e.Args=rJ (e.Args.drop k))) (fun k=>e.Args.length-k) ⟨0,⟨by omega,O⟩,Weak.mk [true] ⟨zC,zC,T⟩ O⟩ ?_
      rintro k ⟨hk,hp⟩
      refine zK<|Y O<|G O<|zD O zAd<|zI zBl (J 0 O) O<|qC O zBa<|yF O<|zA<|zE O (fun c6=>?_) (fun c6=>?_)
      ·try simp only [sx] at c6
       obtain ⟨a,ha⟩:=yC e.Args k (by omega)
       refine zJ<|zK<|zT<|Y O<|zD O zAd<|zI zBl (J 0 O) O<|G O<|qI O zBa (by omega) (zJt (by assumption))<|zL yV qD O<|zZ O ok235 (ih a (qL ha) (by have:=Ex.arg_wt (qL ha);omega)) ⟨zC,O,T⟩<|G O<|zA<|Y O<|G O<|yQ O<|zA<|zE O (fun c7=>?_) (fun c7=>?_)
       ·try simp only [sx] at c7
        refine Y O<|G O<|G O<|zA<|zG<|zS O ?_
        exact congrArg vI (by rw [zFu e,hn,zAi rfl,cond_true,hp,yA ha,zOc,qK c7];rfl)
       ·try simp only [sx] at c7
        refine zJ<|zQ O<|G O<|qF O ⟨by omega,by omega⟩<|G O<|zA ?_
        refine ⟨k+1,⟨by omega,(by rw [hp,yA ha,zOc,zAi c7];rfl)⟩,(by omega),Weak.mk [true] ⟨zC,zC,T⟩ O⟩
      ·try simp only [sx] at c6
       refine qM<|Y O<|G O<|zA<|zG<|zS O ?_
       exact congrArg vI (by rw [zFu,hn,zAi rfl,cond_true,hp,wE (by omega)];rfl)
theorem ref14_part (e:Ex) (he:e.wt<=6000000000000):Pur cfg 235 [vE e] (vI (fK e)):=by
  induction e using Ex.ind with
  |_ e ih=>exact zSr e ih he
theorem zJw (n:Nat) (ih:n≠0->∀(a:Ex) (l:Int),a.wt<=6000000000000->l=n->Pur cfg 245 [vE a,vI l] (vI (jT (n-1) a))) (hn:n<=100) (e:Ex) (l:Int) (he:e.wt<=6000000000000) (hl:l=n+1):
    Pur cfg 245 [vE e,vI l] (vI (jT n e)):=by
 refine zR Tryz.func245 O Tryz.ntmps245 Tryz.results245 O ?_
 intro z hz
 obtain ⟨hL,hI,hA⟩:=e.parts he
 refine Y O<|zW O O (qB O O) ?_
 rintro _ _ ⟨b1,rfl,rfl⟩
 refine G O<|zA<|zK<|Y O<|G O<|zX O (kH O O O)<|zA<|zE O (fun c1=>?_) (fun c1=>?_)
 ·try simp only [sx] at c1
  obtain rfl:n=0:=by omega
  refine Y O<|G O<|G O<|zA<|zG<|zS O ?_
  exact congrArg vI (by rw [hl];rfl)
 ·try simp only [sx] at c1
  obtain ⟨m,rfl⟩:∃m,n=m+1:=⟨n-1,by omega⟩
  refine zJ<|Y O<|G O<|zA<|zK<|Y O<|zD O zAd<|zI zBl (J 0 O) O<|qC O zBa<|G O<|zA<|zT<|zY ⟨[(14,.c _),(5,.c _),(1,.c _),(12,.c _),(13,.c _)],[]⟩ (Weak.mk [false] ⟨zC,zC,zC,zC,zC,T⟩ O)<|qG 2 0 O O (Nat×Int) (fun ⟨k,d⟩=>[(14,vI k),(5,vI d)]) (fun ⟨k,d⟩=>[]) (fun ⟨k,d⟩=>k<=e.Args.length/\(1<=d)/\(d<=m+2)/\(jT (m+1) e=rU (jT m) d (e.Args.drop k))) (fun ⟨k,d⟩=>e.Args.length-k) ⟨⟨0,1⟩,⟨by omega,by omega,by omega,O⟩,Weak.mk [] ⟨zC,VLe.of_eq (O),zC,zC,zC,T⟩ O⟩ ?_
  rintro ⟨k,d⟩ ⟨hk,hd1,hd2,hd3⟩
  show AWP _ _ _ _ _ ⟨[(14,vI k),(5,vI d)]++_,[]++_⟩
  refine Y O<|yF O<|zA<|zK<|zE O (fun c2=>?_) (fun c2=>?_)
  ·try simp only [sx] at c2
   obtain ⟨a,ha⟩:=yC e.Args k (by omega)
   have hda:=depT_le m a
   refine zJ<|zK<|zT<|Y O<|qI O zBa (by omega) (zJt (by assumption))<|zL yV qD O<|zW O O (qT [none,none,none,none,none,none,none,none,none,none,some 2,some 4,some 13] O zLw O) ?_
   rintro _ _ ⟨b2,rfl,rfl⟩
   refine rStR 0 sz167 O<|zA<|zQ O<|G O<|zL yV (J 0 O) O<|G O<|zX O (qZ O O O ⟨by omega,by omega⟩)<|zZ O ok245 (show Pur cfg 245 [vE a,vI (l-1)] (vI (jT m a)) from ih (by omega) a _ (by have:=Ex.arg_wt (qL ha);omega) (by omega)) ⟨zC,O,zC,O,T⟩<|qF O ⟨by omega,by omega⟩<|zX O (zEb O O O)<|G O<|zA<|zQ O<|qF O ⟨by omega,by omega⟩<|G O<|zA ?_
   refine ⟨⟨k+1,max d (1+jT m a)⟩,⟨by omega,by omega,by omega,by rw [hd3,yA ha,rU]⟩,(by show e.Args.length-(k+1)<e.Args.length-k;omega),Weak.mk [false] ⟨zC,zC,zC,zC,zC,T⟩ O⟩
  ·try simp only [sx] at c2
   refine qM<|Y O<|G O<|G O<|zA<|zG<|zS O ?_
   exact congrArg vI (by rw [hd3,wE (by omega)];rfl)
theorem expr_depth (n:Nat) (e:Ex) (l:Int) (hn:n<=100) (he:e.wt<=6000000000000) (hl:l=n+1):Pur cfg 245 [vE e,vI l] (vI (jT n e)):=by
  induction n generalizing e l with
  |zero=>exact zJw 0 (fun h=>absurd rfl h) hn e l he hl
  |succ n ih=>exact zJw (n+1) (fun _ a l h1 h2=>ih a l (by omega) h1 (by omega)) hn e l he hl
theorem zIi (n:Nat) (ih:n≠0->∀(a:Ex) (l:Int),a.wt<=6000000000000->l=n->Pur cfg 256 [vE a,vI l] (vI (jT (n-1) a))) (hn:n<=100) (e:Ex) (l:Int) (he:e.wt<=6000000000000) (hl:l=n+1):
    Pur cfg 256 [vE e,vI l] (vI (jT n e)):=by
 refine zR Tryz.func256 O Tryz.ntmps256 Tryz.results256 O ?_
 intro z hz
 obtain ⟨hL,hI,hA⟩:=e.parts he
 refine Y O<|zW O O (qB O O) ?_
 rintro _ _ ⟨b1,rfl,rfl⟩
 refine G O<|zA<|Y O<|G O<|zA<|zK<|Y O<|G O<|zA<|zT<|zY ⟨[(6,.c _),(5,.c _),(1,.c _),(2,.c _)],[_]⟩ (Weak.mk [true] ⟨zC,zC,zC,zC,T⟩ O)<|qG 2 0 O O (Nat×Int) (fun ⟨k,d⟩=>[(6,vI k),(5,vI d)]) (fun ⟨k,d⟩=>[]) (fun ⟨k,d⟩=>k<=e.Args.length/\(1<=d)/\(d<=n+1)/\(n≠0->jT n e=rU (jT (n-1)) d (e.Args.drop k))/\(n=0->d=1)) (fun ⟨k,d⟩=>e.Args.length-k) ⟨⟨0,1⟩,⟨by omega,by omega,by omega,fun h0=>dep_start h0,fun _=>O⟩,Weak.mk [true] ⟨zC,VLe.of_eq (O),zC,zC,T⟩ O⟩ ?_
 rintro ⟨k,d⟩ ⟨hk,hd1,hd2,hd3,hd4⟩
 show AWP _ _ _ _ _ ⟨[(6,vI k),(5,vI d)]++_,[]++_⟩
 refine zK<|Y O<|G O<|zD O zAd<|zI zBl (J 0 O) O<|qC O zBa<|yF O<|G O<|rL0 O (fun g3_5=>zO O O) O<|rL1 13 O (fun g3_5=>kD O O O) O<|yO O (fun h=>h)<|zA<|zE O (fun c1=>?_) (fun c1=>?_)
 ·try simp only [sx] at c1
  obtain ⟨a,ha⟩:=yC e.Args k (by omega)
  have hda:=depT_le (n-1) a
  refine zJ<|zK<|zT<|zQ O<|G O<|zD O zAd<|zI zBl (J 0 O) O<|G O<|qI O zBa (by omega) (zJt (by assumption))<|zL yV qD O<|G O<|zX O (qZ O O O ⟨by omega,by omega⟩)<|zZ O ok256 (ih (by omega) a _ (by have:=Ex.arg_wt (qL ha);omega) (by omega)) ⟨zC,O,zC,O,T⟩<|qF O ⟨by omega,by omega⟩<|zX O (zEb O O O)<|G O<|zA<|zQ O<|G O<|qF O ⟨by omega,by omega⟩<|G O<|zA ?_
  refine ⟨⟨k+1,max d (1+jT (n-1) a)⟩,⟨by omega,by omega,by omega,fun h0=>by rw [hd3 h0,yA ha,rU],fun h0=>by omega⟩,(by show e.Args.length-(k+1)<e.Args.length-k;omega),Weak.mk [true] ⟨zC,zC,zC,zC,T⟩ O⟩
 ·try simp only [sx] at c1
  refine qM<|Y O<|G O<|G O<|zA<|zG<|zS O ?_
  exact congrArg vI (dep_end hl (by omega) hd3 hd4)
theorem ref14_depth (n:Nat) (e:Ex) (l:Int) (hn:n<=100) (he:e.wt<=6000000000000) (hl:l=n+1):Pur cfg 256 [vE e,vI l] (vI (jT n e)):=by
  induction n generalizing e l with
  |zero=>exact zIi 0 (fun h=>absurd rfl h) hn e l he hl
  |succ n ih=>exact zIi (n+1) (fun _ a l h1 h2=>ih a l (by omega) h1 (by omega)) hn e l he hl
theorem expr_Depth (e:Ex) (he:e.wt<=6000000000000):
    Pur cfg 222 [vE e] (vI (jT 40 e)):=by
 refine zR Tryz.func222 O Tryz.ntmps222 Tryz.results222 O ?_
 intro z hz
 refine Y O<|zW O O (qB O O) ?_
 rintro _ _ ⟨b1,rfl,rfl⟩
 refine G O<|zA<|Y O<|zL yV (J 0 O) O<|zZ O ok245 (expr_depth 40 e 41 (by omega) he (by omega)) ⟨zC,O,zC,O,T⟩<|G O<|zA<|zG<|zS O ?_
 exact O
theorem ref14_Depth (e:Ex) (he:e.wt<=6000000000000):
    Pur cfg 233 [vE e] (vI (jT 40 e)):=by
 refine zR Tryz.func233 O Tryz.ntmps233 Tryz.results233 O ?_
 intro z hz
 refine Y O<|zW O O (qB O O) ?_
 rintro _ _ ⟨b1,rfl,rfl⟩
 refine G O<|zA<|Y O<|zL yV (J 0 O) O<|zZ O ok256 (ref14_depth 40 e 41 (by omega) he (by omega)) ⟨zC,O,zC,O,T⟩<|G O<|zA<|zG<|zS O ?_
 exact O
theorem zSq (e:Ex) (ih:∀a,a∈e.Args->∀(m:Nat) (l:Int),a.wt<=6000000000000->m<=1000000->l=m->Pur cfg 257 [vE a,vI l] (vI (rR a m))) (m:Nat) (l:Int) (he:e.wt<=6000000000000) (hm:m<=1000000) (hl:l=m):
    Pur cfg 257 [vE e,vI l] (vI (rR e m)):=by
 refine zR Tryz.func257 O Tryz.ntmps257 Tryz.results257 O ?_
 intro z hz
 obtain ⟨hL,hI,hA⟩:=e.parts he
 refine Y O<|zW O O (qB O O) ?_
 rintro _ _ ⟨b1,rfl,rfl⟩
 refine G O<|zA<|Y O<|G O<|zA<|zK<|Y O<|G O<|zA<|zT<|zY ⟨[(6,.c _),(5,.c _),(1,.c _),(2,.c _)],[_]⟩ (Weak.mk [true] ⟨zC,zC,zC,zC,T⟩ O)<|qG 2 0 O O (Nat×Nat) (fun ⟨k,n⟩=>[(6,vI k),(5,vI n)]) (fun ⟨k,n⟩=>[]) (fun ⟨k,n⟩=>k<=e.Args.length/\(n<=m+1)/\(rR e m=rG (e.Args.drop k) m n)) (fun ⟨k,n⟩=>e.Args.length-k) ⟨⟨0,1⟩,⟨by omega,by omega,sizE_eq e m⟩,Weak.mk [true] ⟨zC,VLe.of_eq (O),zC,zC,T⟩ O⟩ ?_
 rintro ⟨k,n⟩ ⟨hk,hn1,hn2⟩
 show AWP _ _ _ _ _ ⟨[(6,vI k),(5,vI n)]++_,[]++_⟩
 refine zK<|Y O<|G O<|zD O zAd<|zI zBl (J 0 O) O<|qC O zBa<|yF O<|G O<|rL0 O (fun g3_5=>zO O O) O<|rL0 O (fun g3_5=>zO O O) O<|rLz [(13,_),(14,_)] O gv1 ⟨O,O,O,O,T⟩ (fun g3_5=>kH O O O) O<|yO O (fun h=>h)<|zA<|zE O (fun c1=>?_) (fun c1=>?_)
 ·try simp only [sx] at c1
  obtain ⟨a,ha⟩:=yC e.Args k (by omega)
  have hsa:=sizE_min a (m-n)
  refine zJ<|zK<|zT<|zQ O<|G O<|zD O zAd<|zI zBl (J 0 O) O<|G O<|qI O zBa (by omega) (zJt (by assumption))<|zL yV qD O<|G O<|G O<|zX O (qZ O O O ⟨by omega,by omega⟩)<|zZ O ok257 (ih a (qL ha) (m-n) _ (by have:=Ex.arg_wt (qL ha);omega) (by omega) (by omega)) ⟨zC,O,zC,O,T⟩<|qF O ⟨by omega,by omega⟩<|G O<|zA<|zQ O<|G O<|qF O ⟨by omega,by omega⟩<|G O<|zA ?_
  refine ⟨⟨k+1,n+rR a (m-n)⟩,⟨by omega,by omega,by rw [hn2,yA ha,rG,if_pos (by omega)]⟩,(by show e.Args.length-(k+1)<e.Args.length-k;omega),Weak.mk [true] ⟨zC,VLe.of_eq (congrArg vI (by omega)),zC,zC,T⟩ O⟩
 ·try simp only [sx] at c1
  refine qM<|Y O<|G O<|G O<|zA<|zG<|zS O ?_
  exact congrArg vI (by rw [hn2];exact congrArg Nat.cast (siz_end hl (by omega)))
theorem ref14_size (e:Ex) (m:Nat) (l:Int) (he:e.wt<=6000000000000) (hm:m<=1000000) (hl:l=m):Pur cfg 257 [vE e,vI l] (vI (rR e m)):=by
  induction e using Ex.ind generalizing m l with
  |_ e ih=>exact zSq e (fun a ha m l h1 h2 h3=>ih a ha m l h1 h2 h3) m l he hm hl
theorem ref14_Size (e:Ex) (he:e.wt<=6000000000000):
    Pur cfg 234 [vE e] (vI (szT e)):=by
 refine zR Tryz.func234 O Tryz.ntmps234 Tryz.results234 O ?_
 intro z hz
 refine Y O<|zW O O (qB O O) ?_
 rintro _ _ ⟨b1,rfl,rfl⟩
 refine G O<|zA<|Y O<|zL yV (J 0 O) O<|zZ O ok257 (ref14_size e 2000 2000 he (by omega) O) ⟨zC,O,zC,O,T⟩<|zX O (zJx O O O)<|G O<|zA<|zG<|zS O ?_
 exact congrArg vI (by rw [sizE_min,szT];omega)
theorem ref14_Validate (e:Ex) (he:e.wt<=6000000000000):
    Pur cfg 200 [vE e] (vI (fX e)):=by
 refine zR Tryz.func200 O Tryz.ntmps200 Tryz.results200 O ?_
 intro z hz
 refine Y O<|zW O O (qB O O) ?_
 rintro _ _ ⟨b1,rfl,rfl⟩
 refine G O<|zA<|zK<|Y O<|zL yV (J 0 O) O<|zZ O ok233 (ref14_Depth e he) ⟨zC,O,T⟩<|zAf O<|zA<|zE O (fun c1=>?_) (fun c1=>?_)
 ·try simp only [sx] at c1
  refine Y O<|G O<|zA<|zG<|zS O ?_
  rw [fX,zAi c1];rfl
 ·try simp only [sx] at c1
  refine zJ<|zK<|Y O<|zL yV (J 0 O) O<|zZ O ok234 (ref14_Size e he) ⟨zC,O,T⟩<|zAf O<|zA<|zE O (fun c2=>?_) (fun c2=>?_)
  ·try simp only [sx] at c2
   refine Y O<|G O<|zA<|zG<|zS O ?_
   rw [fX,qK (by omega),zAi c2];rfl
  ·try simp only [sx] at c2
   refine zJ<|Y O<|zL yV (J 0 O) O<|zZ O ok235 (ref14_part e he) ⟨zC,O,T⟩<|G O<|zA<|zG<|zS O ?_
   rw [fX,qK (by omega),qK (by omega)];rfl
end Go.W
end
section
set_option maxRecDepth 10000
namespace Go.W
open Go Go.Eng Go.Proofs Go.L41 Go.Br
attribute [local irreducible] AWP RWP TD fT
theorem ok22:bA Tryz.prog 22=true:=by kernel_rfl
theorem ok196:bA Tryz.prog 196=true:=by kernel_rfl
theorem ok222:bA Tryz.prog 222=true:=by kernel_rfl
theorem ok223:bA Tryz.prog 223=true:=by kernel_rfl
theorem ok224:bA Tryz.prog 224=true:=by kernel_rfl
theorem ok225:bA Tryz.prog 225=true:=by kernel_rfl
theorem ok226:bA Tryz.prog 226=true:=by kernel_rfl
theorem ok246:bA Tryz.prog 246=true:=by kernel_rfl
theorem ok247:bA Tryz.prog 247=true:=by kernel_rfl
theorem ok248:bA Tryz.prog 248=true:=by kernel_rfl
theorem ok249:bA Tryz.prog 249=true:=by kernel_rfl
theorem ok250:bA Tryz.prog 250=true:=by kernel_rfl
theorem ok251:bA Tryz.prog 251=true:=by kernel_rfl
theorem ok282:bA Tryz.prog 282=true:=by kernel_rfl
theorem zJn:jL Tryz.prog 36=true:=by kernel_rfl
theorem sz3:(Tryz.prog.info? 3).map (·.size)=some 1:=by kernel_rfl
theorem sz36:(Tryz.prog.info? 36).map (·.size)=some 1:=by kernel_rfl
theorem sz164:(Tryz.prog.info? 164).map (·.size)=some 2:=by kernel_rfl
theorem zr3:dM Tryz.prog 3=some [(Value.int IntKind.i64 0)]:=by kernel_rfl
theorem zr36:dM Tryz.prog 36=some [(Value.int IntKind.i64 0)]:=by kernel_rfl
theorem zr164:dM Tryz.prog 164=some [(Value.int IntKind.i64 0),(Value.slice none 0 0)]:=by kernel_rfl
theorem expr_forms (e:Ex):
    Pur cfg 250 [vE e] (.c (.fn (.func 282) [] [.iptr e.cs])):=by
 refine zR Tryz.func250 O Tryz.ntmps250 Tryz.results250 O ?_
 exact v38
theorem forms_iter (e:Ex) (he:e.wt<=6000000000000):
    xE cfg 282 [] [.iptr e.cs] (gY e) fun l=>[nA l]:=by
 obtain ⟨hL,hI,hA⟩:=e.parts he
 intro y J Jx μ hy0 h0
 have hy:=fun pre x suf μ h1 h2=>fn_bool (hy0 pre x suf μ h1 h2)
 refine zR Tryz.func282 O Tryz.ntmps282 Tryz.results282 O ?_
 intro z hz
 refine zK<|Y O<|G O<|yB O zEr<|zL zAq qD O<|zW O O (zDf O O (hy [] e.Lin _ _ O h0) ⟨zC,O,T⟩) ?_
 rintro _ m0 ⟨y0,rfl,t0,f0⟩
 refine yT O<|zA<|zE O (fun c1=>?_) (fun c1=>?_)
 ·try simp only [sx] at c1
  refine zG<|fin0 ?_
  exact .inr ⟨[],e.Lin,_,O,f0 c1⟩
 ·try simp only [sx] at c1
  refine zJ<|Y O<|yB O kQ<|zI wA qD O<|qC O wU<|G O<|zA<|zT<|zY ⟨[(15,.c _),(0,.c _),(13,.c _),(14,.c _)],_⟩ (Weak.regs ⟨zC,zC,zC,zC,T⟩)<|zHc 1 O (Nat×List E) (fun ⟨k,m⟩=>[(15,vI k)]) (fun ⟨k,m⟩=>m) (fun ⟨k,m⟩=>k<=e.Idx.length/\(J (e.Lin::(e.Idx.take k).flatMap ixF) m)) (fun ⟨k,m⟩=>e.Idx.length-k) ⟨⟨0,m0⟩,⟨by omega,t0 c1⟩,Weak.regs ⟨zC,zC,zC,zC,T⟩⟩ ?_
  rintro ⟨k,m⟩ ⟨hk,hJ⟩
  refine Y O<|yF O<|zA<|zK<|zE O (fun c2=>?_) (fun c2=>?_)
  ·try simp only [sx] at c2
   obtain ⟨x,hx⟩:=yC e.Idx k (by omega)
   have hxw:=Ex.idx_wt (qL hx)
   refine zJ<|zK<|zT<|Y O<|qI O wU (by omega) (D (by assumption))<|zL zIp qD O<|zW O O (qT [none,some 2,none,some 2] O zr195 O) ?_
   rintro _ _ ⟨b1,rfl,rfl⟩
   refine rStR 0 sz195 O<|yZ _ (kM 0 O 4 _ PLe.ptr)<|zA<|zK<|Y O<|G O<|yB O zEp<|zL zAq qD O<|zW O O (zDf O O (hy _ x.Lin _ _ (forms_at hx) hJ) ⟨zC,O,T⟩) ?_
   rintro _ m1 ⟨y1,rfl,t1,f1⟩
   refine yT O<|zA<|zE O (fun c3=>?_) (fun c3=>?_)
   ·try simp only [sx] at c3
    refine zG<|fin0 ?_
    exact .inr ⟨_,x.Lin,_,forms_at hx,f1 c3⟩
   ·try simp only [sx] at c3
    refine zJ<|Y O<|yB O zBu<|zI zDv qD O<|qC O zCf<|G O<|zA<|zT<|zY ⟨[(27,.c _),(0,.c _),(13,.c _),(14,.c _),(15,.c _),(25,.c _),(26,.c _)],_⟩ (Weak.regs ⟨zC,zC,zC,zC,zC,zC,zC,T⟩)<|zHc 1 O (Nat×List E) (fun ⟨j,n⟩=>[(27,vI j)]) (fun ⟨j,n⟩=>n) (fun ⟨j,n⟩=>j<=x.At.length/\(J ((e.Lin::(e.Idx.take k).flatMap ixF)++[x.Lin]++x.At.take j) n)) (fun ⟨j,n⟩=>x.At.length-j) ⟨⟨0,m1⟩,⟨by omega,by simpa using t1 c3⟩,Weak.regs ⟨zC,zC,zC,zC,zC,zC,zC,T⟩⟩ ?_
    rintro ⟨j,n⟩ ⟨hj,hJ2⟩
    refine Y O<|yF O<|zA<|zK<|zE O (fun c4=>?_) (fun c4=>?_)
    ·try simp only [sx] at c4
     obtain ⟨l,hl⟩:=yC x.At j (by omega)
     refine zJ<|zK<|zT<|Y O<|qI O zCf (by omega) (D (by assumption))<|zL zAq qD O<|zW O O (qT [none,some 2] O zr164 O) ?_
     rintro _ _ ⟨b2,rfl,rfl⟩
     refine rStR 0 sz164 O<|yZ _ (kM 0 O 6 _ PLe.ptr)<|zA<|Y O<|G O<|zL zAq qD O<|zW O O (zDf O O (hy _ l _ _ (forms_at2 hx hl) hJ2) ⟨zC,O,T⟩) ?_
     rintro _ m2 ⟨y2,rfl,t2,f2⟩
     refine yT O<|zA<|zE O (fun c5=>?_) (fun c5=>?_)
     ·try simp only [sx] at c5
      refine zG<|fin0 ?_
      exact .inr ⟨_,l,_,forms_at2 hx hl,f2 c5⟩
     ·try simp only [sx] at c5
      refine zJ<|zQ O<|qF O ⟨by omega,by omega⟩<|G O<|zA ?_
      refine ⟨⟨j+1,m2⟩,⟨by omega,by rw [kK hl];simpa [List.append_assoc] using t2 c5⟩,(by show x.At.length-(j+1)<x.At.length-j;omega),Weak.regs ⟨zC,zC,zC,zC,zC,zC,zC,T⟩⟩
    ·try simp only [sx] at c4
     refine qM<|zQ O<|qF O ⟨by omega,by omega⟩<|G O<|zA ?_
     refine ⟨⟨k+1,n⟩,⟨by omega,by rw [forms_next hx];rw [yP (l:=x.At) (by omega)] at hJ2;exact hJ2⟩,(by show e.Idx.length-(k+1)<e.Idx.length-k;omega),Weak.regs ⟨zC,zC,zC,zC,T⟩⟩
  ·try simp only [sx] at c2
   refine qM ?_
   repeat (first|refine kN ?_|refine kI ?_)
   refine wS<|fin0 ?_
   rw [yP (by omega)] at hJ;exact .inl hJ
theorem zUb (e:Ex):
    Pur cfg 196 [vE e] (.c (.fn (.func 225) [] [.iptr e.cs])):=by
 refine zR Tryz.func196 O Tryz.ntmps196 Tryz.results196 O ?_
 exact v38
theorem walk_step (e:Ex) (he:e.wt<=6000000000000) (ih:∀a,a∈e.Args->a.wt<=6000000000000->(∀(y:C) (J Jx:List Ex->List E->Prop) (pre0:List Ex) (μ:List E),(∀pre x suf μ,dI a=pre++x::suf->J (pre0++pre) μ->FnCon cfg y [vE x] μ fun r μ'=>∃b,r=.c (.lit (.bool b))/\(b=true->J (pre0++pre++[x]) μ')/\(b=false->Jx (pre0++pre++[x]) μ'))->J pre0 μ->Con cfg 226 [vE a,.c y] μ fun r μ'=>∃b,r=.c (.lit (.bool b))/\(b=true->J (pre0++dI a) μ')/\(b=false->∃pre x suf,dI a=pre++x::suf/\Jx (pre0++pre++[x]) μ'))):
    ∀(y:C) (J Jx:List Ex->List E->Prop) (pre0:List Ex) (μ:List E),(∀pre x suf μ,dI e=pre++x::suf->J (pre0++pre) μ->FnCon cfg y [vE x] μ fun r μ'=>∃b,r=.c (.lit (.bool b))/\(b=true->J (pre0++pre++[x]) μ')/\(b=false->Jx (pre0++pre++[x]) μ'))->J pre0 μ->Con cfg 226 [vE e,.c y] μ fun r μ'=>∃b,r=.c (.lit (.bool b))/\(b=true->J (pre0++dI e) μ')/\(b=false->∃pre x suf,dI e=pre++x::suf/\Jx (pre0++pre++[x]) μ'):=by
 obtain ⟨hL,hI,hA⟩:=e.parts he
 intro y J Jx pre0 μ hy h0
 refine zR Tryz.func226 O Tryz.ntmps226 Tryz.results226 O ?_
 intro z hz
 refine Y O<|zW O O (qB O O) ?_
 rintro _ _ ⟨b1,rfl,rfl⟩
 refine yZ _ (kM 0 O 2 _ PLe.ptr)<|G O<|zA<|zK<|Y O<|G O<|zL yV qD O<|zW O O (zDf O O (hy [] e _ _ (zDj e) (show J (pre0++[]) μ by simpa using h0)) ⟨zC,O,T⟩) ?_
 rintro _ m0 ⟨y0,rfl,t0,f0⟩
 refine yT O<|zA<|zE O (fun c1=>?_) (fun c1=>?_)
 ·try simp only [sx] at c1
  refine Y O<|G O<|zA<|zG<|zS O ?_
  exact ⟨false,O,fun h=>(by cases h),fun _=>⟨[],e,_,zDj e,by simpa using f0 c1⟩⟩
 ·try simp only [sx] at c1
  refine zJ<|zK<|Y O<|yB O zAd<|zI zBl qD O<|qC O zBa<|G O<|zA<|zT<|zY ⟨[(14,.c _),(1,.c _),(12,.c _),(13,.c _)],_⟩ (Weak.regs ⟨zC,zC,zC,zC,T⟩)<|zHc 1 O (Nat×List E) (fun ⟨k,m⟩=>[(14,vI k)]) (fun ⟨k,m⟩=>m) (fun ⟨k,m⟩=>k<=e.Args.length/\(J (pre0++e::bV (e.Args.take k)) m)) (fun ⟨k,m⟩=>e.Args.length-k) ⟨⟨0,m0⟩,⟨by omega,by simpa [bV] using t0 c1⟩,Weak.regs ⟨zC,zC,zC,zC,T⟩⟩ ?_
  rintro ⟨k,m⟩ ⟨hk,hJ⟩
  refine Y O<|yF O<|zA<|zK<|zE O (fun c2=>?_) (fun c2=>?_)
  ·try simp only [sx] at c2
   obtain ⟨a,ha⟩:=yC e.Args k (by omega)
   refine zJ<|zK<|zT<|Y O<|qI O zBa (by omega) (zJt (by assumption))<|zL yV qD O<|zW O O (qT [none,none,none,none,none,none,none,none,none,none,some 2,some 4,some 13] O zLw O) ?_
   rintro _ _ ⟨b2,rfl,rfl⟩
   refine rStR 0 sz167 O<|yZ _ (kM 0 O 6 _ PLe.ptr)<|zA<|Y O<|zL yV qD O<|G O<|zW O O (zBw O ok226 (ih a (qL ha) (by have:=Ex.arg_wt (qL ha);omega) y J Jx (pre0++e::bV (e.Args.take k)) _ (fun pre x suf μ hx hj=>by have:=hy _ x _ μ (nodes_at ha hx) (by simpa using hj);simpa using this) hJ) ⟨zC,O,zC,O,T⟩) ?_
   rintro _ m1 ⟨y1,rfl,t1,f1⟩
   refine yT O<|zA<|zE O (fun c3=>?_) (fun c3=>?_)
   ·try simp only [sx] at c3
    refine Y O<|G O<|zA<|zG<|zS O ?_
    obtain ⟨pre,x,suf,h1,h2⟩:=f1 c3
    exact ⟨false,O,fun h=>(by cases h),fun _=>⟨_,x,_,nodes_at ha h1,by simpa using h2⟩⟩
   ·try simp only [sx] at c3
    refine zJ<|zQ O<|qF O ⟨by omega,by omega⟩<|G O<|zA ?_
    refine ⟨⟨k+1,m1⟩,⟨by omega,by rw [zSy ha];simpa using t1 c3⟩,(by show e.Args.length-(k+1)<e.Args.length-k;omega),Weak.regs ⟨zC,zC,zC,zC,T⟩⟩
  ·try simp only [sx] at c2
   refine qM<|Y O<|G O<|zA<|zG<|zS O ?_
   rw [yP (by omega)] at hJ
   exact ⟨true,O,fun _=>(by rw [zDj];exact hJ),fun h=>(by cases h)⟩
theorem walk_con (e:Ex) (he:e.wt<=6000000000000):∀(y:C) (J Jx:List Ex->List E->Prop) (pre0:List Ex) (μ:List E),(∀pre x suf μ,dI e=pre++x::suf->J (pre0++pre) μ->FnCon cfg y [vE x] μ fun r μ'=>∃b,r=.c (.lit (.bool b))/\(b=true->J (pre0++pre++[x]) μ')/\(b=false->Jx (pre0++pre++[x]) μ'))->J pre0 μ->Con cfg 226 [vE e,.c y] μ fun r μ'=>∃b,r=.c (.lit (.bool b))/\(b=true->J (pre0++dI e) μ')/\(b=false->∃pre x suf,dI e=pre++x::suf/\Jx (pre0++pre++[x]) μ'):=by
  induction e using Ex.ind with
  |_ e ih=>exact walk_step e he ih
theorem zRp (e:Ex) (he:e.wt<=6000000000000):
    xE cfg 225 [] [.iptr e.cs] (dI e) fun x=>[vE x]:=by
 intro y J Jx μ hy0 h0
 have hy:=fun pre x suf μ h1 h2=>fn_bool (hy0 pre x suf μ h1 h2)
 refine zR Tryz.func225 O Tryz.ntmps225 Tryz.results225 O ?_
 intro z hz
 refine zQ O<|zL yV qD O<|G O<|zW O O (zBw O ok226 (walk_con e he y J Jx [] _ (fun pre x suf μ h1 h2=>hy pre x suf μ h1 h2) h0) ⟨zC,O,zC,O,T⟩) ?_
 rintro _ m0 ⟨y0,rfl,t0,f0⟩
 refine zA ?_
 repeat (first|refine kN ?_|refine kI ?_)
 refine wS<|fin0 ?_
 cases y0
 · exact .inr (f0 rfl)
 · exact .inl (t0 rfl)
theorem expr_validNode (e:Ex) (he:e.wt<=6000000000000):
    Pur cfg 224 [vE e] (vI (bQ e)):=by
 refine zR Tryz.func224 O Tryz.ntmps224 Tryz.results224 O ?_
 intro z hz
 obtain ⟨hL,hI,hA⟩:=e.parts he
 refine Y O<|zW O O (qB O O) ?_
 rintro _ _ ⟨b1,rfl,rfl⟩
 refine zW O O (qS O zr36) ?_
 rintro _ _ ⟨b2,rfl,rfl⟩
 refine zA<|zK<|zT<|Y O<|zL yV (J 1 O) O<|zZ O ok246 (expr_syntax e he) ⟨zC,O,T⟩<|yT O<|G O<|zA<|zE O (fun c1=>?_) (fun c1=>?_)
 ·try simp only [sx] at c1
  refine Y O<|rStR 0 sz36 O<|zA<|zG<|fin1 (wJ zJn O (J 0 O) O) ?_
  rw [bQ,c1];rfl
 ·try simp only [sx] at c1
  refine Y O<|zL yV (J 1 O) O<|zZ O ok247 (expr_names e he) ⟨zC,O,T⟩<|yT O<|G O<|zA<|zE O (fun c2=>?_) (fun c2=>?_)
  ·try simp only [sx] at c2
   refine Y O<|rStR 0 sz36 O<|zA<|zG<|fin1 (wJ zJn O (J 0 O) O) ?_
   rw [bQ,c1,c2];rfl
  ·try simp only [sx] at c2
   refine Y O<|zL yV (J 1 O) O<|zZ O ok248 (expr_rank e he) ⟨zC,O,T⟩<|yT O<|G O<|zA<|zE O (fun c3=>?_) (fun c3=>?_)
   ·try simp only [sx] at c3
    refine Y O<|rStR 0 sz36 O<|zA<|zG<|fin1 (wJ zJn O (J 0 O) O) ?_
    rw [bQ,c1,c2,c3];rfl
   ·try simp only [sx] at c3
    refine Y O<|zL yV (J 1 O) O<|zZ O ok249 (expr_types e he) ⟨zC,O,T⟩<|yT O<|G O<|zA<|zE O (fun c4=>?_) (fun c4=>?_)
    ·try simp only [sx] at c4
     refine Y O<|rStR 0 sz36 O<|zA<|zG<|fin1 (wJ zJn O (J 0 O) O) ?_
     rw [bQ,c1,c2,c3,c4];rfl
    ·try simp only [sx] at c4
     refine Y O<|zD O kR<|zI one3 (J 1 O) O<|qQ O<|G O<|rL0 O (fun g9_3=>zF O zDo O) O<|rL1 25 O (fun g9_3=>zV O qX O (J 1 O) O) O<|rL0 O (fun g9_3=>zF O zGm O) O<|rL1 27 O (fun g9_3=>zV O qN O (J 1 O) O) O<|rLz [(26,_),(28,_)] O gv1 ⟨O,O,O,O,T⟩ (fun g9_3=>qE O ok22 (zAw e.Ty e.Val) ⟨zC,O,zC,O,T⟩) O<|rL1 29 O (fun g9_3=>kA O O) O<|yO O (fun h=>h)<|G O<|zA<|zE O (fun c5=>?_) (fun c5=>?_)
     ·have h5:=node5 c4 c5
      refine Y O<|rStR 0 sz36 O<|zA<|zG<|fin1 (wJ zJn O (J 0 O) O) ?_
      rw [bQ,c1,c2,c3,c4,jS,h5];rfl
     ·have h5:=node5 c4 c5
      refine zJ<|zK<|Y O<|zL yV (J 1 O) O<|zZ O ok250 (expr_forms _) ⟨zC,O,T⟩<|zA<|zT<|zY _ (Weak.mem [true,false] O)<|zId (ps:=[34]) hz 1 O O ok282 (forms_iter e he) (fun _ _=>O) O (fun pre=>pre.all fW=true) (fun pre=>[E.row b2 36 [cI 0]]) (fun c pre=>(c=.ret/\pre.all fW=false)) (fun c pre=>[E.row b2 36 [cI 1]]) ⟨O,O⟩ ?_ ?_ ?_ ?_
      ·intro pre x suf hxs hi z hz
       refine zQ O<|zW O O (qT [none,some 2] O zr164 O) ?_
       rintro _ _ ⟨b3,rfl,rfl⟩
       refine rStR 0 sz164 O<|zA ?_
       intro z hz
       refine zT<|Y O<|zL zAq (J 0 O) O<|zZ O ok251 (lin_Validate x (forms_wt he (by rw [hxs];simp))) ⟨zC,O,T⟩<|yQ O<|zA<|zE O (fun c6=>?_) (fun c6=>?_)
       ·try simp only [sx] at c6
        refine Y O<|rStR 1 sz36 O<|zA<|zG ?_
        exact zEh (τ:=⟨[],_⟩) (Weak.mk [false,true] T O) ⟨⟨O,by simp only [List.all_append,List.all_cons,linErr_ne c6,Bool.false_and,Bool.and_false]⟩,O⟩
       ·try simp only [sx] at c6
        refine zJ ?_
        exact zEh (τ:=⟨[],_⟩) (Weak.mk [false,true] T O) ⟨by simp only [List.all_append,hi,List.all_cons,List.all_nil,linErr_eq c6,Bool.and_self],O⟩
      ·intro hd
       refine Y O<|rStR 0 sz36 O<|zA<|zG<|fin1 (wJ zJn O (J 0 O) O) ?_
       rw [bQ,c1,c2,c3,c4,jS,h5,hd];rfl
      ·rintro pre x suf hxs hx
       rcases hx with ⟨hc,hx⟩
       clear hc
       repeat (first|refine zRv ?_|refine zOz ?_)
       refine fin1 (wJ zJn O (J 0 O) O) ?_
       rw [bQ,c1,c2,c3,c4,jS,h5,hxs,all_app_no hx];rfl
      ·rintro i pre x suf hxs hx
       rcases hx with ⟨hc,hx⟩
       cases hc
theorem expr_Size (e:Ex) (he:e.wt<=6000000000000):
    Pur cfg 223 [vE e] (vI (szT e)):=by
 refine zR Tryz.func223 O Tryz.ntmps223 Tryz.results223 O ?_
 intro z hz
 refine Y O<|zW O O (qB O O) ?_
 rintro _ _ ⟨b1,rfl,rfl⟩
 refine G O<|zA<|Y O<|zW O O (qS O zr3) ?_
 rintro _ _ ⟨b2,rfl,rfl⟩
 refine rStR 0 sz3 O<|zA<|zK<|Y O<|zL yV (J 1 O) O<|zZ O ok196 (zUb _) ⟨zC,O,T⟩<|zA<|zT<|zY _ (Weak.mem [true,false] O)<|zId (ps:=[6]) hz 1 O O ok225 (zRp e he) (fun _ _=>O) O (fun pre=>pre.length<=2000) (fun pre=>[E.row b2 3 [cI (pre.length:Int)]]) (fun c pre=>(c=.exit 0/\pre.length=2001)) (fun c pre=>[E.row b2 3 [cI (pre.length:Int)]]) ⟨by simp,O⟩ ?_ ?_ ?_ ?_
 ·intro pre x suf hxs hi z hz
  refine zJ ?_
  intro z hz
  refine zT<|Y O<|zI one3 (J 0 O) O<|qF O ⟨by omega,by omega⟩<|rStR 0 sz3 O<|zA<|Y O<|zI one3 (J 0 O) O<|zAf O<|zA<|zE O (fun c1=>?_) (fun c1=>?_)
  ·try simp only [sx] at c1
   refine qM ?_
   exact zEh (τ:=⟨[],_⟩) (Weak.mk [true] T O) ⟨⟨O,by simp;omega⟩,(by dsimp only;rw [show ((pre++[x]).length:Int)=pre.length+1 by simp];rfl)⟩
  ·try simp only [sx] at c1
   refine zJ ?_
   exact zEh (τ:=⟨[],_⟩) (Weak.mk [true] T O) ⟨(by simp;omega),(by dsimp only;rw [show ((pre++[x]).length:Int)=pre.length+1 by simp];rfl)⟩
 ·intro hd
  refine Y O<|zI one3 (J 0 O) O<|G O<|zA<|zG<|zS O ?_
  exact congrArg vI (by rw [szT];omega)
 ·rintro pre x suf hxs hx
  rcases hx with ⟨hc,hx⟩
  cases hc
 ·rintro i pre x suf hxs hx
  rcases hx with ⟨hc,hx⟩
  injection hc with hc
  subst hc
  refine Y O<|zI one3 (J 0 O) O<|G O<|zA<|zG<|zS O ?_
  exact congrArg vI (by rw [szT,hxs];simp at hx⊢;omega)
theorem expr_Validate (e:Ex) (he:e.wt<=6000000000000):
    Pur cfg 195 [vE e] (vI (fX e)):=by
 refine zR Tryz.func195 O Tryz.ntmps195 Tryz.results195 O ?_
 intro z hz
 refine Y O<|zW O O (qB O O) ?_
 rintro _ _ ⟨b1,rfl,rfl⟩
 refine zW O O (qS O zr36) ?_
 rintro _ _ ⟨b2,rfl,rfl⟩
 refine zA<|zK<|Y O<|zL yV (J 1 O) O<|zZ O ok222 (expr_Depth e he) ⟨zC,O,T⟩<|zAf O<|zA<|zE O (fun c1=>?_) (fun c1=>?_)
 ·try simp only [sx] at c1
  refine Y O<|rStR 0 sz36 O<|zA<|zG<|fin1 (wJ zJn O (J 0 O) O) ?_
  rw [fX,zAi c1];rfl
 ·try simp only [sx] at c1
  refine zJ<|zK<|Y O<|zL yV (J 1 O) O<|zZ O ok223 (expr_Size e he) ⟨zC,O,T⟩<|zAf O<|zA<|zE O (fun c2=>?_) (fun c2=>?_)
  ·try simp only [sx] at c2
   refine Y O<|rStR 0 sz36 O<|zA<|zG<|fin1 (wJ zJn O (J 0 O) O) ?_
   rw [fX,qK (by omega),zAi c2];rfl
  ·try simp only [sx] at c2
   refine zJ<|zK<|Y O<|zL yV (J 1 O) O<|zZ O ok196 (zUb _) ⟨zC,O,T⟩<|zA<|zT<|zY _ (Weak.mem [true,false] O)<|zId (ps:=[13]) hz 1 O O ok225 (zRp e he) (fun _ _=>O) O (fun pre=>gI pre=0) (fun pre=>[E.row b2 36 [cI 0]]) (fun c pre=>(c=.ret/\¬gI pre=0)) (fun c pre=>[E.row b2 36 [cI (gI pre)]]) ⟨O,O⟩ ?_ ?_ ?_ ?_
   ·intro pre x suf hxs hi z hz
    have hxw:x.wt<=6000000000000:=by have:=zLn e x (by rw [hxs];simp);omega
    refine zQ O<|zW O O (qT [none,none,none,none,none,none,none,none,none,none,some 2,some 4,some 13] O zLw O) ?_
    rintro _ _ ⟨b3,rfl,rfl⟩
    refine rStR 0 sz167 O<|zA ?_
    intro z hz
    refine zT<|Y O<|zL yV (J 0 O) O<|zZ O ok224 (expr_validNode x hxw) ⟨zC,O,T⟩<|G O<|zA<|Y O<|G O<|yQ O<|zA<|zE O (fun c3=>?_) (fun c3=>?_)
    ·try simp only [sx] at c3
     refine Y O<|G O<|rStR 1 sz36 O<|zA<|zG ?_
     exact zEh (τ:=⟨[],_⟩) (Weak.mk [false,true] T O) ⟨⟨O,by rw [errs_one hi c3];exact c3⟩,(by dsimp only;rw [errs_one hi c3];rfl)⟩
    ·try simp only [sx] at c3
     refine zJ ?_
     exact zEh (τ:=⟨[],_⟩) (Weak.mk [false,true] T O) ⟨(by dsimp only;rw [zGb,hi,gI,c3];rfl),O⟩
   ·intro hd
    refine Y O<|rStR 0 sz36 O<|zA<|zG<|fin1 (wJ zJn O (J 0 O) O) ?_
    rw [fX,qK (by omega),qK (by omega),cond_false,cond_false,fK,hd]
   ·rintro pre x suf hxs hx
    rcases hx with ⟨hc,hx⟩
    clear hc
    repeat (first|refine zRv ?_|refine zOz ?_)
    refine fin1 (wJ zJn O (J 0 O) O) ?_
    rw [fX,qK (by omega),qK (by omega),cond_false,cond_false,fK,hxs,errs_pre (suf:=suf) hx]
   ·rintro i pre x suf hxs hx
    rcases hx with ⟨hc,hx⟩
    cases hc
end Go.W
end
section
set_option maxRecDepth 10000
namespace Go.W
open Go Go.Eng Go.Proofs Go.L41 Go.Br
attribute [local irreducible] AWP RWP TD fT
theorem ok105:bA Tryz.prog 105=true:=by kernel_rfl
theorem ok199:bA Tryz.prog 199=true:=by kernel_rfl
theorem ok230:bA Tryz.prog 230=true:=by kernel_rfl
theorem ok231:bA Tryz.prog 231=true:=by kernel_rfl
theorem ok232:bA Tryz.prog 232=true:=by kernel_rfl
theorem ok255:bA Tryz.prog 255=true:=by kernel_rfl
theorem ok285:bA Tryz.prog 285=true:=by kernel_rfl
theorem base_LinsF (a b:List Lf) (ha:a.length<=6000000000000) (hw:∀x,x∈a->x.L.length<=6000000000000):
    Pur cfg 285 [rD a,rD b] (vB (decide (a=b))):=by
 refine zR Tryz.func285 O Tryz.ntmps285 Tryz.results285 O ?_
 intro z hz
 refine Y O<|G O<|zA<|zK<|Y O<|G O<|qC O zCf<|G O<|qC O zCf<|yQ O<|zA<|zE O (fun c1=>?_) (fun c1=>?_)
 ·exact j5
 ·try simp only [sx] at c1
  refine zJ<|zK<|Y O<|G O<|zA<|zT<|zY ⟨[(5,.c _),(0,.c _),(1,.c _)],[]⟩ (Weak.mk [] ⟨zC,zC,zC,T⟩ O)<|qG 1 0 O O (Nat) (fun k=>[(5,vI k)]) (fun k=>[]) (fun k=>k<=a.length/\(a.take k=b.take k)) (fun k=>a.length-k) ⟨0,⟨by omega,O⟩,Weak.mk [] ⟨zC,zC,zC,T⟩ O⟩ ?_
  rintro k ⟨hk,hp⟩
  refine zK<|Y O<|G O<|G O<|qC O zCf<|yF O<|zA<|zE O (fun c2=>?_) (fun c2=>?_)
  ·try simp only [sx] at c2
   obtain ⟨x,hx⟩:=yC a k (by omega)
   obtain ⟨y,hy⟩:=yC b k (by omega)
   refine zJ<|zK<|zT<|zK<|qV 10 mixed (by kernel_rfl) O O<|zN O O (zO O O)<|zN O O (zO O O)<|zN O O (qH O zCf O O (by omega) (D (by assumption)))<|zN O O (zV O zAq O qD O)<|zN O O (zO O O)<|zN O O (zO O O)<|zN O O (qH O zCf O O (by omega) (D (by assumption)))<|zN O O (zV O zAq O qD O)<|zN O O (qE O ok230 (base_Lin x y (hw x (qL hx))) ⟨zC,O,zC,O,T⟩)<|zN O O (kA O O)<|yK<|zA<|zE O (fun c3=>?_) (fun c3=>?_)
   ·exact v10
   ·exact n9
  ·exact k9
theorem base_Lins (a b:List Lf) (ha:a.length<=6000000000000) (hw:mD a<=6000000000000):Pur cfg 285 [rD a,rD b] (vB (decide (a=b))):=
  base_LinsF a b ha fun x hx=>by have:=zFg hx;omega
theorem base_Index (a b:Ix) (ha:a.wt<=6000000000000):
    Pur cfg 255 [jD a,jD b] (vB (decide (a=b))):=by
 refine zR Tryz.func255 O Tryz.ntmps255 Tryz.results255 O ?_
 intro z hz
 have hw:=ha
 unfold Ix.wt at hw
 refine Y O<|zW O O (qB O O) ?_
 rintro _ _ ⟨b1,rfl,rfl⟩
 refine zW O O (qB O O) ?_
 rintro _ _ ⟨b2,rfl,rfl⟩
 refine G O<|zA<|Y O<|zD O zDb<|zI one9 (J 1 O) O<|zD O zDb<|zI one9 (J 0 O) O<|zX O (kF O O O)<|G O<|rL0 O (fun g1_5=>zF O zEp O) O<|rL1 11 O (fun g1_5=>zV O zAq O (J 1 O) O) O<|rL0 O (fun g1_5=>zF O zEp O) O<|rL1 13 O (fun g1_5=>zV O zAq O (J 0 O) O) O<|rLz [(12,_),(14,_)] O gv1 ⟨O,O,O,O,T⟩ (fun g1_5=>qE O ok230 (base_Lin a.Lin b.Lin (by omega)) ⟨zC,O,zC,O,T⟩) O<|yO O (fun h=>h)<|G O<|rL0 O (fun g1_12=>zF O zBu O) O<|rL1 18 O (fun g1_12=>zH O zDv O (J 1 O) O) O<|rL0 O (fun g1_12=>zF O zBu O) O<|rL1 20 O (fun g1_12=>zH O zDv O (J 0 O) O) O<|rLz [(19,_),(21,_)] O gv1 ⟨O,O,O,O,T⟩ (fun g1_12=>qE O ok285 (base_Lins a.At b.At (by omega) (by omega)) ⟨zC,O,zC,O,T⟩) O<|yO O (fun h=>h)<|G O<|zA<|zG<|zS O ?_
 exact congrArg vB (ix_eq a b)
theorem base_Indices (a b:List Ix) (ha:a.length<=6000000000000) (hw:gB a<=6000000000000):
    Pur cfg 231 [mP a,mP b] (vB (decide (a=b))):=by
 refine zR Tryz.func231 O Tryz.ntmps231 Tryz.results231 O ?_
 intro z hz
 refine Y O<|G O<|zA<|zK<|Y O<|G O<|qC O wU<|G O<|qC O wU<|yQ O<|zA<|zE O (fun c1=>?_) (fun c1=>?_)
 ·exact j5
 ·try simp only [sx] at c1
  refine zJ<|zK<|Y O<|G O<|zA<|zT<|zY ⟨[(5,.c _),(0,.c _),(1,.c _)],[]⟩ (Weak.mk [] ⟨zC,zC,zC,T⟩ O)<|qG 1 0 O O (Nat) (fun k=>[(5,vI k)]) (fun k=>[]) (fun k=>k<=a.length/\(a.take k=b.take k)) (fun k=>a.length-k) ⟨0,⟨by omega,O⟩,Weak.mk [] ⟨zC,zC,zC,T⟩ O⟩ ?_
  rintro k ⟨hk,hp⟩
  refine zK<|Y O<|G O<|G O<|qC O wU<|yF O<|zA<|zE O (fun c2=>?_) (fun c2=>?_)
  ·try simp only [sx] at c2
   obtain ⟨x,hx⟩:=yC a k (by omega)
   obtain ⟨y,hy⟩:=yC b k (by omega)
   have hxw:=zJs (qL hx)
   refine zJ<|zK<|zT<|zK<|qV 10 mixed (by kernel_rfl) O O<|zN O O (zO O O)<|zN O O (zO O O)<|zN O O (qH O wU O O (by omega) (D (by assumption)))<|zN O O (zV O zIp O qD O)<|zN O O (zO O O)<|zN O O (zO O O)<|zN O O (qH O wU O O (by omega) (D (by assumption)))<|zN O O (zV O zIp O qD O)<|zN O O (qE O ok255 (base_Index x y (by omega)) ⟨zC,O,zC,O,T⟩)<|zN O O (kA O O)<|yK<|zA<|zE O (fun c3=>?_) (fun c3=>?_)
   ·exact v10
   ·exact n9
  ·exact k9
theorem base_Exprs_of (a b:List Ex) (hE:∀x,x∈a->∀y,Pur cfg 199 [vE x,vE y] (vB (decide (x=y)))) (ha:a.length<=6000000000000):
    Pur cfg 232 [vEs a,vEs b] (vB (decide (a=b))):=by
 refine zR Tryz.func232 O Tryz.ntmps232 Tryz.results232 O ?_
 intro z hz
 refine Y O<|G O<|zA<|zK<|Y O<|G O<|qC O zBa<|G O<|qC O zBa<|yQ O<|zA<|zE O (fun c1=>?_) (fun c1=>?_)
 ·exact j5
 ·try simp only [sx] at c1
  refine zJ<|zK<|Y O<|G O<|zA<|zT<|zY ⟨[(5,.c _),(0,.c _),(1,.c _)],[]⟩ (Weak.mk [] ⟨zC,zC,zC,T⟩ O)<|qG 1 0 O O (Nat) (fun k=>[(5,vI k)]) (fun k=>[]) (fun k=>k<=a.length/\(a.take k=b.take k)) (fun k=>a.length-k) ⟨0,⟨by omega,O⟩,Weak.mk [] ⟨zC,zC,zC,T⟩ O⟩ ?_
  rintro k ⟨hk,hp⟩
  refine zK<|Y O<|G O<|G O<|qC O zBa<|yF O<|zA<|zE O (fun c2=>?_) (fun c2=>?_)
  ·try simp only [sx] at c2
   obtain ⟨x,hx⟩:=yC a k (by omega)
   obtain ⟨y,hy⟩:=yC b k (by omega)
   refine zJ<|zK<|zT<|zK<|qV 10 mixed (by kernel_rfl) O O<|zN O O (zO O O)<|zN O O (zO O O)<|zN O O (qH O zBa O O (by omega) (zJt (by assumption)))<|zN O O (zV O yV O qD O)<|zN O O (zO O O)<|zN O O (zO O O)<|zN O O (qH O zBa O O (by omega) (zJt (by assumption)))<|zN O O (zV O yV O qD O)<|zN O O (qE O ok199 (hE x (qL hx) y) ⟨zC,O,zC,O,T⟩)<|zN O O (kA O O)<|yK<|zA<|zE O (fun c3=>?_) (fun c3=>?_)
   ·exact v10
   ·exact n9
  ·exact k9
theorem base_Expr_step (a:Ex) (ih:∀x,x∈a.Args->x.wt<=6000000000000->∀y,Pur cfg 199 [vE x,vE y] (vB (decide (x=y)))) (ha:a.wt<=6000000000000) (b:Ex):
    Pur cfg 199 [vE a,vE b] (vB (decide (a=b))):=by
 refine zR Tryz.func199 O Tryz.ntmps199 Tryz.results199 O ?_
 intro z hz
 obtain ⟨hL,hI,hA⟩:=a.parts ha
 have hw:=Ex.wt_eq a
 refine Y O<|zW O O (qB O O) ?_
 rintro _ _ ⟨b1,rfl,rfl⟩
 refine zW O O (qB O O) ?_
 rintro _ _ ⟨b2,rfl,rfl⟩
 refine G O<|zA<|Y O<|zD O kR<|zI one3 (J 1 O) O<|zD O kR<|zI one3 (J 0 O) O<|qQ O<|G O<|rL0 O (fun g1_5=>zF O zDp O) O<|rL1 11 O (fun g1_5=>zH O one9 O (J 1 O) O) O<|rL0 O (fun g1_5=>zF O zDp O) O<|rL1 13 O (fun g1_5=>zH O one9 O (J 0 O) O) O<|rLz [(12,_),(14,_)] O gv1 ⟨O,O,O,O,T⟩ (fun g1_5=>kF O O O) O<|yO O (fun h=>h)<|G O<|rL0 O (fun g1_12=>zF O zGm O) O<|rL1 18 O (fun g1_12=>zV O qN O (J 1 O) O) O<|rL0 O (fun g1_12=>zF O zGm O) O<|rL1 20 O (fun g1_12=>zV O qN O (J 0 O) O) O<|rLz [(19,_),(21,_)] O gv1 ⟨O,O,O,O,T⟩ (fun g1_12=>zKp O fl59 O O O) O<|yO O (fun h=>h)<|G O<|rL0 O (fun g1_19=>zF O zDo O) O<|rL1 25 O (fun g1_19=>zV O qX O (J 1 O) O) O<|rL0 O (fun g1_19=>zF O zDo O) O<|rL1 27 O (fun g1_19=>zV O qX O (J 0 O) O) O<|rLz [(26,_),(28,_)] O gv1 ⟨O,O,O,O,T⟩ (fun g1_19=>zKp O fl43 O O O) O<|yO O (fun h=>h)<|G O<|rL0 O (fun g1_26=>zF O zEr O) O<|rL1 32 O (fun g1_26=>zV O zAq O (J 1 O) O) O<|rL0 O (fun g1_26=>zF O zEr O) O<|rL1 34 O (fun g1_26=>zV O zAq O (J 0 O) O) O<|rLz [(33,_),(35,_)] O gv1 ⟨O,O,O,O,T⟩ (fun g1_26=>qE O ok230 (base_Lin a.Lin b.Lin hL) ⟨zC,O,zC,O,T⟩) O<|yO O (fun h=>h)<|G O<|rL0 O (fun g1_33=>zF O kQ O) O<|rL1 39 O (fun g1_33=>zH O wA O (J 1 O) O) O<|rL0 O (fun g1_33=>zF O kQ O) O<|rL1 41 O (fun g1_33=>zH O wA O (J 0 O) O) O<|rLz [(40,_),(42,_)] O gv1 ⟨O,O,O,O,T⟩ (fun g1_33=>qE O ok231 (base_Indices a.Idx b.Idx hI (by omega)) ⟨zC,O,zC,O,T⟩) O<|yO O (fun h=>h)<|G O<|rL0 O (fun g1_40=>zF O zAd O) O<|rL1 46 O (fun g1_40=>zH O zBl O (J 1 O) O) O<|rL0 O (fun g1_40=>zF O zAd O) O<|rL1 48 O (fun g1_40=>zH O zBl O (J 0 O) O) O<|rLz [(47,_),(49,_)] O gv1 ⟨O,O,O,O,T⟩ (fun g1_40=>qE O ok232 (base_Exprs_of a.Args b.Args (fun x hx y=>ih x hx (by have:=Ex.arg_wt hx;omega) y) hA) ⟨zC,O,zC,O,T⟩) O<|yO O (fun h=>h)<|G O<|zA<|zG<|zS O ?_
 exact congrArg vB (ex_eq a b)
theorem base_Expr (a b:Ex) (ha:a.wt<=6000000000000):Pur cfg 199 [vE a,vE b] (vB (decide (a=b))):=by
  induction a using Ex.ind generalizing b with
  |_ a ih=>exact base_Expr_step a (fun x hx h y=>ih x hx y h) ha b
theorem zUr (e:Ex) (ih:∀a,a∈e.Args->∀(m:Nat) (x:Int),a.fit->m<=1000000->x=m->Pur cfg 105 [vE a,vI x] (vI (fE a m))) (m:Nat) (x:Int) (hf:e.fit) (hm:m<=1000000) (hx:x=m):
    Pur cfg 105 [vE e,vI x] (vI (fE e m)):=by
 refine zR Tryz.func105 O Tryz.ntmps105 Tryz.results105 O ?_
 intro z hz
 obtain ⟨f1,f2,f3,f4,f5⟩:=Ex.fit_eq hf
 have hW:=weighE_eq e m
 refine Y O<|zW O O (qB O O) ?_
 rintro _ _ ⟨b1,rfl,rfl⟩
 refine G O<|zA<|Y O<|zD O zEr<|zD O zAp<|zI zCa (J 0 O) O<|qC O zDs<|qF O ⟨by omega,by omega⟩<|zD O kQ<|zI wA (J 0 O) O<|qC O wU<|qF O ⟨by omega,by omega⟩<|G O<|zA<|zK<|Y O<|G O<|zA<|zT<|zY ⟨[(6,.c _),(5,.c _),(1,.c _),(2,.c _)],[_]⟩ (Weak.mk [true] ⟨zC,zC,zC,zC,T⟩ O) ?_
 refine qG 2 0 O O (Nat×Nat) (fun ⟨k,n⟩=>[(6,vI k),(5,vI n)]) (fun ⟨k,n⟩=>[]) (fun ⟨k,n⟩=>k<=e.Idx.length/\(n<=m+4*140737488355328)/\(dQ m (1+e.Lin.L.length+e.Idx.length) e.Idx=dQ m n (e.Idx.drop k))) (fun ⟨k,n⟩=>e.Idx.length-k) ⟨⟨0,1+e.Lin.L.length+e.Idx.length⟩,⟨by omega,by omega,O⟩,Weak.mk [true] ⟨zC,VLe.of_eq (congrArg vI (by omega)),zC,zC,T⟩ O⟩ ?_
 rintro ⟨k,n⟩ ⟨hk,hn1,hn2⟩
 show AWP _ _ _ _ _ ⟨[(6,vI k),(5,vI n)]++_,[]++_⟩
 refine zK<|Y O<|G O<|zD O kQ<|zI wA (J 0 O) O<|qC O wU<|yF O<|G O<|rL0 O (fun g3_5=>zO O O) O<|rL0 O (fun g3_5=>zO O O) O<|rLz [(24,_),(25,_)] O gv1 ⟨O,O,O,O,T⟩ (fun g3_5=>kH O O O) O<|yO O (fun h=>h)<|zA<|zE O (fun c1=>?_) (fun c1=>?_)
 ·try simp only [sx] at c1
  obtain ⟨y,hy⟩:=yC e.Idx k (by omega)
  obtain ⟨i1,i2,i3⟩:=f4 y (qL hy)
  refine zJ<|zK<|zT<|zK<|qV 19 mixed (by kernel_rfl) O O<|zN O O (zO O O)<|zN O O (zF O kQ O)<|zN O O (zH O wA O (J 0 O) O)<|zN O O (zO O O)<|zN O O (qH O wU O O (by omega) (D (by assumption)))<|zN O O (qU O zEp O)<|zN O O (qU O zAp O)<|zN O O (zH O zCa O qD O)<|zN O O (yH O zDs O)<|zN O O (zFi O O O ⟨by omega,by omega⟩)<|zN O O (zF O kQ O)<|zN O O (zH O wA O (J 0 O) O)<|zN O O (zO O O)<|zN O O (qH O wU O O (by omega) (D (by assumption)))<|zN O O (qU O zBu O)<|zN O O (zH O zDv O qD O)<|zN O O (yH O zCf O)<|zN O O (zFi O O O ⟨by omega,by omega⟩)<|zN O O (yE O O)<|yK<|zA<|Y O<|G O<|zA<|zT<|zY ⟨[(7,.c _),(5,.c _),(1,.c _),(2,.c _),(6,.c _)],[_]⟩ (Weak.mk [true] ⟨zC,zC,zC,zC,zC,T⟩ O) ?_
  refine qG 2 0 O O (Nat×Nat) (fun ⟨j,p⟩=>[(7,vI j),(5,vI p)]) (fun ⟨j,p⟩=>[]) (fun ⟨j,p⟩=>j<=y.At.length/\(p<=m+4*140737488355328)/\(fI m (n+y.Lin.L.length+y.At.length) y.At=fI m p (y.At.drop j))) (fun ⟨j,p⟩=>y.At.length-j) ⟨⟨0,n+y.Lin.L.length+y.At.length⟩,⟨by omega,by omega,O⟩,Weak.mk [true] ⟨zC,VLe.of_eq (congrArg vI (by omega)),zC,zC,zC,T⟩ O⟩ ?_
  rintro ⟨j,p⟩ ⟨hj,hp1,hp2⟩
  show AWP _ _ _ _ _ ⟨[(7,vI j),(5,vI p)]++_,[]++_⟩
  refine zK<|Y O<|G O<|zD O kQ<|zI wA (J 0 O) O<|G O<|qI O wU (by omega) (D (by assumption))<|yB O zBu<|zI zDv qD O<|qC O zCf<|yF O<|G O<|rL0 O (fun g7_9=>zO O O) O<|rL0 O (fun g7_9=>zO O O) O<|rLz [(58,_),(59,_)] O gv1 ⟨O,O,O,O,T⟩ (fun g7_9=>kH O O O) O<|yO O (fun h=>h)<|zA<|zE O (fun c2=>?_) (fun c2=>?_)
  ·try simp only [sx] at c2
   obtain ⟨l,hl⟩:=yC y.At j (by omega)
   have hl2:=i3 l (qL hl)
   refine zJ<|zK<|zT<|zQ O<|G O<|zD O kQ<|zI wA (J 0 O) O<|G O<|qI O wU (by omega) (D (by assumption))<|yB O zBu<|zI zDv qD O<|G O<|qI O zCf (by omega) (D (by assumption))<|yB O zAp<|zI zCa qD O<|qC O zDs<|qF O ⟨by omega,by omega⟩<|G O<|zA<|zQ O<|G O<|qF O ⟨by omega,by omega⟩<|G O<|zA ?_
   refine ⟨⟨j+1,p+l.L.length⟩,⟨by omega,by omega,by rw [hp2,yA hl,fI,if_pos (by omega)]⟩,(by show y.At.length-(j+1)<y.At.length-j;omega),Weak.mk [true] ⟨zC,VLe.of_eq (congrArg vI (by omega)),zC,zC,zC,T⟩ O⟩
  ·try simp only [sx] at c2
   have hN2:=weighAt_end (l:=y.At) (k:=j) (n:=p) hx (by omega)
   refine qM<|zQ O<|G O<|qF O ⟨by omega,by omega⟩<|G O<|zA ?_
   refine ⟨⟨k+1,p⟩,⟨by omega,hp1,by rw [hn2,yA hy,dQ,if_pos (by omega),hp2,←hN2]⟩,(by show e.Idx.length-(k+1)<e.Idx.length-k;omega),Weak.mk [true] ⟨zC,zC,zC,zC,T⟩ O⟩
 ·try simp only [sx] at c1
  have hN:=weighIdx_end (l:=e.Idx) (k:=k) (n:=n) hx (by omega)
  refine qM<|zK<|Y O<|G O<|zA<|zT<|zY ⟨[(8,.c _),(5,.c _),(1,.c _),(2,.c _)],[_]⟩ (Weak.mk [true] ⟨zC,zC,zC,zC,T⟩ O)<|qG 2 0 O O (Nat×Nat) (fun ⟨k,n⟩=>[(8,vI k),(5,vI n)]) (fun ⟨k,n⟩=>[]) (fun ⟨k,n⟩=>k<=e.Args.length/\(n<=m+4*140737488355328)/\(fE e m=gJ (e.Args.drop k) m n)) (fun ⟨k,n⟩=>e.Args.length-k) ⟨⟨0,n⟩,⟨by omega,hn1,by rw [hW,hn2,←hN];rfl⟩,Weak.mk [true] ⟨zC,zC,zC,zC,T⟩ O⟩ ?_
  rintro ⟨k,n⟩ ⟨hk3,hn3,hn4⟩
  show AWP _ _ _ _ _ ⟨[(8,vI k),(5,vI n)]++_,[]++_⟩
  refine zK<|Y O<|G O<|zD O zAd<|zI zBl (J 0 O) O<|qC O zBa<|yF O<|G O<|rL0 O (fun g11_5=>zO O O) O<|rL0 O (fun g11_5=>zO O O) O<|rLz [(83,_),(84,_)] O gv1 ⟨O,O,O,O,T⟩ (fun g11_5=>kH O O O) O<|yO O (fun h=>h)<|zA<|zE O (fun c3=>?_) (fun c3=>?_)
  ·try simp only [sx] at c3
   obtain ⟨a,ha⟩:=yC e.Args k (by omega)
   have hwa:=zGp a (m-n) (f5 a (qL ha))
   refine zJ<|zK<|zT<|zQ O<|G O<|zD O zAd<|zI zBl (J 0 O) O<|G O<|qI O zBa (by omega) (zJt (by assumption))<|zL yV qD O<|G O<|G O<|zX O (qZ O O O ⟨by omega,by omega⟩)<|zZ O ok105 (ih a (qL ha) (m-n) _ (f5 a (qL ha)) (by omega) (by omega)) ⟨zC,O,zC,O,T⟩<|qF O ⟨by omega,by omega⟩<|G O<|zA<|zQ O<|G O<|qF O ⟨by omega,by omega⟩<|G O<|zA ?_
   refine ⟨⟨k+1,n+fE a (m-n)⟩,⟨by omega,by omega,by rw [hn4,yA ha,gJ,if_pos (by omega)]⟩,(by show e.Args.length-(k+1)<e.Args.length-k;omega),Weak.mk [true] ⟨zC,VLe.of_eq (congrArg vI (by omega)),zC,zC,T⟩ O⟩
  ·try simp only [sx] at c3
   refine qM<|Y O<|G O<|G O<|zA<|zG<|zS O ?_
   exact congrArg vI (by rw [hn4,←weighL_end hx (by omega)])
theorem base_Weigh (e:Ex) (m:Nat) (x:Int) (hf:e.fit) (hm:m<=1000000) (hx:x=m):Pur cfg 105 [vE e,vI x] (vI (fE e m)):=by
  induction e using Ex.ind generalizing m x with
  |_ e ih=>exact zUr e (fun a ha m x h1 h2 h3=>ih a ha m x h1 h2 h3) m x hf hm hx
end Go.W
end
