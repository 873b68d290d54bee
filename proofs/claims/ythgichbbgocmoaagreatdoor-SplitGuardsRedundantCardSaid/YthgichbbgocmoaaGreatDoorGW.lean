/-
  What functions compute.
  What functions compute.
  What functions compute.
  What functions compute.
  What functions compute.
  Conditions: none.
-/
import Derived.Test.YthgichbbgocmoaaGreatDoorFacts
import Derived.Test.YthgichbbgocmoaaGreatDoorPlain
set_option linter.unusedSimpArgs false
set_option linter.unusedVariables false
section
set_option maxRecDepth 10000
namespace Go.W
open Go Go.Eng Go.Proofs Go.L41 Go.Br
attribute [local irreducible] AWP RWP TD fH
theorem kw_ascii:∀(j:Nat) (b:UInt8),(bs kwBytes).data.toList[j]? =some b->b.toNat<128:=by
  intro j b h
  have:(kwBytes.all fun c=>decide (c.toNat<128))=true:=by decide
  rw [List.all_eq_true] at this
  simpa using this b (List.mem_of_getElem? h)
theorem kw_fields:(Lib.fields kwBytes).map bs=fQ:=by decide+kernel
theorem nm1 {s:ByteArray} (h:Lz (!decide (s=bs [])&&decide ((s.size:Int)<=16)) true=true):¬s=bs []:=by
  simp only [Lz,cond_true,Bool.and_eq_true,Bool.not_eq_true',decide_eq_false_iff_not] at h
  exact h.1
theorem nm2 {s:ByteArray} {p:Bool} (h:Lz (!decide (s=bs [])&&decide ((s.size:Int)<=16)&&p) true=true):s.size<=1000000:=by
  simp only [Lz,cond_true,Bool.and_eq_true,decide_eq_true_eq] at h
  omega
theorem kP:mO Tryz.prog 51=some 2:=by kernel_rfl
theorem zPo:mO Tryz.prog 92=some 4:=by kernel_rfl
theorem zHt:mO Tryz.prog 109=some 2:=by kernel_rfl
theorem v:dX Tryz.prog 44=some (92,4,72):=by kernel_rfl
theorem N:dX Tryz.prog 49=some (109,2,24):=by kernel_rfl
theorem el85:dX Tryz.prog 85=some (9,1,16):=by kernel_rfl
theorem zEv:bH Tryz.prog 51 0=some (0,2):=by kernel_rfl
theorem wK:bH Tryz.prog 51 1=some (1,49):=by kernel_rfl
theorem zAa:bH Tryz.prog 109 0=some (0,9):=by kernel_rfl
theorem zCo:bH Tryz.prog 109 1=some (1,2):=by kernel_rfl
theorem fl109:flatK Tryz.prog 109=some [.str,.int]:=by kernel_rfl
theorem ik21:tJ Tryz.prog 21=some .i32:=by kernel_rfl
theorem mixed:Tryz.prog.follows .mixedOrders=true:=by kernel_rfl
theorem ok46:bA Tryz.prog 46=true:=by kernel_rfl
theorem ok47:bA Tryz.prog 47=true:=by kernel_rfl
theorem ok48:bA Tryz.prog 48=true:=by kernel_rfl
theorem ok49:bA Tryz.prog 49=true:=by kernel_rfl
theorem ok53:bA Tryz.prog 53=true:=by kernel_rfl
theorem ok76:bA Tryz.prog 76=true:=by kernel_rfl
theorem ok84:bA Tryz.prog 84=true:=by kernel_rfl
theorem ok85:bA Tryz.prog 85=true:=by kernel_rfl
theorem ok86:bA Tryz.prog 86=true:=by kernel_rfl
theorem ok89:bA Tryz.prog 89=true:=by kernel_rfl
theorem ok109:bA Tryz.prog 109=true:=by kernel_rfl
theorem ok110:bA Tryz.prog 110=true:=by kernel_rfl
theorem ok118:bA Tryz.prog 118=true:=by kernel_rfl
theorem ok119:bA Tryz.prog 119=true:=by kernel_rfl
theorem ok249:bA Tryz.prog 249=true:=by kernel_rfl
theorem ok262:bA Tryz.prog 262=true:=by kernel_rfl
theorem U:lX Tryz.prog 2=true:=by kernel_rfl
theorem one9:lX Tryz.prog 9=true:=by kernel_rfl
theorem zBl:lX Tryz.prog 49=true:=by kernel_rfl
theorem pl51:fP Tryz.prog 51=some [(0,1),(1,1)]:=by kernel_rfl
theorem pl109:fP Tryz.prog 109=some [(0,1),(1,1)]:=by kernel_rfl
theorem sz51:(Tryz.prog.info? 51).map (·.size)=some 2:=by kernel_rfl
theorem sz109:(Tryz.prog.info? 109).map (·.size)=some 2:=by kernel_rfl
theorem un9:Tryz.prog.underlying 9=some .string:=by kernel_rfl
theorem us5:(Tryz.prog.underlying 5).isSome=true:=by kernel_rfl
theorem zr9:fF Tryz.prog 9=some [(Value.string (ByteArray.mk #[]))]:=by kernel_rfl
theorem zr51:fF Tryz.prog 51=some [(Value.int IntKind.i64 0),(Value.slice none 0 0)]:=by kernel_rfl
theorem zJk:fF Tryz.prog 109=some [(Value.string (ByteArray.mk #[])),(Value.int IntKind.i64 0)]:=by kernel_rfl
theorem zRi (n:Int):
    Pur cfg 46 [vR n] (vB (mU n)):=by
 refine zR Tryz.func46 O Tryz.ntmps46 Tryz.results46 O ?_
 exact r7
theorem lexer_digit (n:Int):
    Pur cfg 84 [vR n] (vB (vD n)):=by
 refine zR Tryz.func84 O Tryz.ntmps84 Tryz.results84 O ?_
 exact r7
theorem lexer_inWord (n:Int):
    Pur cfg 48 [vR n] (vB (rJ n)):=by
 refine zR Tryz.func48 O Tryz.ntmps48 Tryz.results48 O ?_
 intro z hz
 refine G O<|A O<|Y<|G O<|A O<|qD O ok46 (zRi _) ⟨R,O,T⟩<|A O<|rL0 O (fun g1_2=>zO O O) O<|rL1 6 O (fun g1_2=>qG O ok84 (lexer_digit _) ⟨R,O,T⟩) O<|r_or O (fun h=>(lzf h))<|A O<|rL0 O (fun g1_6=>zO O O) O<|rL1 10 O (fun g1_6=>yM O O O) O<|r_or O (fun h=>(lzf h))<|A O<|Y<|zH<|zS O ?_
 exact O
theorem zQm (s:ByteArray) (hs:s.size<=1000000):
    Pur cfg 47 [vS s,.c (.fn (.func 48) [] [])] (vI (sT gQ s.data.toList)):=by
 refine zR Tryz.func47 O Tryz.ntmps47 Tryz.results47 O ?_
 intro z hz
 refine G O<|A O<|Y<|G O<|A O<|Y<|zJ<|zQ<|zY ⟨[(5,.c _),(0,.c _),(1,.c _)],[]⟩ (Weak.mk [] ⟨R,R,R,T⟩ O)<|qK 1 0 O O (Nat) (fun k=>[(5,vI k)]) (fun k=>[]) (fun k=>k<=s.size/\(s.data.toList.take k).all gQ=true) (fun k=>s.size-k) ⟨0,⟨zA,O⟩,Weak.mk [] ⟨R,R,R,T⟩ O⟩ ?_
 rintro k ⟨hk,hp⟩
 refine zJ<|G O<|A O<|A O<|zW O (zBk O un9 O)<|yG O<|A O<|rL0 O (fun g2_4=>zO O O) O<|rL0 O (fun g2_4=>zO O O) O<|rL0 O (fun g2_4=>zO O O) O<|rLz [(12,_),(13,_)] O B ⟨O,O,O,O,T⟩ (fun g2_4=>zEd O un9 O O zA (by simp only [Lz,cond_true,decide_eq_true_eq] at g2_4;omega)) O<|rL1 14 O (fun g2_4=>zAl O us5 ik21 O) O<|rLz [(11,_),(15,_)] O B ⟨O,O,O,O,T⟩ (fun g2_4=>det_call_fn0 O O ok48 (lexer_inWord _) ⟨R,O,T⟩) O<|yR O (fun h=>h)<|Y<|zE O (fun c1=>?_) (fun c1=>?_)
 ·try simp only [sx] at c1
  obtain ⟨hlt,hcc⟩:=c1
  have hlt:k<s.size:=by omega
  rw [zMj] at hcc
  refine zK<|zQ<|zT O<|A O<|qI O ⟨zA,zA⟩<|A O<|Y ?_
  have hg:=zEi hlt
  refine ⟨k+1,⟨zA,by rw [zPl hg,hp];exact hcc⟩,zA,Weak.mk [] ⟨R,R,R,T⟩ O⟩
 ·try simp only [sx] at c1
  have hsp:sT gQ s.data.toList=k:=span_stop hp (by
    by_cases hlt:k<s.size
    · right;refine ⟨_,zEi hlt,?_⟩;rcases c1 with c1|c1;omega;rw [zMj] at c1;exact c1
    · left;simp;omega)
  refine qN<|G O<|A O<|A O<|Y<|zH<|zS O ?_
  rw [hsp]
theorem zRt (l:List ByteArray) (s:ByteArray) (hl:l.length<=6000000000000):
    Pur cfg 118 [vSs l,vS s] (vI (xO l s)):=by
 refine zR Tryz.func118 O Tryz.ntmps118 Tryz.results118 O ?_
 intro z hz
 refine G O<|A O<|Y<|zJ<|G O<|A O<|qB O el85<|A O<|Y<|zQ<|zY ⟨[(8,.c _),(0,.c _),(1,.c _),(7,.c _)],[]⟩ (Weak.mk [] ⟨R,R,R,R,T⟩ O)<|qK 1 0 O O (Nat) (fun k=>[(8,vI k)]) (fun k=>[]) (fun k=>k<=l.length/\dD (l.take k) s=false) (fun k=>l.length-k) ⟨0,⟨zA,O⟩,Weak.mk [] ⟨R,R,R,R,T⟩ O⟩ ?_
 rintro k ⟨hk,hp⟩
 refine G O<|yG O<|Y<|zJ<|zE O (fun c1=>?_) (fun c1=>?_)
 ·try simp only [sx] at c1
  obtain ⟨t,ht⟩:=qY l k zA
  refine zK<|zJ<|zQ<|G O<|A O<|A O<|Y<|G O<|A O<|A O<|A O<|qC O el85 zA (getm ht)<|zI one9 zZ O<|wL O<|Y<|zE O (fun c2=>?_) (fun c2=>?_)
  ·try simp only [sx] at c2
   refine G O<|A O<|A O<|Y<|zH<|zS O ?_
   rw [idxB_some ht c2 hp]
  ·try simp only [sx] at c2
   refine zK<|zT O<|qI O ⟨zA,zA⟩<|A O<|Y ?_
   refine ⟨k+1,⟨zA,zRk ht hp (fun e=>c2 e.symm)⟩,zA,Weak.mk [] ⟨R,R,R,R,T⟩ O⟩
 ·try simp only [sx] at c1
  refine qN<|G O<|A O<|Y<|zH<|zS O ?_
  rw [idxB_none (by rw [yV zA] at hp;exact hp)]
theorem zCw (l:List ByteArray) (s:ByteArray) (hl:l.length<=6000000000000):
    Pur cfg 85 [vSs l,vS s] (vB (dD l s)):=by
 refine zR Tryz.func85 O Tryz.ntmps85 Tryz.results85 O ?_
 intro z hz
 refine G O<|A O<|Y<|G O<|A O<|A O<|qD O ok118 (zRt l s hl) ⟨R,O,R,O,T⟩<|zW O (wF O O O)<|A O<|Y<|zH<|zS O ?_
 rw [idxB_has]
theorem lexer_keywords  :
    Pur cfg 86 [] (vSs fQ):=by
 refine zR Tryz.func86 O Tryz.ntmps86 Tryz.results86 O ?_
 intro z hz
 refine G O<|yI 1 O<|Y<|G O<|qD O ok119 (strings_Fields _ zB kw_ascii) ⟨R,O,T⟩<|A O<|Y<|zH<|zS O ?_
 exact congrArg vSs kw_fields
theorem zVz (s:ByteArray):
    Pur cfg 49 [vS s] (vB (dD fQ s)):=by
 refine zR Tryz.func49 O Tryz.ntmps49 Tryz.results49 O ?_
 intro z hz
 refine G O<|A O<|Y<|G O<|qD O ok86 (lexer_keywords) T<|A O<|qD O ok85 (zCw _ _ zB) ⟨R,O,R,O,T⟩<|A O<|Y<|zH<|zS O ?_
 exact O
theorem zBa (s:ByteArray):
    Pur cfg 17 [vS s] (vB (bD s)):=by
 refine zR Tryz.func17 O Tryz.ntmps17 Tryz.results17 O ?_
 intro z hz
 refine G O<|A O<|Y<|G O<|A O<|zW O (zBj O O O)<|A O<|rL0 O (fun g1_2=>zO O O) O<|rL1 6 O (fun g1_2=>zBk O un9 O) O<|rL1 7 O (fun g1_2=>wP O O O) O<|yR O (fun h=>h)<|A O<|rL0 O (fun g1_7=>zO O O) O<|rL1 11 O (fun g1_7=>zEd O un9 O O zB (size_pos (nm1 g1_7))) O<|rL1 12 O (fun g1_7=>zAl O us5 ik21 O) O<|rL1 13 O (fun g1_7=>qG O ok46 (zRi _) ⟨R,O,T⟩) O<|yR O (fun h=>h)<|A O<|rL0 O (fun g1_13=>zO O O) O<|rL1 17 O (fun g1_13=>qG O ok47 (zQm s (nm2 g1_13)) ⟨R,O,R,O,T⟩) O<|rL0 O (fun g1_13=>zO O O) O<|rL1 19 O (fun g1_13=>zBk O un9 O) O<|rLz [(18,_),(20,_)] O B ⟨O,O,O,O,T⟩ (fun g1_13=>yM O O O) O<|yR O (fun h=>h)<|A O<|rL0 O (fun g1_20=>zO O O) O<|rL1 24 O (fun g1_20=>qG O ok49 (zVz _) ⟨R,O,T⟩) O<|rL1 25 O (fun g1_20=>kJ O O) O<|yR O (fun h=>h)<|A O<|Y<|zH<|zS O ?_
 exact congrArg vB (isName_eq s)
theorem base_Words  :
    Pur cfg 110 [] (vSs fQ):=by
 refine zR Tryz.func110 O Tryz.ntmps110 Tryz.results110 O ?_
 intro z hz
 refine G O<|yI 1 O<|Y<|G O<|zW O (qZ O el85 zr9 O O O O)<|A O<|Y<|zH<|zS O ?_
 exact O
theorem base_Has (l:List ByteArray) (s:ByteArray) (hl:l.length<=6000000000000):
    Pur cfg 109 [vSs l,vS s] (vB (dD l s)):=by
 refine zR Tryz.func109 O Tryz.ntmps109 Tryz.results109 O ?_
 intro z hz
 refine G O<|A O<|Y<|zJ<|G O<|A O<|Y<|zQ<|zY ⟨[(5,.c _),(0,.c _),(1,.c _)],[]⟩ (Weak.mk [] ⟨R,R,R,T⟩ O)<|qK 1 0 O O (Nat) (fun k=>[(5,vI k)]) (fun k=>[]) (fun k=>k<=l.length/\dD (l.take k) s=false) (fun k=>l.length-k) ⟨0,⟨zA,O⟩,Weak.mk [] ⟨R,R,R,T⟩ O⟩ ?_
 rintro k ⟨hk,hp⟩
 refine zJ<|G O<|A O<|A O<|qB O el85<|yG O<|Y<|zE O (fun c1=>?_) (fun c1=>?_)
 ·try simp only [sx] at c1
  obtain ⟨t,ht⟩:=qY l k zA
  refine zK<|zJ<|zQ<|G O<|A O<|A O<|qC O el85 zA (getm ht)<|zI one9 zZ O<|A O<|wL O<|Y<|zE O (fun c2=>?_) (fun c2=>?_)
  ·try simp only [sx] at c2
   refine G O<|A O<|Y<|zH<|zS O ?_
   rw [kF ht c2]
  ·try simp only [sx] at c2
   refine zK<|zT O<|A O<|qI O ⟨zA,zA⟩<|A O<|Y ?_
   refine ⟨k+1,⟨zA,zRk ht hp c2⟩,zA,Weak.mk [] ⟨R,R,R,T⟩ O⟩
 ·try simp only [sx] at c1
  refine qN<|G O<|A O<|Y<|zH<|zS O ?_
  rw [show dD l s=false by rw [yV zA] at hp;exact hp]
theorem zHr (s:ByteArray):
    Pur cfg 76 [vS s] (vB (bD s)):=by
 refine zR Tryz.func76 O Tryz.ntmps76 Tryz.results76 O ?_
 intro z hz
 refine G O<|A O<|Y<|zJ<|G O<|A O<|zW O (zBk O un9 O)<|yG O<|A O<|rL0 O (fun g1_3=>zO O O) O<|rL1 9 O (fun g1_3=>zBk O un9 O) O<|rL1 10 O (fun g1_3=>yC O O O) O<|r_or O (fun h=>(lzf h))<|A O<|rL0 O (fun g1_8=>qG O ok110 (base_Words) T) O<|rL0 O (fun g1_8=>zO O O) O<|rLz [(14,_),(15,_)] O B ⟨O,O,O,O,T⟩ (fun g1_8=>qG O ok109 (base_Has _ _ zB) ⟨R,O,R,O,T⟩) O<|r_or O (fun h=>(lzf h))<|Y<|zE O (fun c1=>?_) (fun c1=>?_)
 ·try simp only [sx] at c1
  have hno:=name_short (s:=s) (by simpa using c1)
  refine G O<|A O<|Y<|zH<|zS O ?_
  rw [hno]
 ·try simp only [sx] at c1
  obtain ⟨⟨n1,n2⟩,n3⟩:=c1
  have n1:1<=s.size:=by omega
  have n2:s.size<=16:=by omega
  have hne:=name_end n1 n2 n3
  refine zK<|zJ<|G O<|A O<|Y<|zQ<|zY ⟨[(3,.c _),(0,.c _)],[]⟩ (Weak.mk [] ⟨R,R,T⟩ O)<|qK 1 0 O O (Nat) (fun k=>[(3,vI k)]) (fun k=>[]) (fun k=>k<=s.size/\sD s k=true) (fun k=>s.size-k) ⟨0,⟨zA,O⟩,Weak.mk [] ⟨R,R,T⟩ O⟩ ?_
  rintro k ⟨hk,hp⟩
  refine zJ<|G O<|A O<|A O<|zW O (zBk O un9 O)<|yG O<|Y<|zE O (fun c2=>?_) (fun c2=>?_)
  ·try simp only [sx] at c2
   have hlt:k<s.size:=by omega
   refine zK<|zJ<|zQ<|G O<|A O<|A O<|zW O (zEd O un9 O O zA zA)<|A O<|Y<|G O<|A O<|zW O (wF O O O)<|A O<|rL0 O (fun g7_2=>zO O O) O<|rL1 30 O (fun g7_2=>wP O O O) O<|yR O (fun h=>h)<|A O<|rL0 O (fun g7_6=>zO O O) O<|rL1 34 O (fun g7_6=>yC O O O) O<|rL1 35 O (fun g7_6=>zO O O) O<|rLz [] O gv2 T (fun g7_9=>zO O O) O<|rLz [(37,_)] O gv2 ⟨O,O,T⟩ (fun g7_9=>wF O O O) O<|rLz [(38,_)] O gv2 ⟨O,O,T⟩ (fun g7_9=>zO O O) O<|rLz [] O gv2 T (fun g7_12=>zO O O) O<|rLz [(40,_)] O gv2 ⟨O,O,T⟩ (fun g7_12=>wP O O O) O<|rLz [(39,_)] O gv2 ⟨O,O,T⟩ (fun g7_9=>kZ O O O (fun h=>kC uB h) O) O<|rLz [(42,_)] O gv2 ⟨O,O,T⟩ (fun g7_9=>zO O O) O<|rLz [] O gv2 T (fun g7_16=>zO O O) O<|rLz [(44,_)] O gv2 ⟨O,O,T⟩ (fun g7_16=>yM O O O) O<|rLz [(43,_)] O gv2 ⟨O,O,T⟩ (fun g7_9=>zAn O O O O (fun h=>kC uB (lzf h))) O<|rL1 36 O (fun g7_6=>kZ O O O (fun h=>kC uB h) O) O<|r_or O (fun h=>(lzf h))<|kN O<|Y<|zE O (fun c3=>?_) (fun c3=>?_)
   ·have hbad:sD s (k+1)=false:=by rw [okTo_next,show pW k (s.data.toList.getD k 0)=false from (Bool.not_eq_true' _).mp c3];simp
    refine G O<|A O<|Y<|zH<|zS O ?_
    rw [hne];cases ho:sD s s.size;rfl;exact absurd (okTo_le (k:=k+1) zA ho) (by rw [hbad];simp)
   ·have hgood:sD s (k+1)=true:=by rw [okTo_next,hp,show pW k (s.data.toList.getD k 0)=true from (Bool.not_eq_false' _).mp c3];rfl
    refine zK<|zT O<|A O<|qI O ⟨zA,zA⟩<|A O<|Y ?_
    refine ⟨k+1,⟨zA,hgood⟩,zA,Weak.mk [] ⟨R,R,T⟩ O⟩
  ·try simp only [sx] at c2
   refine qN<|G O<|A O<|Y<|zH<|zS O ?_
   rw [hne,show s.size=k by omega,hp]
theorem lin_reserved (s:ByteArray):
    Pur cfg 89 [vS s] (vB (dD fQ s)):=by
 refine zR Tryz.func89 O Tryz.ntmps89 Tryz.results89 O ?_
 intro z hz
 refine G O<|A O<|Y<|zJ<|G O<|A O<|Y<|zQ<|zJ<|G O<|wL O<|A O<|Y<|zE O (fun c1=>?_) (fun c1=>?_)
 ·try simp only [sx] at c1
  refine zK<|zE O (fun c22=>?_) (fun c22=>?_)
  ·refine G O<|A O<|Y<|zH<|zS O ?_
   rw [kF (l:=fQ) (k:=0) rfl c1.symm]
  ·try simp only [sx] at c22
   refine zK<|G O<|A O<|Y<|zH<|zS O ?_
   exact absurd c1 c22
 ·try simp only [sx] at c1
  refine G O<|wL O<|A O<|Y<|zE O (fun c2=>?_) (fun c2=>?_)
  ·try simp only [sx] at c2
   refine zK<|zE O (fun c22=>?_) (fun c22=>?_)
   ·refine G O<|A O<|Y<|zH<|zS O ?_
    rw [kF (l:=fQ) (k:=1) rfl c2.symm]
   ·try simp only [sx] at c22
    refine zK<|G O<|A O<|Y<|zH<|zS O ?_
    exact absurd c2 c22
  ·try simp only [sx] at c2
   refine G O<|wL O<|A O<|Y<|zE O (fun c3=>?_) (fun c3=>?_)
   ·try simp only [sx] at c3
    refine zK<|zE O (fun c22=>?_) (fun c22=>?_)
    ·refine G O<|A O<|Y<|zH<|zS O ?_
     rw [kF (l:=fQ) (k:=2) rfl c3.symm]
    ·try simp only [sx] at c22
     refine zK<|G O<|A O<|Y<|zH<|zS O ?_
     exact absurd c3 c22
   ·try simp only [sx] at c3
    refine G O<|wL O<|A O<|Y<|zE O (fun c4=>?_) (fun c4=>?_)
    ·try simp only [sx] at c4
     refine zK<|zE O (fun c22=>?_) (fun c22=>?_)
     ·refine G O<|A O<|Y<|zH<|zS O ?_
      rw [kF (l:=fQ) (k:=3) rfl c4.symm]
     ·try simp only [sx] at c22
      refine zK<|G O<|A O<|Y<|zH<|zS O ?_
      exact absurd c4 c22
    ·try simp only [sx] at c4
     refine G O<|wL O<|A O<|Y<|zE O (fun c5=>?_) (fun c5=>?_)
     ·try simp only [sx] at c5
      refine zK<|zE O (fun c22=>?_) (fun c22=>?_)
      ·refine G O<|A O<|Y<|zH<|zS O ?_
       rw [kF (l:=fQ) (k:=4) rfl c5.symm]
      ·try simp only [sx] at c22
       refine zK<|G O<|A O<|Y<|zH<|zS O ?_
       exact absurd c5 c22
     ·try simp only [sx] at c5
      refine G O<|wL O<|A O<|Y<|zE O (fun c6=>?_) (fun c6=>?_)
      ·try simp only [sx] at c6
       refine zK<|zE O (fun c22=>?_) (fun c22=>?_)
       ·refine G O<|A O<|Y<|zH<|zS O ?_
        rw [kF (l:=fQ) (k:=5) rfl c6.symm]
       ·try simp only [sx] at c22
        refine zK<|G O<|A O<|Y<|zH<|zS O ?_
        exact absurd c6 c22
      ·try simp only [sx] at c6
       refine G O<|wL O<|A O<|Y<|zE O (fun c7=>?_) (fun c7=>?_)
       ·try simp only [sx] at c7
        refine zK<|zE O (fun c22=>?_) (fun c22=>?_)
        ·refine G O<|A O<|Y<|zH<|zS O ?_
         rw [kF (l:=fQ) (k:=6) rfl c7.symm]
        ·try simp only [sx] at c22
         refine zK<|G O<|A O<|Y<|zH<|zS O ?_
         exact absurd c7 c22
       ·try simp only [sx] at c7
        refine G O<|wL O<|A O<|Y<|zE O (fun c8=>?_) (fun c8=>?_)
        ·try simp only [sx] at c8
         refine zK<|zE O (fun c22=>?_) (fun c22=>?_)
         ·refine G O<|A O<|Y<|zH<|zS O ?_
          rw [kF (l:=fQ) (k:=7) rfl c8.symm]
         ·try simp only [sx] at c22
          refine zK<|G O<|A O<|Y<|zH<|zS O ?_
          exact absurd c8 c22
        ·try simp only [sx] at c8
         refine G O<|wL O<|A O<|Y<|zE O (fun c9=>?_) (fun c9=>?_)
         ·try simp only [sx] at c9
          refine zK<|zE O (fun c22=>?_) (fun c22=>?_)
          ·refine G O<|A O<|Y<|zH<|zS O ?_
           rw [kF (l:=fQ) (k:=8) rfl c9.symm]
          ·try simp only [sx] at c22
           refine zK<|G O<|A O<|Y<|zH<|zS O ?_
           exact absurd c9 c22
         ·try simp only [sx] at c9
          refine G O<|wL O<|A O<|Y<|zE O (fun c10=>?_) (fun c10=>?_)
          ·try simp only [sx] at c10
           refine zK<|zE O (fun c22=>?_) (fun c22=>?_)
           ·refine G O<|A O<|Y<|zH<|zS O ?_
            rw [kF (l:=fQ) (k:=9) rfl c10.symm]
           ·try simp only [sx] at c22
            refine zK<|G O<|A O<|Y<|zH<|zS O ?_
            exact absurd c10 c22
          ·try simp only [sx] at c10
           refine G O<|wL O<|A O<|Y<|zE O (fun c11=>?_) (fun c11=>?_)
           ·try simp only [sx] at c11
            refine zK<|zE O (fun c22=>?_) (fun c22=>?_)
            ·refine G O<|A O<|Y<|zH<|zS O ?_
             rw [kF (l:=fQ) (k:=10) rfl c11.symm]
            ·try simp only [sx] at c22
             refine zK<|G O<|A O<|Y<|zH<|zS O ?_
             exact absurd c11 c22
           ·try simp only [sx] at c11
            refine G O<|wL O<|A O<|Y<|zE O (fun c12=>?_) (fun c12=>?_)
            ·try simp only [sx] at c12
             refine zK<|zE O (fun c22=>?_) (fun c22=>?_)
             ·refine G O<|A O<|Y<|zH<|zS O ?_
              rw [kF (l:=fQ) (k:=11) rfl c12.symm]
             ·try simp only [sx] at c22
              refine zK<|G O<|A O<|Y<|zH<|zS O ?_
              exact absurd c12 c22
            ·try simp only [sx] at c12
             refine G O<|wL O<|A O<|Y<|zE O (fun c13=>?_) (fun c13=>?_)
             ·try simp only [sx] at c13
              refine zK<|zE O (fun c22=>?_) (fun c22=>?_)
              ·refine G O<|A O<|Y<|zH<|zS O ?_
               rw [kF (l:=fQ) (k:=12) rfl c13.symm]
              ·try simp only [sx] at c22
               refine zK<|G O<|A O<|Y<|zH<|zS O ?_
               exact absurd c13 c22
             ·try simp only [sx] at c13
              refine G O<|wL O<|A O<|Y<|zE O (fun c14=>?_) (fun c14=>?_)
              ·try simp only [sx] at c14
               refine zK<|zE O (fun c22=>?_) (fun c22=>?_)
               ·refine G O<|A O<|Y<|zH<|zS O ?_
                rw [kF (l:=fQ) (k:=13) rfl c14.symm]
               ·try simp only [sx] at c22
                refine zK<|G O<|A O<|Y<|zH<|zS O ?_
                exact absurd c14 c22
              ·try simp only [sx] at c14
               refine G O<|wL O<|A O<|Y<|zE O (fun c15=>?_) (fun c15=>?_)
               ·try simp only [sx] at c15
                refine zK<|zE O (fun c22=>?_) (fun c22=>?_)
                ·refine G O<|A O<|Y<|zH<|zS O ?_
                 rw [kF (l:=fQ) (k:=14) rfl c15.symm]
                ·try simp only [sx] at c22
                 refine zK<|G O<|A O<|Y<|zH<|zS O ?_
                 exact absurd c15 c22
               ·try simp only [sx] at c15
                refine G O<|wL O<|A O<|Y<|zE O (fun c16=>?_) (fun c16=>?_)
                ·try simp only [sx] at c16
                 refine zK<|zE O (fun c22=>?_) (fun c22=>?_)
                 ·refine G O<|A O<|Y<|zH<|zS O ?_
                  rw [kF (l:=fQ) (k:=15) rfl c16.symm]
                 ·try simp only [sx] at c22
                  refine zK<|G O<|A O<|Y<|zH<|zS O ?_
                  exact absurd c16 c22
                ·try simp only [sx] at c16
                 refine G O<|wL O<|A O<|Y<|zE O (fun c17=>?_) (fun c17=>?_)
                 ·try simp only [sx] at c17
                  refine zK<|zE O (fun c22=>?_) (fun c22=>?_)
                  ·refine G O<|A O<|Y<|zH<|zS O ?_
                   rw [kF (l:=fQ) (k:=16) rfl c17.symm]
                  ·try simp only [sx] at c22
                   refine zK<|G O<|A O<|Y<|zH<|zS O ?_
                   exact absurd c17 c22
                 ·try simp only [sx] at c17
                  refine G O<|wL O<|A O<|Y<|zE O (fun c18=>?_) (fun c18=>?_)
                  ·try simp only [sx] at c18
                   refine zK<|zE O (fun c22=>?_) (fun c22=>?_)
                   ·refine G O<|A O<|Y<|zH<|zS O ?_
                    rw [kF (l:=fQ) (k:=17) rfl c18.symm]
                   ·try simp only [sx] at c22
                    refine zK<|G O<|A O<|Y<|zH<|zS O ?_
                    exact absurd c18 c22
                  ·try simp only [sx] at c18
                   refine G O<|wL O<|A O<|Y<|zE O (fun c19=>?_) (fun c19=>?_)
                   ·try simp only [sx] at c19
                    refine zK<|zE O (fun c22=>?_) (fun c22=>?_)
                    ·refine G O<|A O<|Y<|zH<|zS O ?_
                     rw [kF (l:=fQ) (k:=18) rfl c19.symm]
                    ·try simp only [sx] at c22
                     refine zK<|G O<|A O<|Y<|zH<|zS O ?_
                     exact absurd c19 c22
                   ·try simp only [sx] at c19
                    refine G O<|wL O<|A O<|Y<|zE O (fun c20=>?_) (fun c20=>?_)
                    ·try simp only [sx] at c20
                     refine zK<|zE O (fun c22=>?_) (fun c22=>?_)
                     ·refine G O<|A O<|Y<|zH<|zS O ?_
                      rw [kF (l:=fQ) (k:=19) rfl c20.symm]
                     ·try simp only [sx] at c22
                      refine zK<|G O<|A O<|Y<|zH<|zS O ?_
                      exact absurd c20 c22
                    ·try simp only [sx] at c20
                     refine G O<|wL O<|A O<|Y<|zE O (fun c21=>?_) (fun c21=>?_)
                     ·try simp only [sx] at c21
                      refine zK<|zE O (fun c22=>?_) (fun c22=>?_)
                      ·refine G O<|A O<|Y<|zH<|zS O ?_
                       rw [kF (l:=fQ) (k:=20) rfl c21.symm]
                      ·try simp only [sx] at c22
                       refine zK<|G O<|A O<|Y<|zH<|zS O ?_
                       exact absurd c21 c22
                     ·try simp only [sx] at c21
                      refine zT O<|wL O<|A O<|Y<|zE O (fun c22=>?_) (fun c22=>?_)
                      ·try simp only [sx] at c22
                       refine G O<|A O<|Y<|zH<|zS O ?_
                       rw [kF (l:=fQ) (k:=21) rfl c22.symm]
                      ·try simp only [sx] at c22
                       refine zK<|G O<|A O<|Y<|zH<|zS O ?_
                       rw [show dD fQ s=false by
                         simp only [dD,fQ,List.any_cons,List.any_nil,Bool.or_eq_false_iff,decide_eq_false_iff_not]
                         exact ⟨fun h=>c1 h.symm,fun h=>c2 h.symm,fun h=>c3 h.symm,fun h=>c4 h.symm,fun h=>c5 h.symm,fun h=>c6 h.symm,fun h=>c7 h.symm,fun h=>c8 h.symm,fun h=>c9 h.symm,fun h=>c10 h.symm,fun h=>c11 h.symm,fun h=>c12 h.symm,fun h=>c13 h.symm,fun h=>c14 h.symm,fun h=>c15 h.symm,fun h=>c16 h.symm,fun h=>c17 h.symm,fun h=>c18 h.symm,fun h=>c19 h.symm,fun h=>c20 h.symm,fun h=>c21 h.symm,fun h=>c22 h.symm,T⟩]
theorem zGx (s:ByteArray):
    Pur cfg 53 [vS s] (vB (bD s)):=by
 refine zR Tryz.func53 O Tryz.ntmps53 Tryz.results53 O ?_
 intro z hz
 refine G O<|A O<|Y<|zJ<|G O<|A O<|zW O (zBk O un9 O)<|yG O<|A O<|rL0 O (fun g1_3=>zO O O) O<|rL1 9 O (fun g1_3=>zBk O un9 O) O<|rL1 10 O (fun g1_3=>yC O O O) O<|r_or O (fun h=>(lzf h))<|A O<|rL0 O (fun g1_8=>zO O O) O<|rL1 14 O (fun g1_8=>qG O ok89 (lin_reserved _) ⟨R,O,T⟩) O<|r_or O (fun h=>(lzf h))<|A O<|rL0 O (fun g1_12=>zO O O) O<|rL1 18 O (fun g1_12=>zEd O un9 O O zB (by simp only [Lz,cond_true,cond_false,Bool.and_eq_true,Bool.or_eq_true,Bool.not_eq_true',Bool.not_eq_false',Bool.or_eq_false_iff,Bool.and_eq_false_iff,decide_eq_true_eq,decide_eq_false_iff_not,Bool.not_eq_true,Bool.not_eq_false] at g1_12;omega)) O<|rL1 19 O (fun g1_12=>zAv O O O) O<|r_or O (fun h=>(lzf h))<|A O<|rL0 O (fun g1_17=>zO O O) O<|rL1 23 O (fun g1_17=>zEd O un9 O O zB (by simp only [Lz,cond_true,cond_false,Bool.and_eq_true,Bool.or_eq_true,Bool.not_eq_true',Bool.not_eq_false',Bool.or_eq_false_iff,Bool.and_eq_false_iff,decide_eq_true_eq,decide_eq_false_iff_not,Bool.not_eq_true,Bool.not_eq_false] at g1_17;omega)) O<|rL1 24 O (fun g1_17=>yC O O O) O<|r_or O (fun h=>(lzf h))<|Y<|zE O (fun c1=>?_) (fun c1=>?_)
 ·have hno:=ident_no c1
  refine G O<|A O<|Y<|zH<|zS O ?_
  rw [hno]
 ·obtain ⟨n1,n2,hne⟩:=ident_yes c1
  refine zK<|zJ<|G O<|A O<|zW O (zBk O un9 O)<|A O<|Y<|zQ<|zY ⟨[(29,.c _),(0,.c _),(28,.c _)],[]⟩ (Weak.mk [] ⟨R,R,R,T⟩ O)<|qK 1 0 O O (Nat) (fun k=>[(29,vI k)]) (fun k=>[]) (fun k=>k<=s.size/\(s.data.toList.take k).all gQ=true) (fun k=>s.size-k) ⟨0,⟨zA,O⟩,Weak.mk [] ⟨R,R,R,T⟩ O⟩ ?_
  rintro k ⟨hk,hp⟩
  refine G O<|yG O<|Y<|zJ<|zE O (fun c2=>?_) (fun c2=>?_)
  ·try simp only [sx] at c2
   have hlt:k<s.size:=by omega
   refine zK<|zJ<|zQ<|G O<|A O<|A O<|Y<|G O<|A O<|A O<|zW O (zEd O un9 O O zA zA)<|A O<|Y<|G O<|A O<|yG O<|A O<|rL0 O (fun g7_2=>zO O O) O<|rL1 38 O (fun g7_2=>yC O O O) O<|r_or O (fun h=>(lzf h))<|A O<|rL0 O (fun g7_6=>zO O O) O<|rL1 42 O (fun g7_6=>zAv O O O) O<|rL1 43 O (fun g7_6=>zO O O) O<|rLz [] O gv2 T (fun g7_9=>zO O O) O<|rLz [(45,_)] O gv2 ⟨O,O,T⟩ (fun g7_9=>yC O O O) O<|rL1 44 O (fun g7_6=>zAn O O O O (fun h=>kC uB (lzf h))) O<|yR O (fun h=>h)<|A O<|rL0 O (fun g7_14=>zO O O) O<|rL1 50 O (fun g7_14=>kA O O O) O<|yR O (fun h=>h)<|Y<|zE O (fun c3=>?_) (fun c3=>?_)
   ·have hbad:=word_no hlt c3
    refine G O<|A O<|Y<|zH<|zS O ?_
    rw [hne,hbad]
   ·have hgood:=word_yes hlt hp c3
    refine zK<|zT O<|qI O ⟨zA,zA⟩<|A O<|Y ?_
    refine ⟨k+1,⟨zA,hgood⟩,zA,Weak.mk [] ⟨R,R,R,T⟩ O⟩
  ·try simp only [sx] at c2
   refine qN<|G O<|A O<|Y<|zH<|zS O ?_
   rw [hne,word_all hp zA]
theorem zDf (l:Lf) (hl:l.L.length<=6000000000000):
    Pur cfg 51 [dF l] (vI (dZ l)):=by
 refine zR Tryz.func51 O Tryz.ntmps51 Tryz.results51 O ?_
 intro z hz
 refine G O<|zV O O (qJ O O) ?_
 rintro _ _ ⟨b1,rfl,rfl⟩
 refine A O<|Y<|zJ<|G O<|zD O wK<|zI zBl (J 0 O) O<|qB O N<|A O<|Y<|zQ<|zY ⟨[(8,.c _),(1,.c _),(6,.c _),(7,.c _)],[_]⟩ (Weak.mk [true] ⟨R,R,R,R,T⟩ O)<|qK 1 0 O O (Nat) (fun k=>[(8,vI k)]) (fun k=>[]) (fun k=>k<=l.L.length/\(dC l=fB (nO l.L k) (l.L.drop k))) (fun k=>l.L.length-k) ⟨0,⟨zA,O⟩,Weak.mk [true] ⟨R,R,R,R,T⟩ O⟩ ?_
 rintro k ⟨hk,hp⟩
 refine G O<|yG O<|Y<|zJ<|zE O (fun c1=>?_) (fun c1=>?_)
 ·try simp only [sx] at c1
  obtain ⟨x,hx⟩:=qY l.L k zA
  refine zK<|zJ<|zQ<|G O<|A O<|qC O N zA (getm uB)<|zM zHt zZ O<|zV O O (qV O zJk) ?_
  rintro _ _ ⟨b2,rfl,rfl⟩
  refine A O<|rStR 0 sz109 O<|Y<|zJ<|qU 25 mixed uC O O<|zN O O (zG O zAa O)<|zN O O (zF O one9 O (J 0 O) O)<|zN O O (qG O ok53 (zGx _) ⟨R,O,T⟩)<|zN O O (kJ O O)<|zN O O (zO O O)<|qL [] O O O O B T (fun g4_4=>zG O zCo O) O<|qL [(18,_)] O O O O B ⟨O,O,T⟩ (fun g4_4=>zF O U O (J 0 O) O) O<|qL [(19,_)] O O O O B ⟨O,O,T⟩ (fun g4_4=>yM O O O) O<|zN O O (zAn O O O O (fun h=>(lzf h)))<|zN O O (zO O O)<|qL [] O O O O B T (fun g4_9=>zO O O) O<|qL [(23,_)] O O O O B ⟨O,O,T⟩ (fun g4_9=>yC O O O) O<|qL [(24,_)] O O O O B ⟨O,O,T⟩ (fun g4_9=>zO O O) O<|qL [] O O O O gv2 T (fun g4_12=>zG O wK O) O<|qL [(26,_)] O O O O gv2 ⟨O,O,T⟩ (fun g4_12=>zF O zBl O (J 1 O) O) O<|qL [] O O O O gv2 T (fun g4_12=>zO O O) O<|qL [(28,_)] O O O O gv2 ⟨O,O,T⟩ (fun g4_12=>yA O O O ⟨zA,zA⟩) O<|qL [(27,_),(29,_)] O O O O gv2 ⟨O,O,O,O,T⟩ (fun g4_12=>qE O N O O (by simp only [Lz,cond_true,cond_false,Bool.and_eq_true,Bool.or_eq_true,Bool.not_eq_true',Bool.not_eq_false',Bool.or_eq_false_iff,Bool.and_eq_false_iff,decide_eq_true_eq,decide_eq_false_iff_not,Bool.not_eq_true,Bool.not_eq_false] at g4_12;omega) (pv_get (by simp only [Lz,cond_true,cond_false,Bool.and_eq_true,Bool.or_eq_true,Bool.not_eq_true',Bool.not_eq_false',Bool.or_eq_false_iff,Bool.and_eq_false_iff,decide_eq_true_eq,decide_eq_false_iff_not,Bool.not_eq_true,Bool.not_eq_false] at g4_12;omega) zA)) O<|qL [(30,_)] O O O O gv2 ⟨O,O,T⟩ (fun g4_12=>qM O zAa O) O<|qL [(31,_)] O O O O gv2 ⟨O,O,T⟩ (fun g4_12=>zF O one9 O zZ O) O<|qL [] O O O O gv2 T (fun g4_12=>zG O zAa O) O<|qL [(33,_)] O O O O gv2 ⟨O,O,T⟩ (fun g4_12=>zF O one9 O (J 0 O) O) O<|qL [(32,_),(34,_)] O O O O gv2 ⟨O,O,O,O,T⟩ (fun g4_12=>det_sgeq O O O) O<|qL [(25,_)] O O O O B ⟨O,O,T⟩ (fun g4_9=>kZ O O O (fun h=>kC uB h) O) O<|zN O O (zAn O O O O (fun h=>(lzf h)))<|yP<|Y<|zE O (fun c2=>?_) (fun c2=>?_)
  ·refine G O<|A O<|Y<|zH<|zS O ?_
   rw [dZ,hp,zLl hx,show cJ l.L k x=true from c2];rfl
  ·refine zK<|zT O<|qI O ⟨zA,zA⟩<|A O<|Y ?_
   refine ⟨k+1,⟨zA,by rw [hp,zLl hx,show cJ l.L k x=false from c2];rfl⟩,zA,Weak.mk [false,true] ⟨R,R,R,R,T⟩ O⟩
 ·try simp only [sx] at c1
  refine qN<|G O<|A O<|Y<|zH<|zS O ?_
  rw [dZ,hp,monos_end zA];rfl
theorem zFk (l:Lf) (hl:l.L.length<=6000000000000):
    Pur cfg 220 [dF l] (vB (dC l)):=by
 refine zR Tryz.func220 O Tryz.ntmps220 Tryz.results220 O ?_
 intro z hz
 refine G O<|zV O O (qJ O O) ?_
 rintro _ _ ⟨b1,rfl,rfl⟩
 refine A O<|Y<|zJ<|G O<|A O<|Y<|zQ<|zY ⟨[(3,.c _),(1,.c _)],[_]⟩ (Weak.mk [true] ⟨R,R,T⟩ O)<|qK 1 0 O O (Nat) (fun k=>[(3,vI k)]) (fun k=>[]) (fun k=>k<=l.L.length/\(dC l=fB (nO l.L k) (l.L.drop k))) (fun k=>l.L.length-k) ⟨0,⟨zA,O⟩,Weak.mk [true] ⟨R,R,T⟩ O⟩ ?_
 rintro k ⟨hk,hp⟩
 refine zJ<|G O<|A O<|zD O wK<|zI zBl (J 0 O) O<|qB O N<|yG O<|Y<|zE O (fun c1=>?_) (fun c1=>?_)
 ·try simp only [sx] at c1
  obtain ⟨x,hx⟩:=qY l.L k zA
  refine zK<|zJ<|zQ<|zJ<|qU 37 mixed uC O O<|zN O O (zG O wK O)<|zN O O (zF O zBl O (J 0 O) O)<|zN O O (zO O O)<|zN O O (qE O N O O zA (getm uB))<|zN O O (qM O zAa O)<|zN O O (zF O one9 O zZ O)<|zN O O (qG O ok76 (zHr _) ⟨R,O,T⟩)<|zN O O (kJ O O)<|zN O O (zO O O)<|qL [] O O O O B T (fun g4_8=>zG O wK O) O<|qL [(20,_)] O O O O B ⟨O,O,T⟩ (fun g4_8=>zF O zBl O (J 0 O) O) O<|qL [] O O O O B T (fun g4_8=>zO O O) O<|qL [(21,_),(22,_)] O O O O B ⟨O,O,O,O,T⟩ (fun g4_8=>qE O N O O zA (getm uB)) O<|qL [(23,_)] O O O O B ⟨O,O,T⟩ (fun g4_8=>qM O zCo O) O<|qL [(24,_)] O O O O B ⟨O,O,T⟩ (fun g4_8=>zF O U O zZ O) O<|qL [(25,_)] O O O O B ⟨O,O,T⟩ (fun g4_8=>yM O O O) O<|zN O O (zAn O O O O (fun h=>(lzf h)))<|zN O O (zO O O)<|qL [] O O O O B T (fun g4_17=>zO O O) O<|qL [(29,_)] O O O O B ⟨O,O,T⟩ (fun g4_17=>yC O O O) O<|qL [(30,_)] O O O O B ⟨O,O,T⟩ (fun g4_17=>zO O O) O<|qL [] O O O O gv2 T (fun g4_20=>zG O wK O) O<|qL [(32,_)] O O O O gv2 ⟨O,O,T⟩ (fun g4_20=>zF O zBl O (J 0 O) O) O<|qL [] O O O O gv2 T (fun g4_20=>zO O O) O<|qL [(34,_)] O O O O gv2 ⟨O,O,T⟩ (fun g4_20=>yA O O O ⟨zA,zA⟩) O<|qL [(33,_),(35,_)] O O O O gv2 ⟨O,O,O,O,T⟩ (fun g4_20=>qE O N O O (by simp only [Lz,cond_true,cond_false,Bool.and_eq_true,Bool.or_eq_true,Bool.not_eq_true',Bool.not_eq_false',Bool.or_eq_false_iff,Bool.and_eq_false_iff,decide_eq_true_eq,decide_eq_false_iff_not,Bool.not_eq_true,Bool.not_eq_false] at g4_20;omega) (pv_get (by simp only [Lz,cond_true,cond_false,Bool.and_eq_true,Bool.or_eq_true,Bool.not_eq_true',Bool.not_eq_false',Bool.or_eq_false_iff,Bool.and_eq_false_iff,decide_eq_true_eq,decide_eq_false_iff_not,Bool.not_eq_true,Bool.not_eq_false] at g4_20;omega) zA)) O<|qL [(36,_)] O O O O gv2 ⟨O,O,T⟩ (fun g4_20=>qM O zAa O) O<|qL [(37,_)] O O O O gv2 ⟨O,O,T⟩ (fun g4_20=>zF O one9 O zZ O) O<|qL [] O O O O gv2 T (fun g4_20=>zG O wK O) O<|qL [(39,_)] O O O O gv2 ⟨O,O,T⟩ (fun g4_20=>zF O zBl O (J 0 O) O) O<|qL [] O O O O gv2 T (fun g4_20=>zO O O) O<|qL [(40,_),(41,_)] O O O O gv2 ⟨O,O,O,O,T⟩ (fun g4_20=>qE O N O O zA (getm uB)) O<|qL [(42,_)] O O O O gv2 ⟨O,O,T⟩ (fun g4_20=>qM O zAa O) O<|qL [(43,_)] O O O O gv2 ⟨O,O,T⟩ (fun g4_20=>zF O one9 O zZ O) O<|qL [(38,_),(44,_)] O O O O gv2 ⟨O,O,O,O,T⟩ (fun g4_20=>det_sgeq O O O) O<|qL [(31,_)] O O O O B ⟨O,O,T⟩ (fun g4_17=>kZ O O O (fun h=>kC uB h) O) O<|zN O O (zAn O O O O (fun h=>(lzf h)))<|yP<|Y<|zE O (fun c2=>?_) (fun c2=>?_)
  ·refine G O<|A O<|Y<|zH<|zS O ?_
   rw [hp,zLl hx,show cJ l.L k x=true from c2];rfl
  ·refine zK<|zT O<|A O<|qI O ⟨zA,zA⟩<|A O<|Y ?_
   refine ⟨k+1,⟨zA,by rw [hp,zLl hx,show cJ l.L k x=false from c2];rfl⟩,zA,Weak.mk [true] ⟨R,R,T⟩ O⟩
 ·try simp only [sx] at c1
  refine qN<|G O<|A O<|Y<|zH<|zS O ?_
  rw [hp,monos_end zA]
theorem lin_Var (s:ByteArray):
    Pur cfg 20 [vS s] (dF (jJ s)):=by
 refine zR Tryz.func20 O Tryz.ntmps20 Tryz.results20 O ?_
 intro z hz
 refine G O<|zV O O (qH [none,some 2] O zr51 O) ?_
 rintro _ _ ⟨b1,rfl,rfl⟩
 refine Y<|zJ<|G O<|A O<|qD O ok53 (zGx _) ⟨R,O,T⟩<|kN O<|Y<|zE O (fun c1=>?_) (fun c1=>?_)
 ·try simp only [sx] at c1
  refine G O<|yF [none,some 2] O zr51 pl51<|rStR 0 sz51 O<|Y<|zH<|fin1 (zP kP O (J 0 O) O) ?_
  rw [jJ,c1];rfl
 ·try simp only [sx] at c1
  refine zK<|G O<|A O<|qT O zJk pl109<|zW O (qZ O N zJk O O O O)<|qT O zr51 pl51<|rStR 0 sz51 O<|Y<|zH<|fin1 (zP kP O (J 0 O) O) ?_
  rw [jJ,c1];rfl
theorem zVy (k:Int):
    Pur cfg 24 [vI k] (dF ⟨k,[]⟩):=by
 refine zR Tryz.func24 O Tryz.ntmps24 Tryz.results24 O ?_
 intro z hz
 refine G O<|zV O O (qH [none,some 2] O zr51 O) ?_
 rintro _ _ ⟨b1,rfl,rfl⟩
 refine Y<|G O<|A O<|yF [none,some 2] O zr51 pl51<|rStR 0 sz51 O<|Y<|zH<|fin1 (zP kP O (J 0 O) O) ?_
 exact O
theorem zJe (s:ByteArray):
    Pur cfg 41 [vS s] (dF (jJ s)):=by
 refine zR Tryz.func41 O Tryz.ntmps41 Tryz.results41 O ?_
 intro z hz
 refine G O<|zV O O (qH [none,some 2] O zr51 O) ?_
 rintro _ _ ⟨b1,rfl,rfl⟩
 refine Y<|zJ<|G O<|A O<|qD O ok76 (zHr _) ⟨R,O,T⟩<|kN O<|Y<|zE O (fun c1=>?_) (fun c1=>?_)
 ·try simp only [sx] at c1
  refine G O<|yF [none,some 2] O zr51 pl51<|rStR 0 sz51 O<|Y<|zH<|fin1 (zP kP O (J 0 O) O) ?_
  rw [jJ,c1];rfl
 ·try simp only [sx] at c1
  refine zK<|G O<|A O<|qT O zJk pl109<|zW O (qZ O N zJk O O O O)<|qT O zr51 pl51<|rStR 0 sz51 O<|Y<|zH<|fin1 (zP kP O (J 0 O) O) ?_
  rw [jJ,c1];rfl
theorem base_Lin (a b:Lf) (ha:a.L.length<=6000000000000):
    Pur cfg 144 [dF a,dF b] (vB (decide (a=b))):=by
 refine zR Tryz.func144 O Tryz.ntmps144 Tryz.results144 O ?_
 intro z hz
 refine G O<|zV O O (qJ O O) ?_
 rintro _ _ ⟨b1,rfl,rfl⟩
 refine zV O O (qJ O O) ?_
 rintro _ _ ⟨b2,rfl,rfl⟩
 refine A O<|Y<|zJ<|G O<|zD O zEv<|zI U (J 1 O) O<|zD O zEv<|zI U (J 0 O) O<|yK O<|A O<|rL0 O (fun g1_5=>zG O wK O) O<|rL1 12 O (fun g1_5=>zF O zBl O (J 1 O) O) O<|rL1 13 O (fun g1_5=>yJ O N O) O<|rL0 O (fun g1_5=>zG O wK O) O<|rL1 15 O (fun g1_5=>zF O zBl O (J 0 O) O) O<|rL1 16 O (fun g1_5=>yJ O N O) O<|rLz [(14,_),(17,_)] O B ⟨O,O,O,O,T⟩ (fun g1_5=>kA O O O) O<|r_or O (fun h=>(lzf h))<|Y<|zE O (fun c1=>?_) (fun c1=>?_)
 ·try simp only [sx] at c1
  refine G O<|A O<|Y<|zH<|zS O ?_
  rw [qW (fun h=>by rw [h] at c1;simp at c1)]
 ·try simp only [sx] at c1
  refine zK<|zJ<|G O<|A O<|Y<|zQ<|zY ⟨[(5,.c _),(2,.c _),(3,.c _)],[_,_]⟩ (Weak.mk [true,true] ⟨R,R,R,T⟩ O)<|qK 1 0 O O (Nat) (fun k=>[(5,vI k)]) (fun k=>[]) (fun k=>k<=a.L.length/\(a.L.take k=b.L.take k)) (fun k=>a.L.length-k) ⟨0,⟨zA,O⟩,Weak.mk [true,true] ⟨R,R,R,T⟩ O⟩ ?_
  rintro k ⟨hk,hp⟩
  refine zJ<|G O<|A O<|zD O wK<|zI zBl (J 1 O) O<|qB O N<|yG O<|Y<|zE O (fun c2=>?_) (fun c2=>?_)
  ·try simp only [sx] at c2
   obtain ⟨x,hx⟩:=qY a.L k zA
   obtain ⟨y,hy⟩:=qY b.L k zA
   refine zK<|zJ<|zQ<|zJ<|qU 11 mixed uC O O<|zN O O (zG O wK O)<|zN O O (zF O zBl O (J 1 O) O)<|zN O O (zO O O)<|zN O O (qE O N O O zA (getm uB))<|zN O O (zU O zHt O zZ O)<|zN O O (zG O wK O)<|zN O O (zF O zBl O (J 0 O) O)<|zN O O (zO O O)<|zN O O (qE O N O O zA (getm uB))<|zN O O (zU O zHt O zZ O)<|zN O O (wY O fl109 O O O)<|yP<|Y<|zE O (fun c3=>?_) (fun c3=>?_)
   ·have hne:=mono_ne c3
    refine G O<|A O<|Y<|zH<|zS O ?_
    rw [qW (fun h=>zFx hx hy hne (by rw [h]))]
   ·have heq:=mono_eq c3
    refine zK<|zT O<|A O<|qI O ⟨zA,zA⟩<|A O<|Y ?_
    refine ⟨k+1,⟨zA,zBw hx hy hp heq⟩,zA,Weak.mk [true,true] ⟨R,R,R,T⟩ O⟩
  ·try simp only [sx] at c2
   refine qN<|G O<|A O<|Y<|zH<|zS O ?_
   rw [wR (lin_mk zA (zEa hp zA zA))]
theorem zMn (l:List Ix) (c:C) (p:Ix->Bool) (hl:l.length<=6000000000000) (hc:∀x,x∈l->FnPur cfg c [lA x] (vB (p x))):
    Pur cfg 262 [gR l,.c c] (vI (lN p l)):=by
 refine zR Tryz.func262 O Tryz.ntmps262 Tryz.results262 O ?_
 intro z hz
 refine G O<|A O<|Y<|zJ<|G O<|A O<|qB O v<|A O<|Y<|zQ<|zY ⟨[(8,.c _),(0,.c _),(1,.c _),(7,.c _)],[]⟩ (Weak.mk [] ⟨R,R,R,R,T⟩ O)<|qK 1 0 O O (Nat) (fun k=>[(8,vI k)]) (fun k=>[]) (fun k=>k<=l.length/\((l.take k).any p=false)) (fun k=>l.length-k) ⟨0,⟨zA,O⟩,Weak.mk [] ⟨R,R,R,R,T⟩ O⟩ ?_
 rintro k ⟨hk,hp⟩
 refine G O<|yG O<|Y<|zJ<|zE O (fun c1=>?_) (fun c1=>?_)
 ·try simp only [sx] at c1
  obtain ⟨x,hx⟩:=qY l k zA
  refine zK<|zJ<|zQ<|G O<|A O<|A O<|Y<|G O<|A O<|A O<|A O<|qC O v zA (getm uB)<|zM zPo zZ O<|zW O (kS O O (hc _ (qA hx)) ⟨R,O,T⟩)<|Y<|zE O (fun c2=>?_) (fun c2=>?_)
  ·try simp only [sx] at c2
   refine G O<|A O<|A O<|Y<|zH<|zS O ?_
   rw [zTb hx c2 hp]
  ·try simp only [sx] at c2
   refine zK<|zT O<|qI O ⟨zA,zA⟩<|A O<|Y ?_
   refine ⟨k+1,⟨zA,zPk hx hp c2⟩,zA,Weak.mk [] ⟨R,R,R,R,T⟩ O⟩
 ·try simp only [sx] at c1
  refine qN<|G O<|A O<|Y<|zH<|zS O ?_
  rw [zLn (by rw [yV zA] at hp;exact hp)]
theorem zBr (l:List Ix) (c:C) (p:Ix->Bool) (hl:l.length<=6000000000000) (hc:∀x,x∈l->FnPur cfg c [lA x] (vB (p x))):
    Pur cfg 238 [gR l,.c c] (vB (l.any p)):=by
 refine zR Tryz.func238 O Tryz.ntmps238 Tryz.results238 O ?_
 intro z hz
 refine G O<|A O<|Y<|G O<|A O<|A O<|qD O ok262 (zMn l c p hl hc) ⟨R,O,R,O,T⟩<|zW O (wF O O O)<|A O<|Y<|zH<|zS O ?_
 rw [zOn]
end Go.W
end
section
set_option maxRecDepth 10000
namespace Go.W
open Go Go.Eng Go.Proofs Go.L41 Go.Br
attribute [local irreducible] AWP RWP TD fH
theorem yO:mO Tryz.prog 46=some 2:=by kernel_rfl
theorem yD:mO Tryz.prog 48=some 5:=by kernel_rfl
theorem zAd:bH Tryz.prog 46 0=some (0,2):=by kernel_rfl
theorem zAq:bH Tryz.prog 46 1=some (1,2):=by kernel_rfl
theorem zDo:bH Tryz.prog 48 0=some (0,3):=by kernel_rfl
theorem zKs:bH Tryz.prog 48 1=some (1,3):=by kernel_rfl
theorem zRm:bH Tryz.prog 48 2=some (2,3):=by kernel_rfl
theorem zKr:bH Tryz.prog 48 3=some (3,3):=by kernel_rfl
theorem zRl:bH Tryz.prog 48 4=some (4,3):=by kernel_rfl
theorem fl48:flatK Tryz.prog 48=some [.int,.int,.int,.int,.int]:=by kernel_rfl
theorem ik154:tJ Tryz.prog 154=some .u64:=by kernel_rfl
theorem ik185:tJ Tryz.prog 185=some .u64:=by kernel_rfl
theorem ok77:bA Tryz.prog 77=true:=by kernel_rfl
theorem ok102:bA Tryz.prog 102=true:=by kernel_rfl
theorem ok131:bA Tryz.prog 131=true:=by kernel_rfl
theorem ok132:bA Tryz.prog 132=true:=by kernel_rfl
theorem ok149:bA Tryz.prog 149=true:=by kernel_rfl
theorem ok245:bA Tryz.prog 245=true:=by kernel_rfl
theorem ok246:bA Tryz.prog 246=true:=by kernel_rfl
theorem ok247:bA Tryz.prog 247=true:=by kernel_rfl
theorem ok263:bA Tryz.prog 263=true:=by kernel_rfl
theorem ok264:bA Tryz.prog 264=true:=by kernel_rfl
theorem ok265:bA Tryz.prog 265=true:=by kernel_rfl
theorem ok266:bA Tryz.prog 266=true:=by kernel_rfl
theorem ok267:bA Tryz.prog 267=true:=by kernel_rfl
theorem ok271:bA Tryz.prog 271=true:=by kernel_rfl
theorem one3:lX Tryz.prog 3=true:=by kernel_rfl
theorem pl46:fP Tryz.prog 46=some [(0,1),(1,1)]:=by kernel_rfl
theorem pl48:fP Tryz.prog 48=some [(0,1),(1,1),(2,1),(3,1),(4,1)]:=by kernel_rfl
theorem L:(Tryz.prog.info? 46).map (·.size)=some 2:=by kernel_rfl
theorem us2:(Tryz.prog.underlying 2).isSome=true:=by kernel_rfl
theorem us3:(Tryz.prog.underlying 3).isSome=true:=by kernel_rfl
theorem W:fF Tryz.prog 46=some [(Value.int IntKind.i64 0),(Value.int IntKind.i64 0)]:=by kernel_rfl
theorem zr48:fF Tryz.prog 48=some [(Value.int IntKind.i64 0),(Value.int IntKind.i64 0),(Value.int IntKind.i64 0),(Value.int IntKind.i64 0),(Value.int IntKind.i64 0)]:=by kernel_rfl
theorem zUc (t:Ty):
    Pur cfg 131 [vTy t] (vB (tU t)):=by
 refine zR Tryz.func131 O Tryz.ntmps131 Tryz.results131 O ?_
 intro z hz
 refine G O<|zV O O (qJ O O) ?_
 rintro _ _ ⟨b1,rfl,rfl⟩
 refine A O<|Y<|G O<|zM yD (J 0 O) O<|zD O zDo<|zI one3 (J 0 O) O<|qT O zr48 pl48<|zW O (zTk O fl48 O O O)<|A O<|Y<|zH<|zS O ?_
 exact congrArg vB (plainT_eq t)
theorem zDn (t:Ty):
    Pur cfg 132 [vTy t] (vI (bif fL t then 0 else 10)):=by
 refine zR Tryz.func132 O Tryz.ntmps132 Tryz.results132 O ?_
 intro z hz
 refine G O<|zV O O (qJ O O) ?_
 rintro _ _ ⟨b1,rfl,rfl⟩
 refine A O<|Y<|G O<|zD O zKr<|zI one3 (J 0 O) O<|zW O (wF O O O)<|A O<|rL0 O (fun g1_3=>zG O zKr O) O<|rL1 8 O (fun g1_3=>zF O one3 O (J 0 O) O) O<|rL1 9 O (fun g1_3=>wP O O O) O<|yR O (fun h=>h)<|A O<|rL0 O (fun g1_8=>zG O zRl O) O<|rL1 13 O (fun g1_8=>zF O one3 O (J 0 O) O) O<|rL1 14 O (fun g1_8=>yM O O O) O<|rL1 15 O (fun g1_8=>zO O O) O<|rLz [] O gv2 T (fun g1_12=>zG O zRl O) O<|rLz [(17,_)] O gv2 ⟨O,O,T⟩ (fun g1_12=>zF O one3 O (J 0 O) O) O<|rLz [(18,_)] O gv2 ⟨O,O,T⟩ (fun g1_12=>yM O O O) O<|rL1 16 O (fun g1_8=>zAn O O O O (fun h=>kC uB (lzf h))) O<|yR O (fun h=>h)<|A O<|Y<|zJ<|G O<|zD O zDo<|zI one3 (J 0 O) O<|yK O<|A O<|rL0 O (fun g2_3=>zG O zKs O) O<|rL1 26 O (fun g2_3=>zF O one3 O (J 0 O) O) O<|rL1 27 O (fun g2_3=>zAv O O O) O<|r_or O (fun h=>(lzf h))<|A O<|rL0 O (fun g2_8=>zG O zKs O) O<|rL1 31 O (fun g2_8=>zF O one3 O (J 0 O) O) O<|rL1 32 O (fun g2_8=>yC O O O) O<|r_or O (fun h=>(lzf h))<|A O<|rL0 O (fun g2_13=>zG O zRm O) O<|rL1 36 O (fun g2_13=>zF O one3 O (J 0 O) O) O<|rL1 37 O (fun g2_13=>zAv O O O) O<|r_or O (fun h=>(lzf h))<|A O<|rL0 O (fun g2_18=>zG O zRm O) O<|rL1 41 O (fun g2_18=>zF O one3 O (J 0 O) O) O<|rL1 42 O (fun g2_18=>yC O O O) O<|r_or O (fun h=>(lzf h))<|A O<|rL0 O (fun g2_23=>zO O O) O<|rL1 46 O (fun g2_23=>kJ O O) O<|r_or O (fun h=>(lzf h))<|Y<|zE O (fun c1=>?_) (fun c1=>?_)
 ·refine G O<|A O<|Y<|zH<|zS O ?_
  rw [show fL t=false from fix_no c1];rfl
 ·refine zK<|G O<|A O<|Y<|zH<|zS O ?_
  rw [show fL t=true from fix_yes c1];rfl
theorem zDi (t:Ty):
    Pur cfg 102 [vTy t] (vI (dO t)):=by
 refine zR Tryz.func102 O Tryz.ntmps102 Tryz.results102 O ?_
 intro z hz
 refine G O<|zV O O (qJ O O) ?_
 rintro _ _ ⟨b1,rfl,rfl⟩
 refine A O<|Y<|zJ<|G O<|zD O zDo<|zI one3 (J 0 O) O<|Y<|zQ<|zJ<|G O<|yE O<|A O<|Y<|zE O (fun c1=>?_) (fun c1=>?_)
 ·try simp only [sx] at c1
  refine zK<|zE O (fun c2=>?_) (fun c2=>?_)
  ·exact k9
  ·exact o5
 ·try simp only [sx] at c1
  refine zT O<|yE O<|A O<|Y<|zE O (fun c2=>?_) (fun c2=>?_)
  ·exact k9
  ·exact o5
theorem zDr (t:Ty):
    Pur cfg 77 [vTy t] (vB (bV t)):=by
 refine zR Tryz.func77 O Tryz.ntmps77 Tryz.results77 O ?_
 intro z hz
 refine G O<|zV O O (qJ O O) ?_
 rintro _ _ ⟨b1,rfl,rfl⟩
 refine A O<|Y<|zJ<|G O<|zD O zDo<|zI one3 (J 0 O) O<|yE O<|A O<|rL0 O (fun g1_3=>zG O zDo O) O<|rL1 7 O (fun g1_3=>zF O one3 O (J 0 O) O) O<|rL1 8 O (fun g1_3=>yM O O O) O<|r_or O (fun h=>(lzf h))<|Y<|zE O (fun c1=>?_) (fun c1=>?_)
 ·refine G O<|zD O zKs<|zI one3 (J 0 O) O<|yE O<|A O<|rL0 O (fun g2_3=>zG O zRm O) O<|rL1 15 O (fun g2_3=>zF O one3 O (J 0 O) O) O<|rL1 16 O (fun g2_3=>yM O O O) O<|yR O (fun h=>h)<|A O<|rL0 O (fun g2_8=>zG O zKr O) O<|rL1 20 O (fun g2_8=>zF O one3 O (J 0 O) O) O<|rL1 21 O (fun g2_8=>yM O O O) O<|yR O (fun h=>h)<|A O<|rL0 O (fun g2_13=>zG O zRl O) O<|rL1 25 O (fun g2_13=>zF O one3 O (J 0 O) O) O<|rL1 26 O (fun g2_13=>yM O O O) O<|yR O (fun h=>h)<|A O<|Y<|zH<|zS O ?_
  exact congrArg vB (type1 c1)
 ·refine zK<|G O<|zD O zDo<|zI one3 (J 0 O) O<|yE O<|A O<|rL0 O (fun g3_3=>zG O zKs O) O<|rL1 33 O (fun g3_3=>zF O one3 O (J 0 O) O) O<|rL1 34 O (fun g3_3=>wF O O O) O<|yR O (fun h=>h)<|A O<|rL0 O (fun g3_8=>zG O zKs O) O<|rL1 38 O (fun g3_8=>zF O one3 O (J 0 O) O) O<|rL1 39 O (fun g3_8=>wP O O O) O<|yR O (fun h=>h)<|A O<|rL0 O (fun g3_13=>zG O zRm O) O<|rL1 43 O (fun g3_13=>zF O one3 O (J 0 O) O) O<|rL1 44 O (fun g3_13=>wF O O O) O<|yR O (fun h=>h)<|A O<|rL0 O (fun g3_18=>zG O zRm O) O<|rL1 48 O (fun g3_18=>zF O one3 O (J 0 O) O) O<|rL1 49 O (fun g3_18=>wP O O O) O<|yR O (fun h=>h)<|A O<|rL0 O (fun g3_23=>zG O zKr O) O<|rL1 53 O (fun g3_23=>zF O one3 O (J 0 O) O) O<|rL1 54 O (fun g3_23=>wF O O O) O<|yR O (fun h=>h)<|A O<|rL0 O (fun g3_28=>zG O zKr O) O<|rL1 58 O (fun g3_28=>zF O one3 O (J 0 O) O) O<|rL1 59 O (fun g3_28=>wP O O O) O<|yR O (fun h=>h)<|A O<|rL0 O (fun g3_33=>zG O zRl O) O<|rL1 63 O (fun g3_33=>zF O one3 O (J 0 O) O) O<|rL1 64 O (fun g3_33=>yM O O O) O<|rL1 65 O (fun g3_33=>zO O O) O<|rLz [] O gv2 T (fun g3_37=>zG O zRl O) O<|rLz [(67,_)] O gv2 ⟨O,O,T⟩ (fun g3_37=>zF O one3 O (J 0 O) O) O<|rLz [(68,_)] O gv2 ⟨O,O,T⟩ (fun g3_37=>yM O O O) O<|rL1 66 O (fun g3_33=>zAn O O O O (fun h=>kC uB (lzf h))) O<|yR O (fun h=>h)<|A O<|Y<|zH<|zS O ?_
  exact congrArg vB (type2 c1)
theorem zUu (b:Int):
    Pur cfg 271 [vI b] (vB (decide (2<=b)&&decide (b<=31))):=by
 refine zR Tryz.func271 O Tryz.ntmps271 Tryz.results271 O ?_
 exact r7
theorem round_MinInt (b:Int) (h1:2<=b) (h2:b<=31):
    Pur cfg 263 [vI b] (vI (-fS b)):=by
 refine zR Tryz.func263 O Tryz.ntmps263 Tryz.results263 O ?_
 intro z hz
 refine G O<|A O<|Y<|zJ<|G O<|A O<|qD O ok271 (zUu _) ⟨R,O,T⟩<|kN O<|Y<|zE O (fun c1=>?_) (fun c1=>?_)
 ·try simp only [sx] at c1
  exact absurd c1 zA
 ·try simp only [sx] at c1
  refine zK<|G O<|A O<|zW O (yA O O O ⟨zA,zA⟩)<|zW O (zAl O us3 ik185 O)<|zW O (det_shl O O O (by rw [zEg zA];omega))<|zW O (zHa O O)<|A O<|Y<|zH<|zS O ?_
  exact congrArg vI (min_eq h1 h2)
theorem round_MaxInt (b:Int) (h1:2<=b) (h2:b<=31):
    Pur cfg 264 [vI b] (vI (fS b-1)):=by
 refine zR Tryz.func264 O Tryz.ntmps264 Tryz.results264 O ?_
 intro z hz
 refine G O<|A O<|Y<|zJ<|G O<|A O<|qD O ok271 (zUu _) ⟨R,O,T⟩<|kN O<|Y<|zE O (fun c1=>?_) (fun c1=>?_)
 ·try simp only [sx] at c1
  exact absurd c1 zA
 ·try simp only [sx] at c1
  refine zK<|G O<|A O<|zW O (yA O O O ⟨zA,zA⟩)<|zW O (zAl O us3 ik185 O)<|zW O (det_shl O O O (by rw [zEg zA];omega))<|zW O (zMy O O O)<|A O<|Y<|zH<|zS O ?_
  exact congrArg vI (max_eq h1 h2)
theorem fixed_Valid (t:Ty) (v:Vl):
    Pur cfg 245 [vTy t,gL v] (vB (fL t&&(decide (v.D=1)&&decide (-fS t.Bits<=v.N)&&decide (v.N<fS t.Bits)))):=by
 refine zR Tryz.func245 O Tryz.ntmps245 Tryz.results245 O ?_
 intro z hz
 refine G O<|zV O O (qJ O O) ?_
 rintro _ _ ⟨b1,rfl,rfl⟩
 refine zV O O (qJ O O) ?_
 rintro _ _ ⟨b2,rfl,rfl⟩
 refine A O<|Y<|zJ<|qU 25 mixed uC O O<|zN O O (zU O yD O (J 1 O) O)<|zN O O (qG O ok132 (zDn _) ⟨R,O,T⟩)<|zN O O (yM O O O)<|zN O O (zO O O)<|qL [] O O O O B T (fun g1_3=>zG O zAq O) O<|qL [(9,_)] O O O O B ⟨O,O,T⟩ (fun g1_3=>zF O U O (J 0 O) O) O<|qL [(10,_)] O O O O B ⟨O,O,T⟩ (fun g1_3=>yM O O O) O<|zN O O (kZ O O O (fun h=>h) O)<|zN O O (zO O O)<|qL [] O O O O B T (fun g1_8=>zG O zAd O) O<|qL [(14,_)] O O O O B ⟨O,O,T⟩ (fun g1_8=>zF O U O (J 0 O) O) O<|qL [] O O O O B T (fun g1_8=>zG O zKs O) O<|qL [(16,_)] O O O O B ⟨O,O,T⟩ (fun g1_8=>zF O one3 O (J 1 O) O) O<|qL [(17,_)] O O O O B ⟨O,O,T⟩ (fun g1_8=>qG O ok263 (round_MinInt _ (fixB (fxa g1_8)).1 (fixB (fxa g1_8)).2) ⟨R,O,T⟩) O<|qL [(15,_),(18,_)] O O O O B ⟨O,O,O,O,T⟩ (fun g1_8=>wF O O O) O<|zN O O (kZ O O O (fun h=>h) O)<|zN O O (zO O O)<|qL [] O O O O B T (fun g1_16=>zG O zAd O) O<|qL [(22,_)] O O O O B ⟨O,O,T⟩ (fun g1_16=>zF O U O (J 0 O) O) O<|qL [] O O O O B T (fun g1_16=>zG O zKs O) O<|qL [(24,_)] O O O O B ⟨O,O,T⟩ (fun g1_16=>zF O one3 O (J 1 O) O) O<|qL [(25,_)] O O O O B ⟨O,O,T⟩ (fun g1_16=>qG O ok264 (round_MaxInt _ (fixB (fxb g1_16)).1 (fixB (fxb g1_16)).2) ⟨R,O,T⟩) O<|qL [(23,_),(26,_)] O O O O B ⟨O,O,O,O,T⟩ (fun g1_16=>wP O O O) O<|zN O O (kZ O O O (fun h=>h) O)<|zN O O (qX O O)<|yP<|Y<|zH<|zS O ?_
 exact congrArg vB (fixV t v)
theorem value_whole (n:Int):
    Pur cfg 246 [vI n] (vB (dV n)):=by
 refine zR Tryz.func246 O Tryz.ntmps246 Tryz.results246 O ?_
 exact r7
theorem frac_inRange (n:Int):
    Pur cfg 265 [vI n] (vB (dV n)):=by
 refine zR Tryz.func265 O Tryz.ntmps265 Tryz.results265 O ?_
 exact r7
theorem frac_magnitude (n:Int) (hn: -9223372036854775808<=n) (hm:n<=9223372036854775807):
    Pur cfg 267 [vI n] (mM n.natAbs):=by
 refine zR Tryz.func267 O Tryz.ntmps267 Tryz.results267 O ?_
 intro z hz
 refine G O<|A O<|Y<|zJ<|G O<|A O<|yG O<|Y<|zE O (fun c1=>?_) (fun c1=>?_)
 ·try simp only [sx] at c1
  refine G O<|A O<|zW O (zAl O us2 ik154 O)<|zW O (zHa O O)<|A O<|Y<|zH<|zS O ?_
  exact congrArg mM (mag_neg c1 hn)
 ·try simp only [sx] at c1
  refine zK<|G O<|A O<|zW O (zAl O us2 ik154 O)<|A O<|Y<|zH<|zS O ?_
  exact congrArg mM (mag_pos zA hm)
theorem frac_gcd (a b:Nat):
    Pur cfg 266 [mM a,mM b] (mM (Nat.gcd a b)):=by
 refine zR Tryz.func266 O Tryz.ntmps266 Tryz.results266 O ?_
 exact s6
theorem base_gcd (a b:Nat):
    Pur cfg 149 [vI a,vI b] (vI (Nat.gcd a b)):=by
 refine zR Tryz.func149 O Tryz.ntmps149 Tryz.results149 O ?_
 intro z hz
 refine G O<|A O<|Y<|zJ<|zQ<|zY ⟨[(0,.c _),(1,.c _)],[]⟩ (Weak.mk [] ⟨R,R,T⟩ O)<|qK 2 0 O O (Nat×Nat) (fun ⟨x,y⟩=>[(0,vI x),(1,vI y)]) (fun ⟨x,y⟩=>[]) (fun ⟨x,y⟩=>Nat.gcd a b=Nat.gcd x y) (fun ⟨x,y⟩=>y) ⟨⟨a,b⟩,O,Weak.mk [] ⟨R,R,T⟩ O⟩ ?_
 rintro ⟨x,y⟩ hg
 refine zJ<|G O<|A O<|yK O<|Y<|zE O (fun c1=>?_) (fun c1=>?_)
 ·try simp only [sx] at c1
  refine zK<|zQ<|qU 6 mixed uC O O<|zN O O (zO O O)<|zN O O (zO O O)<|zN O O (zO O O)<|zN O O (zMz O O O zA)<|zN O O (qX O O)<|zN O O (qX O O)<|yP<|Y ?_
  refine ⟨⟨y,x%y⟩,(by rw [hg];exact gcd_step zA),(Nat.mod_lt _ zA),Weak.mk [] ⟨R,VLe.of_eq (congrArg vI (Int.ofNat_tmod x y).symm),T⟩ O⟩
 ·try simp only [sx] at c1
  refine qN<|G O<|A O<|A O<|Y<|zH<|zS O ?_
  exact congrArg vI (by rw [hg,show y=0 by omega,Nat.gcd_zero_right])
theorem frac_Valid (v:Vl):
    Pur cfg 247 [gL v] (vB (decide (1<=v.D)&&decide (v.D<=2147483647)&&dV v.N&&decide (Int.gcd v.N v.D=1))):=by
 refine zR Tryz.func247 O Tryz.ntmps247 Tryz.results247 O ?_
 intro z hz
 refine G O<|zV O O (qJ O O) ?_
 rintro _ _ ⟨b1,rfl,rfl⟩
 refine A O<|Y<|zJ<|qU 24 mixed uC O O<|zN O O (zG O zAq O)<|zN O O (zF O U O (J 0 O) O)<|zN O O (wF O O O)<|zN O O (zO O O)<|qL [] O O O O B T (fun g1_3=>zG O zAq O) O<|qL [(7,_)] O O O O B ⟨O,O,T⟩ (fun g1_3=>zF O U O (J 0 O) O) O<|qL [(8,_)] O O O O B ⟨O,O,T⟩ (fun g1_3=>wP O O O) O<|zN O O (kZ O O O (fun h=>h) O)<|zN O O (zO O O)<|qL [] O O O O B T (fun g1_8=>zG O zAd O) O<|qL [(12,_)] O O O O B ⟨O,O,T⟩ (fun g1_8=>zF O U O (J 0 O) O) O<|qL [(13,_)] O O O O B ⟨O,O,T⟩ (fun g1_8=>qG O ok265 (frac_inRange _) ⟨R,O,T⟩) O<|zN O O (kZ O O O (fun h=>h) O)<|zN O O (zO O O)<|qL [] O O O O B T (fun g1_13=>zG O zAd O) O<|qL [(17,_)] O O O O B ⟨O,O,T⟩ (fun g1_13=>zF O U O (J 0 O) O) O<|qL [(18,_)] O O O O B ⟨O,O,T⟩ (fun g1_13=>qG O ok267 (frac_magnitude v.N (frV g1_13).2.2.1 (frV g1_13).2.2.2) ⟨R,O,T⟩) O<|qL [] O O O O B T (fun g1_13=>zG O zAq O) O<|qL [(20,_)] O O O O B ⟨O,O,T⟩ (fun g1_13=>zF O U O (J 0 O) O) O<|qL [(21,_)] O O O O B ⟨O,O,T⟩ (fun g1_13=>zAl O us2 ik154 O) O<|qL [(19,_),(22,_)] O O O O B ⟨O,O,O,O,T⟩ (fun g1_13=>qG O ok266 (show Pur cfg 266 [mM v.N.natAbs,mM (IntKind.u64.wrap v.D)] (mM (Nat.gcd v.N.natAbs v.D.natAbs)) from by rw [u64_D (frV g1_13).1 (frV g1_13).2.1];exact frac_gcd _ _) ⟨R,O,R,O,T⟩) O<|qL [(23,_)] O O O O B ⟨O,O,T⟩ (fun g1_13=>yM O O O) O<|zN O O (kZ O O O (fun h=>h) O)<|zN O O (qX O O)<|yP<|Y<|zH<|zS O ?_
 exact congrArg vB (by rw [show (decide (((Nat.gcd v.N.natAbs v.D.natAbs:Nat):Int)=1))=decide (Int.gcd v.N v.D=1) from decide_eq_decide.2 (by unfold Int.gcd;omega)])
theorem value_Valid (t:Ty) (v:Vl):
    Pur cfg 213 [vTy t,gL v] (vB (bV t&&bI t v)):=by
 refine zR Tryz.func213 O Tryz.ntmps213 Tryz.results213 O ?_
 intro z hz
 refine G O<|zV O O (qJ O O) ?_
 rintro _ _ ⟨b1,rfl,rfl⟩
 refine zV O O (qJ O O) ?_
 rintro _ _ ⟨b2,rfl,rfl⟩
 refine A O<|Y<|zJ<|G O<|zM yD (J 1 O) O<|qD O ok102 (zDi _) ⟨R,O,T⟩<|yK O<|Y<|zE O (fun c1=>?_) (fun c1=>?_)
 ·try simp only [sx] at c1
  have ht:bV t=false:=tyErr_ne c1
  refine G O<|A O<|Y<|zH<|zS O ?_
  rw [ht];rfl
 ·try simp only [sx] at c1
  have ht:bV t=true:=zLe c1
  refine zK<|zJ<|G O<|zD O zDo<|zI one3 (J 1 O) O<|Y<|zQ<|G O<|yE O<|A O<|Y<|zE O (fun c2=>?_) (fun c2=>?_)
  ·try simp only [sx] at c2
   refine G O<|zM yD (J 1 O) O<|zM yO (J 0 O) O<|qD O ok245 (fixed_Valid _ _) ⟨R,O,R,O,T⟩<|A O<|Y<|zH<|zS O ?_
   exact congrArg vB (by rw [ht,bI,c2,←zAr c2,ht];rfl)
  ·try simp only [sx] at c2
   refine G O<|yE O<|A O<|Y<|zE O (fun c3=>?_) (fun c3=>?_)
   ·try simp only [sx] at c3
    refine G O<|zD O zAq<|zI U (J 0 O) O<|yE O<|A O<|rL0 O (fun g7_3=>zG O zAd O) O<|rL1 21 O (fun g7_3=>zF O U O (J 0 O) O) O<|rL1 22 O (fun g7_3=>qG O ok246 (value_whole _) ⟨R,O,T⟩) O<|yR O (fun h=>h)<|A O<|Y<|zH<|zS O ?_
    exact congrArg vB (by rw [ht,bI,qW c2,c3];rfl)
   ·try simp only [sx] at c3
    refine zK<|G O<|zM yO (J 0 O) O<|qD O ok247 (frac_Valid _) ⟨R,O,T⟩<|A O<|Y<|zH<|zS O ?_
    exact congrArg vB (by rw [ht,bI,qW c2,qW c3];rfl)
theorem zGr (t:Ty) (v:Vl) (ht:bV t=true):
    Pur cfg 126 [vTy t,gL v] (vB (bI t v)):=by
 refine zR Tryz.func126 O Tryz.ntmps126 Tryz.results126 O ?_
 intro z hz
 refine G O<|zV O O (qJ O O) ?_
 rintro _ _ ⟨b1,rfl,rfl⟩
 refine zV O O (qJ O O) ?_
 rintro _ _ ⟨b2,rfl,rfl⟩
 refine A O<|Y<|zJ<|G O<|zD O zDo<|zI one3 (J 1 O) O<|yE O<|Y<|zE O (fun c1=>?_) (fun c1=>?_)
 ·try simp only [sx] at c1
  obtain ⟨b1,b2⟩:=fixB (by rw [←zAr c1];exact ht)
  refine G O<|zD O zKs<|zI one3 (J 1 O) O<|zW O (yA O O O ⟨zA,zA⟩)<|zW O (det_shl O O O zA)<|A O<|Y<|G O<|zD O zAq<|zI U (J 0 O) O<|yE O<|A O<|rL0 O (fun g3_3=>zG O zAd O) O<|rL1 17 O (fun g3_3=>zF O U O (J 0 O) O) O<|rL0 O (fun g3_3=>zO O O) O<|rL1 19 O (fun g3_3=>zHa O O) O<|rLz [(18,_),(20,_)] O B ⟨O,O,O,O,T⟩ (fun g3_3=>wF O O O) O<|yR O (fun h=>h)<|A O<|rL0 O (fun g3_10=>zG O zAd O) O<|rL1 24 O (fun g3_10=>zF O U O (J 0 O) O) O<|rL0 O (fun g3_10=>zO O O) O<|rLz [(25,_),(26,_)] O B ⟨O,O,O,O,T⟩ (fun g3_10=>zAv O O O) O<|yR O (fun h=>h)<|A O<|Y<|zH<|zS O ?_
  exact congrArg vB (valfix c1 b1 b2)
 ·try simp only [sx] at c1
  refine zK<|zJ<|G O<|zD O zAd<|zI U (J 0 O) O<|zW O (yC O O O)<|A O<|rL0 O (fun g4_3=>zG O zAd O) O<|rL1 33 O (fun g4_3=>zF O U O (J 0 O) O) O<|rL1 34 O (fun g4_3=>zAv O O O) O<|r_or O (fun h=>(lzf h))<|A O<|rL0 O (fun g4_8=>zG O zAq O) O<|rL1 38 O (fun g4_8=>zF O U O (J 0 O) O) O<|rL1 39 O (fun g4_8=>zAv O O O) O<|r_or O (fun h=>(lzf h))<|A O<|rL0 O (fun g4_13=>zG O zAq O) O<|rL1 43 O (fun g4_13=>zF O U O (J 0 O) O) O<|rL1 44 O (fun g4_13=>yC O O O) O<|r_or O (fun h=>(lzf h))<|Y<|zE O (fun c2=>?_) (fun c2=>?_)
  ·refine G O<|A O<|Y<|zH<|zS O ?_
   exact congrArg vB (val_out c1 c2).symm
  ·obtain ⟨hN1,hN2,hD1,hD2⟩:=val_in c2
   refine zK<|zJ<|G O<|zD O zDo<|zI one3 (J 1 O) O<|yE O<|Y<|zE O (fun c3=>?_) (fun c3=>?_)
   ·try simp only [sx] at c3
    refine G O<|zD O zAq<|zI U (J 0 O) O<|yE O<|A O<|Y<|zH<|zS O ?_
    exact congrArg vB (by rw [bI,qW c1,c3];simp [dV,hN1,hN2])
   ·try simp only [sx] at c3
    refine zK<|G O<|zD O zAd<|zI U (J 0 O) O<|zD O zAd<|zI U (J 0 O) O<|zW O (zHa O O)<|zW O (zIt O O O)<|zD O zAq<|zI U (J 0 O) O<|qD O ok149 (show Pur cfg 149 [vI (max v.N (IntKind.i64.wrap (-v.N))),vI v.D] (vI (Int.gcd v.N v.D)) from by rw [max_abs hN1 hN2,show v.D=(v.D.natAbs:Int) by omega];exact base_gcd _ _) ⟨R,O,R,O,T⟩<|yE O<|A O<|Y<|zH<|zS O ?_
    exact congrArg vB (by rw [bI,qW c1,qW c3];simp [dV,hN1,hN2,hD1,hD2];omega)
theorem ref04_Zero (t:Ty):
    Pur cfg 64 [vTy t] (gL (xU t)):=by
 refine zR Tryz.func64 O Tryz.ntmps64 Tryz.results64 O ?_
 intro z hz
 refine G O<|zV O O (qJ O O) ?_
 rintro _ _ ⟨b1,rfl,rfl⟩
 refine zV O O (qV O W) ?_
 rintro _ _ ⟨b2,rfl,rfl⟩
 refine Y<|zJ<|G O<|zM yD (J 1 O) O<|qD O ok77 (zDr _) ⟨R,O,T⟩<|kN O<|Y<|zE O (fun c1=>?_) (fun c1=>?_)
 ·try simp only [sx] at c1
  refine G O<|qT O W pl46<|rStR 0 L O<|Y<|zH<|fin1 (zP yO O (J 0 O) O) ?_
  rw [xU,c1];rfl
 ·try simp only [sx] at c1
  refine zK<|G O<|qT O W pl46<|rStR 0 L O<|Y<|zH<|fin1 (zP yO O (J 0 O) O) ?_
  rw [xU,c1];rfl
end Go.W
end
section
set_option maxRecDepth 10000
namespace Go.W
open Go Go.Eng Go.Proofs Go.L41 Go.Br
attribute [local irreducible] AWP RWP TD fH
theorem yX:mO Tryz.prog 54=some 13:=by kernel_rfl
theorem el52:dX Tryz.prog 52=some (54,13,160):=by kernel_rfl
theorem el90:dX Tryz.prog 90=some (51,2,32):=by kernel_rfl
theorem kO:bH Tryz.prog 54 0=some (0,3):=by kernel_rfl
theorem zGd:bH Tryz.prog 54 1=some (1,9):=by kernel_rfl
theorem zKq:bH Tryz.prog 54 2=some (2,46):=by kernel_rfl
theorem zEu:bH Tryz.prog 54 3=some (4,48):=by kernel_rfl
theorem zDv:bH Tryz.prog 54 4=some (9,51):=by kernel_rfl
theorem wI:bH Tryz.prog 54 5=some (11,44):=by kernel_rfl
theorem wA:bH Tryz.prog 54 6=some (12,52):=by kernel_rfl
theorem zFh:bH Tryz.prog 92 0=some (0,51):=by kernel_rfl
theorem zEs:bH Tryz.prog 92 1=some (2,9):=by kernel_rfl
theorem zAu:bH Tryz.prog 92 2=some (3,90):=by kernel_rfl
theorem fl46:flatK Tryz.prog 46=some [.int,.int]:=by kernel_rfl
theorem ok17:bA Tryz.prog 17=true:=by kernel_rfl
theorem ok114:bA Tryz.prog 114=true:=by kernel_rfl
theorem ok126:bA Tryz.prog 126=true:=by kernel_rfl
theorem ok136:bA Tryz.prog 136=true:=by kernel_rfl
theorem ok159:bA Tryz.prog 159=true:=by kernel_rfl
theorem ok160:bA Tryz.prog 160=true:=by kernel_rfl
theorem ok161:bA Tryz.prog 161=true:=by kernel_rfl
theorem ok181:bA Tryz.prog 181=true:=by kernel_rfl
theorem ok182:bA Tryz.prog 182=true:=by kernel_rfl
theorem ok183:bA Tryz.prog 183=true:=by kernel_rfl
theorem ok184:bA Tryz.prog 184=true:=by kernel_rfl
theorem ok185:bA Tryz.prog 185=true:=by kernel_rfl
theorem ok186:bA Tryz.prog 186=true:=by kernel_rfl
theorem ok187:bA Tryz.prog 187=true:=by kernel_rfl
theorem ok208:bA Tryz.prog 208=true:=by kernel_rfl
theorem ok218:bA Tryz.prog 218=true:=by kernel_rfl
theorem ok219:bA Tryz.prog 219=true:=by kernel_rfl
theorem ok220:bA Tryz.prog 220=true:=by kernel_rfl
theorem ok237:bA Tryz.prog 237=true:=by kernel_rfl
theorem ok238:bA Tryz.prog 238=true:=by kernel_rfl
theorem ok239:bA Tryz.prog 239=true:=by kernel_rfl
theorem ok240:bA Tryz.prog 240=true:=by kernel_rfl
theorem ok241:bA Tryz.prog 241=true:=by kernel_rfl
theorem ok242:bA Tryz.prog 242=true:=by kernel_rfl
theorem ok243:bA Tryz.prog 243=true:=by kernel_rfl
theorem ok244:bA Tryz.prog 244=true:=by kernel_rfl
theorem wQ:lX Tryz.prog 44=true:=by kernel_rfl
theorem zAo:lX Tryz.prog 52=true:=by kernel_rfl
theorem zEo:lX Tryz.prog 90=true:=by kernel_rfl
theorem sz54:(Tryz.prog.info? 54).map (·.size)=some 13:=by kernel_rfl
theorem sz92:(Tryz.prog.info? 92).map (·.size)=some 4:=by kernel_rfl
theorem un4:Tryz.prog.underlying 4=some .bool:=by kernel_rfl
theorem zr54:fF Tryz.prog 54=some [(Value.int IntKind.i64 0),(Value.string (ByteArray.mk #[])),(Value.int IntKind.i64 0),(Value.int IntKind.i64 0),(Value.int IntKind.i64 0),(Value.int IntKind.i64 0),(Value.int IntKind.i64 0),(Value.int IntKind.i64 0),(Value.int IntKind.i64 0),(Value.int IntKind.i64 0),(Value.slice none 0 0),(Value.slice none 0 0),(Value.slice none 0 0)]:=by kernel_rfl
theorem zr92:fF Tryz.prog 92=some [(Value.int IntKind.i64 0),(Value.slice none 0 0),(Value.string (ByteArray.mk #[])),(Value.slice none 0 0)]:=by kernel_rfl
theorem expr_operands (op:Int):
    Pur cfg 242 [vI op] (vI (bL op)):=by
 refine zR Tryz.func242 O Tryz.ntmps242 Tryz.results242 O ?_
 exact r9
theorem wG (e:Ex):
    Pur cfg 136 [vE e] (vB (bE e)):=by
 refine zR Tryz.func136 O Tryz.ntmps136 Tryz.results136 O ?_
 intro z hz
 refine G O<|zV O O (qJ O O) ?_
 rintro _ _ ⟨b1,rfl,rfl⟩
 refine A O<|Y<|G O<|zD O kO<|zI one3 (J 0 O) O<|zW O (wP O O O)<|A O<|rL0 O (fun g1_3=>zG O kO O) O<|rL1 7 O (fun g1_3=>zF O one3 O (J 0 O) O) O<|rL1 8 O (fun g1_3=>wP O O O) O<|yR O (fun h=>h)<|A O<|Y<|zH<|zS O ?_
 exact O
theorem zQz (op:Int):
    Pur cfg 218 [vI op] (vI (bL op)):=by
 refine zR Tryz.func218 O Tryz.ntmps218 Tryz.results218 O ?_
 exact r9
theorem kW (e:Ex):
    Pur cfg 114 [vE e] (vB (bE e)):=by
 refine zR Tryz.func114 O Tryz.ntmps114 Tryz.results114 O ?_
 intro z hz
 refine G O<|zV O O (qJ O O) ?_
 rintro _ _ ⟨b1,rfl,rfl⟩
 refine A O<|Y<|G O<|zD O kO<|zI one3 (J 0 O) O<|zW O (wF O O O)<|A O<|rL0 O (fun g1_3=>zG O kO O) O<|rL1 7 O (fun g1_3=>zF O one3 O (J 0 O) O) O<|rL1 8 O (fun g1_3=>wP O O O) O<|yR O (fun h=>h)<|A O<|Y<|zH<|zS O ?_
 exact O
theorem zJj (op i:Int):
    Pur cfg 244 [vI op,vI i] (vB (fU op i)):=by
 refine zR Tryz.func244 O Tryz.ntmps244 Tryz.results244 O ?_
 intro z hz
 refine G O<|A O<|Y<|zJ<|G O<|A O<|Y<|zQ<|zJ<|G O<|yE O<|A O<|Y<|zE O (fun c1=>?_) (fun c1=>?_)
 ·try simp only [sx] at c1
  refine zK<|zE O (fun c3=>?_) (fun c3=>?_)
  ·try simp only [sx] at c3
   refine G O<|A O<|Y<|zH<|zS O ?_
   exact s8
  ·exact m8
 ·try simp only [sx] at c1
  refine G O<|yE O<|A O<|Y<|zE O (fun c2=>?_) (fun c2=>?_)
  ·try simp only [sx] at c2
   refine zK<|zE O (fun c3=>?_) (fun c3=>?_)
   ·try simp only [sx] at c3
    refine G O<|A O<|Y<|zH<|zS O ?_
    exact s8
   ·exact m8
  ·try simp only [sx] at c2
   refine zT O<|yE O<|A O<|Y<|zE O (fun c3=>?_) (fun c3=>?_)
   ·try simp only [sx] at c3
    refine G O<|A O<|Y<|zH<|zS O ?_
    exact s8
   ·exact m8
theorem ref14_wants (op i:Int):
    Pur cfg 219 [vI op,vI i] (vB (fU op i)):=by
 refine zR Tryz.func219 O Tryz.ntmps219 Tryz.results219 O ?_
 intro z hz
 refine G O<|A O<|Y<|G O<|A O<|yE O<|A O<|rL0 O (fun g1_2=>zO O O) O<|rL1 8 O (fun g1_2=>yM O O O) O<|yR O (fun h=>h)<|A O<|rL0 O (fun g1_6=>zO O O) O<|rL1 12 O (fun g1_6=>yM O O O) O<|r_or O (fun h=>(lzf h))<|A O<|rL0 O (fun g1_10=>zO O O) O<|rL1 16 O (fun g1_10=>yM O O O) O<|r_or O (fun h=>(lzf h))<|A O<|rL0 O (fun g1_14=>zO O O) O<|rL1 20 O (fun g1_14=>yM O O O) O<|r_or O (fun h=>(lzf h))<|A O<|Y<|zH<|zS O ?_
 exact O
theorem zWn (l:Lf):
    Pur cfg 237 [dF l] (vB (rA l)):=by
 refine zR Tryz.func237 O Tryz.ntmps237 Tryz.results237 O ?_
 intro z hz
 refine G O<|zV O O (qJ O O) ?_
 rintro _ _ ⟨b1,rfl,rfl⟩
 refine A O<|Y<|G O<|zD O zEv<|zI U (J 0 O) O<|yE O<|A O<|rL0 O (fun g1_3=>zG O wK O) O<|rL1 7 O (fun g1_3=>zF O zBl O (J 0 O) O) O<|rL1 8 O (fun g1_3=>yJ O N O) O<|rL1 9 O (fun g1_3=>yM O O O) O<|yR O (fun h=>h)<|A O<|Y<|zH<|zS O ?_
 exact O
theorem zWm (x:Ix):
    Pur cfg 240 [lA x] (vB (lU x)):=by
 refine zR Tryz.func240 O Tryz.ntmps240 Tryz.results240 O ?_
 intro z hz
 refine G O<|zV O O (qJ O O) ?_
 rintro _ _ ⟨b1,rfl,rfl⟩
 refine A O<|Y<|zJ<|G O<|zD O zEs<|zI one9 (J 0 O) O<|wL O<|Y<|zE O (fun c1=>?_) (fun c1=>?_)
 ·try simp only [sx] at c1
  refine G O<|zD O zAu<|zI zEo (J 0 O) O<|qB O el90<|yE O<|A O<|Y<|zH<|zS O ?_
  rw [lU,wR c1];rfl
 ·try simp only [sx] at c1
  refine zK<|G O<|zD O zFh<|zM kP (J 0 O) O<|qD O ok237 (zWn x.Lin) ⟨R,O,T⟩<|A O<|Y<|zH<|zS O ?_
  rw [lU,qW c1];rfl
theorem expr_syntax_1 (x:Ix):
    Pur cfg 239 [lA x] (vB (!lU x)):=by
 refine zR Tryz.func239 O Tryz.ntmps239 Tryz.results239 O ?_
 intro z hz
 refine G O<|zV O O (qJ O O) ?_
 rintro _ _ ⟨b1,rfl,rfl⟩
 refine A O<|Y<|G O<|zM zPo (J 0 O) O<|qD O ok240 (zWm x) ⟨R,O,T⟩<|kN O<|A O<|Y<|zH<|zS O ?_
 exact O
theorem expr_names_1 (x:Ix):
    Pur cfg 241 [lA x] (vB (!tW x)):=by
 refine zR Tryz.func241 O Tryz.ntmps241 Tryz.results241 O ?_
 intro z hz
 refine G O<|zV O O (qJ O O) ?_
 rintro _ _ ⟨b1,rfl,rfl⟩
 refine A O<|Y<|G O<|zD O zEs<|zI one9 (J 0 O) O<|zW O (zBj O O O)<|A O<|rL0 O (fun g1_3=>zG O zEs O) O<|rL1 7 O (fun g1_3=>zF O one9 O (J 0 O) O) O<|rL1 8 O (fun g1_3=>qG O ok17 (zBa _) ⟨R,O,T⟩) O<|rL1 9 O (fun g1_3=>kJ O O) O<|yR O (fun h=>h)<|A O<|Y<|zH<|zS O ?_
 exact congrArg vB (by unfold tW;simp)
theorem expr_rank_1 (x:Ix):
    Pur cfg 243 [lA x] (vB (!tH x)):=by
 refine zR Tryz.func243 O Tryz.ntmps243 Tryz.results243 O ?_
 intro z hz
 refine G O<|zV O O (qJ O O) ?_
 rintro _ _ ⟨b1,rfl,rfl⟩
 refine A O<|Y<|G O<|zD O zAu<|zI zEo (J 0 O) O<|qB O el90<|zW O (yC O O O)<|A O<|Y<|zH<|zS O ?_
 exact congrArg vB (by unfold tH;simp)
theorem expr_syntax (e:Ex) (he:e.wt<=6000000000000):
    Pur cfg 209 [vE e] (vB (jS e)):=by
 refine zR Tryz.func209 O Tryz.ntmps209 Tryz.results209 O ?_
 intro z hz
 obtain ⟨hL,hI,hA⟩:=e.parts he
 refine G O<|zV O O (qJ O O) ?_
 rintro _ _ ⟨b1,rfl,rfl⟩
 refine A O<|Y<|zJ<|qU 13 mixed uC O O<|zN O O (zG O kO O)<|zN O O (zF O one3 O (J 0 O) O)<|zN O O (yM O O O)<|zN O O (zG O kO O)<|zN O O (zF O one3 O (J 0 O) O)<|zN O O (yM O O O)<|zN O O (zO O O)<|qL [] O O O O B T (fun g1_6=>zG O kO O) O<|qL [(14,_)] O O O O B ⟨O,O,T⟩ (fun g1_6=>zF O one3 O (J 0 O) O) O<|qL [(15,_)] O O O O B ⟨O,O,T⟩ (fun g1_6=>yM O O O) O<|zN O O (zAn O O O O (fun h=>(lzf h)))<|zN O O (qX O O)<|zN O O (qX O O)<|yP<|Y<|zJ<|qU 8 mixed uC O O<|zN O O (zG O kO O)<|zN O O (zF O one3 O (J 0 O) O)<|zN O O (yM O O O)<|zN O O (zG O kO O)<|zN O O (zF O one3 O (J 0 O) O)<|zN O O (yM O O O)<|zN O O (qX O O)<|zN O O (qX O O)<|yP<|Y<|zJ<|zQ<|G O<|zD O kO<|zI one3 (J 0 O) O<|yG O<|A O<|rL0 O (fun g3_3=>zG O kO O) O<|rL1 29 O (fun g3_3=>zF O one3 O (J 0 O) O) O<|rL1 30 O (fun g3_3=>yC O O O) O<|r_or O (fun h=>(lzf h))<|A O<|Y<|zE O (fun c1=>?_) (fun c1=>?_)
 ·refine G O<|A O<|Y<|zH<|zS O ?_
  exact congrArg vB (by simp only [jS,c1,Bool.not_true,Bool.not_false,Bool.true_and,Bool.and_true,Bool.false_and,Bool.and_false])
 ·refine G O<|A O<|kN O<|A O<|rL0 O (fun g5_2=>zG O zKq O) O<|rL1 37 O (fun g5_2=>zU O yO O (J 0 O) O) O<|rL0 O (fun g5_2=>zCr O W pl46 O) O<|rLz [(38,_),(39,_)] O B ⟨O,O,O,O,T⟩ (fun g5_2=>wY O fl46 O O O) O<|yR O (fun h=>h)<|A O<|Y<|zE O (fun c2=>?_) (fun c2=>?_)
  ·have c2:(!decide (e.Op=1)&& !xI e.Val)=true:=c2
   refine G O<|A O<|Y<|zH<|zS O ?_
   exact congrArg vB (by simp only [jS,c2,Bool.not_true,Bool.not_false,Bool.true_and,Bool.and_true,Bool.false_and,Bool.and_false])
  ·have c2:(!decide (e.Op=1)&& !xI e.Val)=false:=c2
   refine G O<|A O<|kN O<|A O<|rL0 O (fun g7_2=>zG O zEu O) O<|rL1 46 O (fun g7_2=>zU O yD O (J 0 O) O) O<|rL0 O (fun g7_2=>zCr O zr48 pl48 O) O<|rLz [(47,_),(48,_)] O B ⟨O,O,O,O,T⟩ (fun g7_2=>wY O fl48 O O O) O<|yR O (fun h=>h)<|A O<|Y<|zE O (fun c3=>?_) (fun c3=>?_)
   ·have c3:(!(decide (e.Op=1)||decide (e.Op=12))&& !ty0 e.Ty)=true:=c3
    refine G O<|A O<|Y<|zH<|zS O ?_
    exact congrArg vB (by simp only [jS,c3,Bool.not_true,Bool.not_false,Bool.true_and,Bool.and_true,Bool.false_and,Bool.and_false])
   ·have c3:(!(decide (e.Op=1)||decide (e.Op=12))&& !ty0 e.Ty)=false:=c3
    refine G O<|A O<|kN O<|A O<|rL0 O (fun g9_2=>zG O zDv O) O<|rL1 55 O (fun g9_2=>zU O kP O (J 0 O) O) O<|rL1 56 O (fun g9_2=>qG O ok237 (zWn e.Lin) ⟨R,O,T⟩) O<|rL1 57 O (fun g9_2=>kJ O O) O<|yR O (fun h=>h)<|A O<|Y<|zE O (fun c4=>?_) (fun c4=>?_)
    ·refine G O<|A O<|Y<|zH<|zS O ?_
     exact congrArg vB (by simp only [jS,c4,Bool.not_true,Bool.not_false,Bool.true_and,Bool.and_true,Bool.false_and,Bool.and_false])
    ·refine G O<|A O<|kN O<|A O<|rL0 O (fun g11_2=>zG O zGd O) O<|rL1 64 O (fun g11_2=>zF O one9 O (J 0 O) O) O<|rL1 65 O (fun g11_2=>zBj O O O) O<|rL1 66 O (fun g11_2=>zO O O) O<|rLz [] O gv2 T (fun g11_6=>zG O wI O) O<|rLz [(68,_)] O gv2 ⟨O,O,T⟩ (fun g11_6=>zF O wQ O (J 0 O) O) O<|rLz [(69,_)] O gv2 ⟨O,O,T⟩ (fun g11_6=>yJ O v O) O<|rLz [(70,_)] O gv2 ⟨O,O,T⟩ (fun g11_6=>yC O O O) O<|rL1 67 O (fun g11_2=>zAn O O O O (fun h=>kC uB (lzf h))) O<|yR O (fun h=>h)<|A O<|Y<|zE O (fun c5=>?_) (fun c5=>?_)
     ·refine G O<|A O<|Y<|zH<|zS O ?_
      exact congrArg vB (by simp only [jS,c5,Bool.not_true,Bool.not_false,Bool.true_and,Bool.and_true,Bool.false_and,Bool.and_false])
     ·refine zK<|G O<|zD O wI<|zI wQ (J 0 O) O<|qD O ok238 (zBr e.Idx _ (fun x=> !lU x) hI (fun x _=>FnPur.of_pur (first:=[]) (cap:=[]) ok239 (expr_syntax_1 x))) ⟨R,O,R,O,T⟩<|kN O<|A O<|Y<|zH<|zS O ?_
      exact congrArg vB (by rw [zKg];simp only [jS,c1,c2,c3,c4,c5,Bool.not_true,Bool.not_false,Bool.true_and,Bool.and_true,Bool.false_and,Bool.and_false])
theorem expr_names (e:Ex) (he:e.wt<=6000000000000):
    Pur cfg 210 [vE e] (vB (nA e)):=by
 refine zR Tryz.func210 O Tryz.ntmps210 Tryz.results210 O ?_
 intro z hz
 obtain ⟨hL,hI,hA⟩:=e.parts he
 refine G O<|zV O O (qJ O O) ?_
 rintro _ _ ⟨b1,rfl,rfl⟩
 refine A O<|Y<|zJ<|G O<|zD O kO<|zI one3 (J 0 O) O<|yE O<|A O<|rL0 O (fun g1_3=>zG O zGd O) O<|rL1 7 O (fun g1_3=>zF O one9 O (J 0 O) O) O<|rL1 8 O (fun g1_3=>qG O ok17 (zBa _) ⟨R,O,T⟩) O<|rL1 9 O (fun g1_3=>kJ O O) O<|yR O (fun h=>h)<|Y<|zE O (fun c1=>?_) (fun c1=>?_)
 ·refine G O<|A O<|Y<|zH<|zS O ?_
  exact congrArg vB (by simp only [nA,c1,Bool.not_true,Bool.false_and])
 ·refine zK<|G O<|zD O wI<|zI wQ (J 0 O) O<|qD O ok238 (zBr e.Idx _ (fun x=> !tW x) hI (fun x _=>FnPur.of_pur (first:=[]) (cap:=[]) ok241 (expr_names_1 x))) ⟨R,O,R,O,T⟩<|kN O<|A O<|Y<|zH<|zS O ?_
  exact congrArg vB (by rw [zKg];simp only [nA,c1,Bool.not_false,Bool.true_and])
theorem expr_rank (e:Ex) (he:e.wt<=6000000000000):
    Pur cfg 211 [vE e] (vB (mS e)):=by
 refine zR Tryz.func211 O Tryz.ntmps211 Tryz.results211 O ?_
 intro z hz
 obtain ⟨hL,hI,hA⟩:=e.parts he
 refine G O<|zV O O (qJ O O) ?_
 rintro _ _ ⟨b1,rfl,rfl⟩
 refine A O<|Y<|zJ<|zJ<|qU 13 mixed uC O O<|zN O O (zG O wA O)<|zN O O (zF O zAo O (J 0 O) O)<|zN O O (yJ O el52 O)<|zN O O (zG O kO O)<|zN O O (zF O one3 O (J 0 O) O)<|zN O O (qG O ok242 (expr_operands _) ⟨R,O,T⟩)<|zN O O (kA O O O)<|zN O O (zO O O)<|qL [] O O O O B T (fun g1_7=>zG O wI O) O<|qL [(11,_)] O O O O B ⟨O,O,T⟩ (fun g1_7=>zF O wQ O (J 0 O) O) O<|qL [(12,_)] O O O O B ⟨O,O,T⟩ (fun g1_7=>yJ O v O) O<|qL [(13,_)] O O O O B ⟨O,O,T⟩ (fun g1_7=>yC O O O) O<|zN O O (zAn O O O O (fun h=>(lzf h)))<|yP<|Y<|zE O (fun c1=>?_) (fun c1=>?_)
 ·refine G O<|A O<|Y<|zH<|zS O ?_
  exact congrArg vB (by simp only [mS,c1,Bool.not_true,Bool.false_and])
 ·refine zK<|G O<|zD O wI<|zI wQ (J 0 O) O<|qD O ok238 (zBr e.Idx _ (fun x=> !tH x) hI (fun x _=>FnPur.of_pur (first:=[]) (cap:=[]) ok243 (expr_rank_1 x))) ⟨R,O,R,O,T⟩<|kN O<|A O<|Y<|zH<|zS O ?_
  exact congrArg vB (by rw [zKg];simp only [mS,c1,Bool.not_false,Bool.true_and])
theorem expr_types (e:Ex) (he:e.wt<=6000000000000):
    Pur cfg 212 [vE e] (vB (jP e)):=by
 refine zR Tryz.func212 O Tryz.ntmps212 Tryz.results212 O ?_
 intro z hz
 obtain ⟨hL,hI,hA⟩:=e.parts he
 refine G O<|zV O O (qJ O O) ?_
 rintro _ _ ⟨b1,rfl,rfl⟩
 refine A O<|Y<|zJ<|G O<|zD O kO<|zI one3 (J 0 O) O<|yE O<|A O<|rL0 O (fun g1_3=>zG O kO O) O<|rL1 9 O (fun g1_3=>zF O one3 O (J 0 O) O) O<|rL1 10 O (fun g1_3=>yM O O O) O<|r_or O (fun h=>(lzf h))<|A O<|rL0 O (fun g1_8=>zG O zEu O) O<|rL1 14 O (fun g1_8=>zU O yD O (J 0 O) O) O<|rL1 15 O (fun g1_8=>qG O ok102 (zDi _) ⟨R,O,T⟩) O<|rL1 16 O (fun g1_8=>kA O O O) O<|yR O (fun h=>h)<|Y<|zE O (fun c1=>?_) (fun c1=>?_)
 ·rw [tyErr_dec] at c1
  refine G O<|A O<|Y<|zH<|zS O ?_
  exact congrArg vB (by simp only [jP,c1,Bool.not_true,Bool.false_and])
 ·rw [tyErr_dec] at c1
  refine zK<|zJ<|G O<|zD O wA<|zI zAo (J 0 O) O<|qB O el52<|A O<|Y<|zQ<|zY ⟨[(22,.c _),(1,.c _),(20,.c _),(21,.c _)],[_]⟩ (Weak.mk [true] ⟨R,R,R,R,T⟩ O)<|qK 1 0 O O (Nat) (fun k=>[(22,vI k)]) (fun k=>[]) (fun k=>k<=e.Args.length/\(gA e.Op 0 e.Args=gA e.Op k (e.Args.drop k))) (fun k=>e.Args.length-k) ⟨0,⟨zA,O⟩,Weak.mk [true] ⟨R,R,R,R,T⟩ O⟩ ?_
  rintro k ⟨hk,hp⟩
  refine G O<|yG O<|Y<|zJ<|zE O (fun c2=>?_) (fun c2=>?_)
  ·try simp only [sx] at c2
   obtain ⟨a,ha⟩:=qY e.Args k zA
   refine zK<|zJ<|zQ<|G O<|A O<|qC O el52 zA (zCn uB)<|zM yX zZ O<|zV O O (qH [none,none,none,none,none,none,none,none,none,none,some 2,some 4,some 13] O zr54 O) ?_
   rintro _ _ ⟨b2,rfl,rfl⟩
   refine A O<|rStR 0 sz54 O<|Y<|zJ<|qU 7 mixed uC O O<|zN O O (zU O yX O (J 0 O) O)<|zN O O (qG O ok136 (wG a) ⟨R,O,T⟩)<|zN O O (zG O kO O)<|zN O O (zF O one3 O (J 1 O) O)<|zN O O (zO O O)<|zN O O (qG O ok244 (zJj _ _) ⟨R,O,R,O,T⟩)<|zN O O (zOx O un4 O O)<|yP<|Y<|zE O (fun c3=>?_) (fun c3=>?_)
   ·exact v22
   ·refine zK<|zT O<|qI O ⟨zA,zA⟩<|A O<|Y ?_
    refine ⟨k+1,⟨zA,(by rw [hp,qP ha,gA,show (bE a==fU e.Op k)=true by simpa using c3,Bool.true_and];rfl)⟩,zA,Weak.mk [false,true] ⟨R,R,R,R,T⟩ O⟩
  ·try simp only [sx] at c2
   refine qN<|G O<|A O<|Y<|zH<|zS O ?_
   exact congrArg vB (by simp only [jP,c1,Bool.not_false,Bool.true_and];rw [hp,kK zA];rfl)
theorem ref14_typed (e:Ex) (he:e.wt<=6000000000000):
    Pur cfg 186 [vE e] (vB (jP e)):=by
 refine zR Tryz.func186 O Tryz.ntmps186 Tryz.results186 O ?_
 intro z hz
 obtain ⟨hL,hI,hA⟩:=e.parts he
 refine G O<|zV O O (qJ O O) ?_
 rintro _ _ ⟨b1,rfl,rfl⟩
 refine A O<|Y<|zJ<|G O<|zD O kO<|zI one3 (J 0 O) O<|yE O<|A O<|rL0 O (fun g1_3=>zG O kO O) O<|rL1 8 O (fun g1_3=>zF O one3 O (J 0 O) O) O<|rL1 9 O (fun g1_3=>yM O O O) O<|r_or O (fun h=>(lzf h))<|A O<|rL0 O (fun g1_8=>zG O zEu O) O<|rL1 13 O (fun g1_8=>zU O yD O (J 0 O) O) O<|rL1 14 O (fun g1_8=>qG O ok77 (zDr _) ⟨R,O,T⟩) O<|rL1 15 O (fun g1_8=>kJ O O) O<|yR O (fun h=>h)<|Y<|zE O (fun c1=>?_) (fun c1=>?_)
 ·refine G O<|A O<|Y<|zH<|zS O ?_
  exact congrArg vB (by simp only [jP,c1,Bool.not_true,Bool.false_and])
 ·refine zK<|zJ<|G O<|A O<|Y<|zQ<|zY ⟨[(3,.c _),(1,.c _)],[_]⟩ (Weak.mk [true] ⟨R,R,T⟩ O)<|qK 1 0 O O (Nat) (fun k=>[(3,vI k)]) (fun k=>[]) (fun k=>k<=e.Args.length/\(gA e.Op 0 e.Args=gA e.Op k (e.Args.drop k))) (fun k=>e.Args.length-k) ⟨0,⟨zA,O⟩,Weak.mk [true] ⟨R,R,T⟩ O⟩ ?_
  rintro k ⟨hk,hp⟩
  refine zJ<|G O<|A O<|zD O wA<|zI zAo (J 0 O) O<|qB O el52<|yG O<|Y<|zE O (fun c2=>?_) (fun c2=>?_)
  ·try simp only [sx] at c2
   obtain ⟨a,ha⟩:=qY e.Args k zA
   refine zK<|zJ<|zQ<|zJ<|qU 11 mixed uC O O<|zN O O (zG O wA O)<|zN O O (zF O zAo O (J 0 O) O)<|zN O O (zO O O)<|zN O O (qE O el52 O O zA (zCn uB))<|zN O O (zU O yX O zZ O)<|zN O O (qG O ok114 (kW a) ⟨R,O,T⟩)<|zN O O (zG O kO O)<|zN O O (zF O one3 O (J 0 O) O)<|zN O O (zO O O)<|zN O O (qG O ok219 (ref14_wants _ _) ⟨R,O,R,O,T⟩)<|zN O O (zOx O un4 O O)<|yP<|Y<|zE O (fun c3=>?_) (fun c3=>?_)
   ·exact v22
   ·refine zK<|zT O<|A O<|qI O ⟨zA,zA⟩<|A O<|Y ?_
    refine ⟨k+1,⟨zA,(by rw [hp,qP ha,gA,show (bE a==fU e.Op k)=true by simpa using c3,Bool.true_and];rfl)⟩,zA,Weak.mk [true] ⟨R,R,T⟩ O⟩
  ·try simp only [sx] at c2
   refine qN<|G O<|A O<|Y<|zH<|zS O ?_
   exact congrArg vB (by simp only [jP,c1,Bool.not_false,Bool.true_and];rw [hp,kK zA];rfl)
theorem ref14_plain (e:Ex) (he:e.wt<=6000000000000):
    Pur cfg 183 [vE e] (vB (jS e)):=by
 refine zR Tryz.func183 O Tryz.ntmps183 Tryz.results183 O ?_
 intro z hz
 obtain ⟨hL,hI,hA⟩:=e.parts he
 refine G O<|zV O O (qJ O O) ?_
 rintro _ _ ⟨b1,rfl,rfl⟩
 refine A O<|Y<|zJ<|G O<|zD O kO<|zI one3 (J 0 O) O<|yG O<|A O<|rL0 O (fun g1_3=>zG O kO O) O<|rL1 9 O (fun g1_3=>zF O one3 O (J 0 O) O) O<|rL1 10 O (fun g1_3=>yC O O O) O<|r_or O (fun h=>(lzf h))<|Y<|zE O (fun c1=>?_) (fun c1=>?_)
 ·refine G O<|A O<|Y<|zH<|zS O ?_
  exact congrArg vB (by simp only [jS,c1,Bool.not_true,Bool.false_and])
 ·refine zK<|zJ<|G O<|zD O kO<|zI one3 (J 0 O) O<|yK O<|A O<|rL0 O (fun g3_3=>zG O zKq O) O<|rL1 17 O (fun g3_3=>zU O yO O (J 0 O) O) O<|rL0 O (fun g3_3=>zCr O W pl46 O) O<|rLz [(18,_),(19,_)] O B ⟨O,O,O,O,T⟩ (fun g3_3=>wY O fl46 O O O) O<|yR O (fun h=>h)<|A O<|rL0 O (fun g3_9=>zG O kO O) O<|rL1 23 O (fun g3_9=>zF O one3 O (J 0 O) O) O<|rL1 24 O (fun g3_9=>kA O O O) O<|rL1 25 O (fun g3_9=>zO O O) O<|rLz [] O gv2 T (fun g3_13=>zG O kO O) O<|rLz [(27,_)] O gv2 ⟨O,O,T⟩ (fun g3_13=>zF O one3 O (J 0 O) O) O<|rLz [(28,_)] O gv2 ⟨O,O,T⟩ (fun g3_13=>kA O O O) O<|rL1 26 O (fun g3_9=>kZ O O O (fun h=>kC uB h) O) O<|rL1 30 O (fun g3_9=>zO O O) O<|rLz [] O gv2 T (fun g3_18=>zG O zEu O) O<|rLz [(32,_)] O gv2 ⟨O,O,T⟩ (fun g3_18=>zU O yD O (J 0 O) O) O<|rLz [] O gv2 T (fun g3_18=>zCr O zr48 pl48 O) O<|rLz [(33,_),(34,_)] O gv2 ⟨O,O,O,O,T⟩ (fun g3_18=>wY O fl48 O O O) O<|rL1 31 O (fun g3_9=>kZ O O O (fun h=>kC uB h) O) O<|r_or O (fun h=>(lzf h))<|Y<|zE O (fun c2=>?_) (fun c2=>?_)
  ·have h2:=plain2 (e:=e) c2
   refine G O<|A O<|Y<|zH<|zS O ?_
   exact congrArg vB (syn2 h2)
  ·have h2:=plain2 (e:=e) c2
   refine zK<|zJ<|G O<|zD O kO<|zI one3 (J 0 O) O<|yK O<|A O<|rL0 O (fun g5_3=>zG O zDv O) O<|rL1 42 O (fun g5_3=>zG O zEv O) O<|rL1 43 O (fun g5_3=>zF O U O (J 0 O) O) O<|rL1 44 O (fun g5_3=>kA O O O) O<|rL1 45 O (fun g5_3=>zO O O) O<|rLz [] O gv2 T (fun g5_8=>zG O zDv O) O<|rLz [(47,_)] O gv2 ⟨O,O,T⟩ (fun g5_8=>zG O wK O) O<|rLz [(48,_)] O gv2 ⟨O,O,T⟩ (fun g5_8=>zF O zBl O (J 0 O) O) O<|rLz [(49,_)] O gv2 ⟨O,O,T⟩ (fun g5_8=>yJ O N O) O<|rLz [(50,_)] O gv2 ⟨O,O,T⟩ (fun g5_8=>yC O O O) O<|rL1 46 O (fun g5_3=>zAn O O O O (fun h=>kC uB (lzf h))) O<|yR O (fun h=>h)<|A O<|rL0 O (fun g5_16=>zG O kO O) O<|rL1 55 O (fun g5_16=>zF O one3 O (J 0 O) O) O<|rL1 56 O (fun g5_16=>kA O O O) O<|rL1 57 O (fun g5_16=>zO O O) O<|rLz [] O gv2 T (fun g5_20=>zG O zGd O) O<|rLz [(59,_)] O gv2 ⟨O,O,T⟩ (fun g5_20=>zF O one9 O (J 0 O) O) O<|rLz [(60,_)] O gv2 ⟨O,O,T⟩ (fun g5_20=>zBj O O O) O<|rLz [(61,_)] O gv2 ⟨O,O,T⟩ (fun g5_20=>zO O O) O<|rLz [] O gv2 T (fun g5_24=>zG O wI O) O<|rLz [(63,_)] O gv2 ⟨O,O,T⟩ (fun g5_24=>zF O wQ O (J 0 O) O) O<|rLz [(64,_)] O gv2 ⟨O,O,T⟩ (fun g5_24=>yJ O v O) O<|rLz [(65,_)] O gv2 ⟨O,O,T⟩ (fun g5_24=>yC O O O) O<|rLz [(62,_)] O gv2 ⟨O,O,T⟩ (fun g5_20=>zAn O O O O (fun h=>kC uB (lzf h))) O<|rL1 58 O (fun g5_16=>kZ O O O (fun h=>kC uB h) O) O<|r_or O (fun h=>(lzf h))<|Y<|zE O (fun c3=>?_) (fun c3=>?_)
   ·have h3:=plain3 (e:=e) c3
    refine G O<|A O<|Y<|zH<|zS O ?_
    exact congrArg vB (syn3 h3)
   ·have h3:=plain3 (e:=e) c3
    refine zK<|zJ<|G O<|A O<|Y<|zQ<|zY ⟨[(3,.c _),(1,.c _)],[_]⟩ (Weak.mk [true] ⟨R,R,T⟩ O)<|qK 1 0 O O (Nat) (fun k=>[(3,vI k)]) (fun k=>[]) (fun k=>k<=e.Idx.length/\(e.Idx.all lU=(e.Idx.drop k).all lU)) (fun k=>e.Idx.length-k) ⟨0,⟨zA,O⟩,Weak.mk [true] ⟨R,R,T⟩ O⟩ ?_
    rintro k ⟨hk,hp⟩
    refine zJ<|G O<|A O<|zD O wI<|zI wQ (J 0 O) O<|qB O v<|yG O<|Y<|zE O (fun c4=>?_) (fun c4=>?_)
    ·try simp only [sx] at c4
     obtain ⟨x,hx⟩:=qY e.Idx k zA
     refine zK<|zJ<|zQ<|G O<|zD O wI<|zI wQ (J 0 O) O<|A O<|qC O v zA (getm uB)<|zM zPo zZ O<|zV O O (qH [none,some 2,none,some 2] O zr92 O) ?_
     rintro _ _ ⟨b2,rfl,rfl⟩
     refine rStR 0 sz92 O<|Y<|G O<|zD O zEs<|zI one9 (J 0 O) O<|wL O<|A O<|rL0 O (fun g11_3=>zG O zAu O) O<|rL1 86 O (fun g11_3=>zF O zEo O (J 0 O) O) O<|rL1 87 O (fun g11_3=>yJ O el90 O) O<|rL1 88 O (fun g11_3=>yC O O O) O<|yR O (fun h=>h)<|A O<|rL0 O (fun g11_9=>zG O zEs O) O<|rL1 92 O (fun g11_9=>zF O one9 O (J 0 O) O) O<|rL1 93 O (fun g11_9=>zBj O O O) O<|rL1 94 O (fun g11_9=>zO O O) O<|rLz [] O gv2 T (fun g11_13=>zG O zFh O) O<|rLz [(96,_)] O gv2 ⟨O,O,T⟩ (fun g11_13=>zG O zEv O) O<|rLz [(97,_)] O gv2 ⟨O,O,T⟩ (fun g11_13=>zF O U O (J 0 O) O) O<|rLz [(98,_)] O gv2 ⟨O,O,T⟩ (fun g11_13=>kA O O O) O<|rLz [(99,_)] O gv2 ⟨O,O,T⟩ (fun g11_13=>zO O O) O<|rLz [] O gv2 T (fun g11_18=>zG O zFh O) O<|rLz [(101,_)] O gv2 ⟨O,O,T⟩ (fun g11_18=>zG O wK O) O<|rLz [(102,_)] O gv2 ⟨O,O,T⟩ (fun g11_18=>zF O zBl O (J 0 O) O) O<|rLz [(103,_)] O gv2 ⟨O,O,T⟩ (fun g11_18=>yJ O N O) O<|rLz [(104,_)] O gv2 ⟨O,O,T⟩ (fun g11_18=>yC O O O) O<|rLz [(100,_)] O gv2 ⟨O,O,T⟩ (fun g11_13=>zAn O O O O (fun h=>kC uB (lzf h))) O<|rL1 95 O (fun g11_9=>kZ O O O (fun h=>kC uB h) O) O<|r_or O (fun h=>(lzf h))<|Y<|zE O (fun c5=>?_) (fun c5=>?_)
     ·have h5:=well_dec (x:=x) c5
      refine G O<|A O<|Y<|zH<|zS O ?_
      exact congrArg vB (by rw [jS,zLc hx (p:=lU) (by simpa using h5)];simp)
     ·have h5:=well_dec (x:=x) c5
      refine zK<|zT O<|A O<|qI O ⟨zA,zA⟩<|A O<|Y ?_
      refine ⟨k+1,⟨zA,zTt hx hp (by simpa using h5)⟩,zA,Weak.mk [false,true] ⟨R,R,T⟩ O⟩
    ·try simp only [sx] at c4
     refine qN<|G O<|A O<|Y<|zH<|zS O ?_
     exact congrArg vB (syn5 c1 h2 h3 (all_end hp zA))
theorem ref14_named (e:Ex) (he:e.wt<=6000000000000):
    Pur cfg 184 [vE e] (vB (nA e)):=by
 refine zR Tryz.func184 O Tryz.ntmps184 Tryz.results184 O ?_
 intro z hz
 obtain ⟨hL,hI,hA⟩:=e.parts he
 refine G O<|zV O O (qJ O O) ?_
 rintro _ _ ⟨b1,rfl,rfl⟩
 refine A O<|Y<|zJ<|G O<|zD O kO<|zI one3 (J 0 O) O<|yE O<|A O<|rL0 O (fun g1_3=>zG O zGd O) O<|rL1 8 O (fun g1_3=>zF O one9 O (J 0 O) O) O<|rL1 9 O (fun g1_3=>qG O ok76 (zHr _) ⟨R,O,T⟩) O<|rL1 10 O (fun g1_3=>kJ O O) O<|yR O (fun h=>h)<|Y<|zE O (fun c1=>?_) (fun c1=>?_)
 ·refine G O<|A O<|Y<|zH<|zS O ?_
  exact congrArg vB (by simp only [nA,c1,Bool.not_true,Bool.false_and])
 ·refine zK<|zJ<|G O<|A O<|Y<|zQ<|zY ⟨[(3,.c _),(1,.c _)],[_]⟩ (Weak.mk [true] ⟨R,R,T⟩ O)<|qK 1 0 O O (Nat) (fun k=>[(3,vI k)]) (fun k=>[]) (fun k=>k<=e.Idx.length/\(e.Idx.all tW=(e.Idx.drop k).all tW)) (fun k=>e.Idx.length-k) ⟨0,⟨zA,O⟩,Weak.mk [true] ⟨R,R,T⟩ O⟩ ?_
  rintro k ⟨hk,hp⟩
  refine zJ<|G O<|A O<|zD O wI<|zI wQ (J 0 O) O<|qB O v<|yG O<|Y<|zE O (fun c2=>?_) (fun c2=>?_)
  ·try simp only [sx] at c2
   obtain ⟨x,hx⟩:=qY e.Idx k zA
   refine zK<|zJ<|zQ<|G O<|zD O wI<|zI wQ (J 0 O) O<|A O<|qC O v zA (getm uB)<|qQ O zEs<|zI one9 zZ O<|zW O (zBj O O O)<|A O<|rL0 O (fun g6_7=>zG O wI O) O<|rL1 28 O (fun g6_7=>zF O wQ O (J 0 O) O) O<|rL0 O (fun g6_7=>zO O O) O<|rLz [(29,_),(30,_)] O B ⟨O,O,O,O,T⟩ (fun g6_7=>qE O v O O zA (getm uB)) O<|rL1 31 O (fun g6_7=>qM O zEs O) O<|rL1 32 O (fun g6_7=>zF O one9 O zZ O) O<|rL1 33 O (fun g6_7=>qG O ok76 (zHr _) ⟨R,O,T⟩) O<|rL1 34 O (fun g6_7=>kJ O O) O<|yR O (fun h=>h)<|Y<|zE O (fun c3=>?_) (fun c3=>?_)
   ·refine G O<|A O<|Y<|zH<|zS O ?_
    exact congrArg vB (by rw [nA,zLc hx (p:=tW) (by unfold tW;rw [c3];rfl)];simp)
   ·refine zK<|zT O<|A O<|qI O ⟨zA,zA⟩<|A O<|Y ?_
    refine ⟨k+1,⟨zA,zTt hx hp (by unfold tW;rw [c3];rfl)⟩,zA,Weak.mk [true] ⟨R,R,T⟩ O⟩
  ·try simp only [sx] at c2
   refine qN<|G O<|A O<|Y<|zH<|zS O ?_
   exact congrArg vB (by rw [nA,c1,all_end hp zA];rfl)
theorem ref14_ranked (e:Ex) (he:e.wt<=6000000000000):
    Pur cfg 185 [vE e] (vB (mS e)):=by
 refine zR Tryz.func185 O Tryz.ntmps185 Tryz.results185 O ?_
 intro z hz
 obtain ⟨hL,hI,hA⟩:=e.parts he
 refine G O<|zV O O (qJ O O) ?_
 rintro _ _ ⟨b1,rfl,rfl⟩
 refine A O<|Y<|zJ<|zJ<|qU 13 mixed uC O O<|zN O O (zG O wA O)<|zN O O (zF O zAo O (J 0 O) O)<|zN O O (yJ O el52 O)<|zN O O (zG O kO O)<|zN O O (zF O one3 O (J 0 O) O)<|zN O O (qG O ok218 (zQz _) ⟨R,O,T⟩)<|zN O O (kA O O O)<|zN O O (zO O O)<|qL [] O O O O B T (fun g1_7=>zG O wI O) O<|qL [(12,_)] O O O O B ⟨O,O,T⟩ (fun g1_7=>zF O wQ O (J 0 O) O) O<|qL [(13,_)] O O O O B ⟨O,O,T⟩ (fun g1_7=>yJ O v O) O<|qL [(14,_)] O O O O B ⟨O,O,T⟩ (fun g1_7=>yC O O O) O<|zN O O (zAn O O O O (fun h=>(lzf h)))<|yP<|Y<|zE O (fun c1=>?_) (fun c1=>?_)
 ·refine G O<|A O<|Y<|zH<|zS O ?_
  exact congrArg vB (by simp only [mS,c1,Bool.not_true,Bool.false_and])
 ·refine zK<|zJ<|G O<|A O<|Y<|zQ<|zY ⟨[(3,.c _),(1,.c _)],[_]⟩ (Weak.mk [true] ⟨R,R,T⟩ O)<|qK 1 0 O O (Nat) (fun k=>[(3,vI k)]) (fun k=>[]) (fun k=>k<=e.Idx.length/\(e.Idx.all tH=(e.Idx.drop k).all tH)) (fun k=>e.Idx.length-k) ⟨0,⟨zA,O⟩,Weak.mk [true] ⟨R,R,T⟩ O⟩ ?_
  rintro k ⟨hk,hp⟩
  refine zJ<|G O<|A O<|zD O wI<|zI wQ (J 0 O) O<|qB O v<|yG O<|Y<|zE O (fun c2=>?_) (fun c2=>?_)
  ·try simp only [sx] at c2
   obtain ⟨x,hx⟩:=qY e.Idx k zA
   refine zK<|zJ<|zQ<|G O<|zD O wI<|zI wQ (J 0 O) O<|A O<|qC O v zA (getm uB)<|qQ O zAu<|zI zEo zZ O<|qB O el90<|zW O (yC O O O)<|Y<|zE O (fun c3=>?_) (fun c3=>?_)
   ·refine G O<|A O<|Y<|zH<|zS O ?_
    exact congrArg vB (by rw [mS,zLc hx (p:=tH) (by unfold tH;rw [c3];rfl)];simp)
   ·refine zK<|zT O<|A O<|qI O ⟨zA,zA⟩<|A O<|Y ?_
    refine ⟨k+1,⟨zA,zTt hx hp (by unfold tH;rw [c3];rfl)⟩,zA,Weak.mk [true] ⟨R,R,T⟩ O⟩
  ·try simp only [sx] at c2
   refine qN<|G O<|A O<|Y<|zH<|zS O ?_
   exact congrArg vB (by rw [mS,c1,all_end hp zA];rfl)
theorem ref14_formed (e:Ex) (he:e.wt<=6000000000000) (hty:e.Op=1->bV e.Ty=true):
    Pur cfg 187 [vE e] (vB (lR e)):=by
 refine zR Tryz.func187 O Tryz.ntmps187 Tryz.results187 O ?_
 intro z hz
 obtain ⟨hL,hI,hA⟩:=e.parts he
 refine G O<|zV O O (qJ O O) ?_
 rintro _ _ ⟨b1,rfl,rfl⟩
 refine A O<|Y<|zJ<|G O<|zD O kO<|zI one3 (J 0 O) O<|yE O<|A O<|rL0 O (fun g1_3=>zG O zEu O) O<|rL1 9 O (fun g1_3=>zU O yD O (J 0 O) O) O<|rL0 O (fun g1_3=>zG O zKq O) O<|rL1 11 O (fun g1_3=>zU O yO O (J 0 O) O) O<|rLz [(10,_),(12,_)] O B ⟨O,O,O,O,T⟩ (fun g1_3=>qG O ok126 (zGr e.Ty e.Val (hty (by simp only [Lz,cond_true,cond_false,Bool.and_eq_true,Bool.or_eq_true,Bool.not_eq_true',Bool.not_eq_false',Bool.or_eq_false_iff,Bool.and_eq_false_iff,decide_eq_true_eq,decide_eq_false_iff_not,Bool.not_eq_true,Bool.not_eq_false] at g1_3;exact g1_3))) ⟨R,O,R,O,T⟩) O<|rL1 13 O (fun g1_3=>kJ O O) O<|yR O (fun h=>h)<|A O<|rL0 O (fun g1_11=>zG O zDv O) O<|rL1 17 O (fun g1_11=>zU O kP O (J 0 O) O) O<|rL1 18 O (fun g1_11=>qG O ok220 (zFk e.Lin hL) ⟨R,O,T⟩) O<|rL1 19 O (fun g1_11=>kJ O O) O<|r_or O (fun h=>(lzf h))<|Y<|zE O (fun c1=>?_) (fun c1=>?_)
 ·refine G O<|A O<|Y<|zH<|zS O ?_
  exact congrArg vB (form_no c1)
 ·refine zK<|zJ<|G O<|A O<|Y<|zQ<|zY ⟨[(3,.c _),(1,.c _)],[_]⟩ (Weak.mk [true] ⟨R,R,T⟩ O)<|qK 1 0 O O (Nat) (fun k=>[(3,vI k)]) (fun k=>[]) (fun k=>k<=e.Idx.length/\((dP e).all dC=((e.Idx.drop k).flatMap fun x=>x.Lin::x.At).all dC)) (fun k=>e.Idx.length-k) ⟨0,⟨zA,form_start c1⟩,Weak.mk [true] ⟨R,R,T⟩ O⟩ ?_
  rintro k ⟨hk,hp⟩
  refine zJ<|G O<|A O<|zD O wI<|zI wQ (J 0 O) O<|qB O v<|yG O<|Y<|zE O (fun c2=>?_) (fun c2=>?_)
  ·try simp only [sx] at c2
   obtain ⟨x,hx⟩:=qY e.Idx k zA
   have hxw:=Ex.idx_wt (qA hx)
   refine zK<|zJ<|zQ<|zJ<|G O<|zD O wI<|zI wQ (J 0 O) O<|A O<|qC O v zA (getm uB)<|qQ O zFh<|zM kP zZ O<|qD O ok220 (zFk x.Lin zA) ⟨R,O,T⟩<|kN O<|Y<|zE O (fun c3=>?_) (fun c3=>?_)
   ·try simp only [sx] at c3
    refine G O<|A O<|Y<|zH<|zS O ?_
    exact congrArg vB (form_no2 hp (by rw [qP hx,List.flatMap_cons,List.all_append,List.all_cons,c3];rfl))
   ·try simp only [sx] at c3
    refine zK<|G O<|A O<|Y<|zQ<|zY ⟨[(4,.c _),(1,.c _),(3,.c _)],[_]⟩ (Weak.mk [true] ⟨R,R,R,T⟩ O)<|qK 1 0 O O (Nat) (fun j=>[(4,vI j)]) (fun j=>[]) (fun j=>j<=x.At.length/\(x.At.all dC=(x.At.drop j).all dC)) (fun j=>x.At.length-j) ⟨0,⟨zA,O⟩,Weak.mk [true] ⟨R,R,R,T⟩ O⟩ ?_
    rintro j ⟨hj,hq⟩
    refine zJ<|G O<|A O<|zD O wI<|zI wQ (J 0 O) O<|A O<|qC O v zA (getm uB)<|qQ O zAu<|zI zEo zZ O<|qB O el90<|yG O<|Y<|zE O (fun c4=>?_) (fun c4=>?_)
    ·try simp only [sx] at c4
     obtain ⟨l,hl⟩:=qY x.At j zA
     have hlw:=zDz (qA hl)
     refine zK<|zJ<|zQ<|G O<|zD O wI<|zI wQ (J 0 O) O<|A O<|qC O v zA (getm uB)<|qQ O zAu<|zI zEo zZ O<|A O<|qC O el90 zA (getm uB)<|zM kP zZ O<|qD O ok220 (zFk l zA) ⟨R,O,T⟩<|kN O<|Y<|zE O (fun c5=>?_) (fun c5=>?_)
     ·try simp only [sx] at c5
      refine G O<|A O<|Y<|zH<|zS O ?_
      exact congrArg vB (form_no2 hp (by rw [qP hx,List.flatMap_cons,List.all_append,List.all_cons,zLc hl (p:=dC) c5];simp))
     ·try simp only [sx] at c5
      refine zK<|zT O<|A O<|qI O ⟨zA,zA⟩<|A O<|Y ?_
      refine ⟨j+1,⟨zA,zTt hl hq c5⟩,zA,Weak.mk [true] ⟨R,R,R,T⟩ O⟩
    ·try simp only [sx] at c4
     refine qN<|zT O<|A O<|qI O ⟨zA,zA⟩<|A O<|Y ?_
     refine ⟨k+1,⟨zA,(by rw [hp,qP hx,List.flatMap_cons,List.all_append,List.all_cons,c3,all_end hq zA];rfl)⟩,zA,Weak.mk [true] ⟨R,R,T⟩ O⟩
  ·try simp only [sx] at c2
   refine qN<|G O<|A O<|Y<|zH<|zS O ?_
   exact congrArg vB (form_yes c1 (by rw [hp,kK zA];rfl))
theorem zVd (e:Ex) (ih:∀a,a∈e.Args->a.wt<=6000000000000->Pur cfg 161 [vE a] (vI (dJ a))) (he:e.wt<=6000000000000):
    Pur cfg 161 [vE e] (vI (dJ e)):=by
 refine zR Tryz.func161 O Tryz.ntmps161 Tryz.results161 O ?_
 intro z hz
 obtain ⟨hL,hI,hA⟩:=e.parts he
 refine G O<|zV O O (qJ O O) ?_
 rintro _ _ ⟨b1,rfl,rfl⟩
 refine A O<|Y<|zJ<|zQ<|G O<|zM yX (J 0 O) O<|qD O ok183 (ref14_plain e he) ⟨R,O,T⟩<|kN O<|A O<|Y<|zE O (fun c1=>?_) (fun c1=>?_)
 ·try simp only [sx] at c1
  refine G O<|A O<|Y<|zH<|zS O ?_
  exact congrArg vI (by rw [zGl,show bZ e=5 by simp only [bZ,c1];rfl];rfl)
 ·try simp only [sx] at c1
  refine G O<|zM yX (J 0 O) O<|qD O ok184 (ref14_named e he) ⟨R,O,T⟩<|kN O<|A O<|Y<|zE O (fun c2=>?_) (fun c2=>?_)
  ·try simp only [sx] at c2
   refine G O<|A O<|Y<|zH<|zS O ?_
   exact congrArg vI (by rw [zGl,show bZ e=7 by simp only [bZ,c1,c2];rfl];rfl)
  ·try simp only [sx] at c2
   refine G O<|zM yX (J 0 O) O<|qD O ok185 (ref14_ranked e he) ⟨R,O,T⟩<|kN O<|A O<|Y<|zE O (fun c3=>?_) (fun c3=>?_)
   ·try simp only [sx] at c3
    refine G O<|A O<|Y<|zH<|zS O ?_
    exact congrArg vI (by rw [zGl,show bZ e=11 by simp only [bZ,c1,c2,c3];rfl];rfl)
   ·try simp only [sx] at c3
    refine G O<|zM yX (J 0 O) O<|qD O ok186 (ref14_typed e he) ⟨R,O,T⟩<|kN O<|A O<|Y<|zE O (fun c4=>?_) (fun c4=>?_)
    ·try simp only [sx] at c4
     refine G O<|A O<|Y<|zH<|zS O ?_
     exact congrArg vI (by rw [zGl,show bZ e=10 by simp only [bZ,c1,c2,c3,c4];rfl];rfl)
    ·try simp only [sx] at c4
     refine G O<|zM yX (J 0 O) O<|qD O ok187 (ref14_formed e he (types_ty c4)) ⟨R,O,T⟩<|kN O<|A O<|Y<|zE O (fun c5=>?_) (fun c5=>?_)
     ·try simp only [sx] at c5
      refine G O<|A O<|Y<|zH<|zS O ?_
      exact congrArg vI (by rw [zGl,show bZ e=1 by simp only [bZ,c1,c2,c3,c4,c5];rfl];rfl)
     ·try simp only [sx] at c5
      have hn:bZ e=0:=by simp only [bZ,c1,c2,c3,c4,c5];rfl
      refine zK<|zJ<|G O<|A O<|Y<|zQ<|zY ⟨[(3,.c _),(1,.c _)],[_]⟩ (Weak.mk [true] ⟨R,R,T⟩ O)<|qK 1 0 O O (Nat) (fun k=>[(3,vI k)]) (fun k=>[]) (fun k=>k<=e.Args.length/\(sX e.Args=sX (e.Args.drop k))) (fun k=>e.Args.length-k) ⟨0,⟨zA,O⟩,Weak.mk [true] ⟨R,R,T⟩ O⟩ ?_
      rintro k ⟨hk,hp⟩
      refine zJ<|G O<|A O<|zD O wA<|zI zAo (J 0 O) O<|qB O el52<|yG O<|Y<|zE O (fun c6=>?_) (fun c6=>?_)
      ·try simp only [sx] at c6
       obtain ⟨a,ha⟩:=qY e.Args k zA
       refine zK<|zJ<|zQ<|G O<|zD O wA<|zI zAo (J 0 O) O<|A O<|qC O el52 zA (zCn uB)<|zM yX zZ O<|qD O ok161 (ih a (qA ha) (by have:=Ex.arg_wt (qA ha);omega)) ⟨R,O,T⟩<|A O<|Y<|G O<|A O<|yK O<|Y<|zE O (fun c7=>?_) (fun c7=>?_)
       ·try simp only [sx] at c7
        refine G O<|A O<|A O<|Y<|zH<|zS O ?_
        exact congrArg vI (by rw [zGl e,hn,wR rfl,cond_true,hp,qP ha,zQe,qW c7];rfl)
       ·try simp only [sx] at c7
        refine zK<|zT O<|A O<|qI O ⟨zA,zA⟩<|A O<|Y ?_
        refine ⟨k+1,⟨zA,(by rw [hp,qP ha,zQe,wR c7];rfl)⟩,zA,Weak.mk [true] ⟨R,R,T⟩ O⟩
      ·try simp only [sx] at c6
       refine qN<|G O<|A O<|Y<|zH<|zS O ?_
       exact congrArg vI (by rw [zGl,hn,wR rfl,cond_true,hp,kK zA];rfl)
theorem ref14_part (e:Ex) (he:e.wt<=6000000000000):Pur cfg 161 [vE e] (vI (dJ e)):=by
  induction e using Ex.ind with
  |_ e ih=>exact zVd e ih he
theorem zKv (n:Nat) (ih:n≠0->∀(a:Ex) (l:Int),a.wt<=6000000000000->l=n->Pur cfg 208 [vE a,vI l] (vI (lS (n-1) a))) (hn:n<=100) (e:Ex) (l:Int) (he:e.wt<=6000000000000) (hl:l=n+1):
    Pur cfg 208 [vE e,vI l] (vI (lS n e)):=by
 refine zR Tryz.func208 O Tryz.ntmps208 Tryz.results208 O ?_
 intro z hz
 obtain ⟨hL,hI,hA⟩:=e.parts he
 refine G O<|zV O O (qJ O O) ?_
 rintro _ _ ⟨b1,rfl,rfl⟩
 refine A O<|Y<|zJ<|G O<|A O<|zW O (wP O O O)<|Y<|zE O (fun c1=>?_) (fun c1=>?_)
 ·try simp only [sx] at c1
  obtain rfl:n=0:=by omega
  refine G O<|A O<|A O<|Y<|zH<|zS O ?_
  exact congrArg vI (by rw [hl];rfl)
 ·try simp only [sx] at c1
  obtain ⟨m,rfl⟩:∃m,n=m+1:=⟨n-1,zA⟩
  refine zK<|G O<|A O<|Y<|zJ<|G O<|zD O wA<|zI zAo (J 0 O) O<|qB O el52<|A O<|Y<|zQ<|zY ⟨[(14,.c _),(5,.c _),(1,.c _),(12,.c _),(13,.c _)],[]⟩ (Weak.mk [false] ⟨R,R,R,R,R,T⟩ O)<|qK 2 0 O O (Nat×Int) (fun ⟨k,d⟩=>[(14,vI k),(5,vI d)]) (fun ⟨k,d⟩=>[]) (fun ⟨k,d⟩=>k<=e.Args.length/\(1<=d)/\(d<=m+2)/\(lS (m+1) e=tM (lS m) d (e.Args.drop k))) (fun ⟨k,d⟩=>e.Args.length-k) ⟨⟨0,1⟩,⟨zA,zA,zA,O⟩,Weak.mk [] ⟨R,VLe.of_eq (O),R,R,R,T⟩ O⟩ ?_
  rintro ⟨k,d⟩ ⟨hk,hd1,hd2,hd3⟩
  show AWP _ _ _ _ _ ⟨[(14,vI k),(5,vI d)]++_,[]++_⟩
  refine G O<|yG O<|Y<|zJ<|zE O (fun c2=>?_) (fun c2=>?_)
  ·try simp only [sx] at c2
   obtain ⟨a,ha⟩:=qY e.Args k zA
   have hda:=depT_le m a
   refine zK<|zJ<|zQ<|G O<|qC O el52 zA (zCn uB)<|zM yX zZ O<|zV O O (qH [none,none,none,none,none,none,none,none,none,none,some 2,some 4,some 13] O zr54 O) ?_
   rintro _ _ ⟨b2,rfl,rfl⟩
   refine rStR 0 sz54 O<|Y<|zT O<|A O<|zM yX (J 0 O) O<|A O<|zW O (yA O O O ⟨zA,zA⟩)<|qD O ok208 (show Pur cfg 208 [vE a,vI (l-1)] (vI (lS m a)) from ih zA a _ (by have:=Ex.arg_wt (qA ha);omega) zA) ⟨R,O,R,O,T⟩<|qI O ⟨zA,zA⟩<|zW O (zIt O O O)<|A O<|Y<|zT O<|qI O ⟨zA,zA⟩<|A O<|Y ?_
   refine ⟨⟨k+1,max d (1+lS m a)⟩,⟨zA,zA,zA,by rw [hd3,qP ha,tM]⟩,(by show e.Args.length-(k+1)<e.Args.length-k;omega),Weak.mk [false] ⟨R,R,R,R,R,T⟩ O⟩
  ·try simp only [sx] at c2
   refine qN<|G O<|A O<|A O<|Y<|zH<|zS O ?_
   exact congrArg vI (by rw [hd3,kK zA];rfl)
theorem expr_depth (n:Nat) (e:Ex) (l:Int) (hn:n<=100) (he:e.wt<=6000000000000) (hl:l=n+1):Pur cfg 208 [vE e,vI l] (vI (lS n e)):=by
  induction n generalizing e l with
  |zero=>exact zKv 0 (fun h=>absurd rfl h) hn e l he hl
  |succ n ih=>exact zKv (n+1) (fun _ a l h1 h2=>ih a l zA h1 zA) hn e l he hl
theorem zJb (n:Nat) (ih:n≠0->∀(a:Ex) (l:Int),a.wt<=6000000000000->l=n->Pur cfg 181 [vE a,vI l] (vI (lS (n-1) a))) (hn:n<=100) (e:Ex) (l:Int) (he:e.wt<=6000000000000) (hl:l=n+1):
    Pur cfg 181 [vE e,vI l] (vI (lS n e)):=by
 refine zR Tryz.func181 O Tryz.ntmps181 Tryz.results181 O ?_
 intro z hz
 obtain ⟨hL,hI,hA⟩:=e.parts he
 refine G O<|zV O O (qJ O O) ?_
 rintro _ _ ⟨b1,rfl,rfl⟩
 refine A O<|Y<|G O<|A O<|Y<|zJ<|G O<|A O<|Y<|zQ<|zY ⟨[(6,.c _),(5,.c _),(1,.c _),(2,.c _)],[_]⟩ (Weak.mk [true] ⟨R,R,R,R,T⟩ O)<|qK 2 0 O O (Nat×Int) (fun ⟨k,d⟩=>[(6,vI k),(5,vI d)]) (fun ⟨k,d⟩=>[]) (fun ⟨k,d⟩=>k<=e.Args.length/\(1<=d)/\(d<=n+1)/\(n≠0->lS n e=tM (lS (n-1)) d (e.Args.drop k))/\(n=0->d=1)) (fun ⟨k,d⟩=>e.Args.length-k) ⟨⟨0,1⟩,⟨zA,zA,zA,fun h0=>dep_start h0,fun _=>O⟩,Weak.mk [true] ⟨R,VLe.of_eq (O),R,R,T⟩ O⟩ ?_
 rintro ⟨k,d⟩ ⟨hk,hd1,hd2,hd3,hd4⟩
 show AWP _ _ _ _ _ ⟨[(6,vI k),(5,vI d)]++_,[]++_⟩
 refine zJ<|G O<|A O<|zD O wA<|zI zAo (J 0 O) O<|qB O el52<|yG O<|A O<|rL0 O (fun g3_5=>zO O O) O<|rL1 13 O (fun g3_5=>yC O O O) O<|yR O (fun h=>h)<|Y<|zE O (fun c1=>?_) (fun c1=>?_)
 ·try simp only [sx] at c1
  obtain ⟨a,ha⟩:=qY e.Args k zA
  have hda:=depT_le (n-1) a
  refine zK<|zJ<|zQ<|zT O<|A O<|zD O wA<|zI zAo (J 0 O) O<|A O<|qC O el52 zA (zCn uB)<|zM yX zZ O<|A O<|zW O (yA O O O ⟨zA,zA⟩)<|qD O ok181 (ih zA a _ (by have:=Ex.arg_wt (qA ha);omega) zA) ⟨R,O,R,O,T⟩<|qI O ⟨zA,zA⟩<|zW O (zIt O O O)<|A O<|Y<|zT O<|A O<|qI O ⟨zA,zA⟩<|A O<|Y ?_
  refine ⟨⟨k+1,max d (1+lS (n-1) a)⟩,⟨zA,zA,zA,fun h0=>by rw [hd3 h0,qP ha,tM],fun h0=>by omega⟩,(by show e.Args.length-(k+1)<e.Args.length-k;omega),Weak.mk [true] ⟨R,R,R,R,T⟩ O⟩
 ·try simp only [sx] at c1
  refine qN<|G O<|A O<|A O<|Y<|zH<|zS O ?_
  exact congrArg vI (dep_end hl zA hd3 hd4)
theorem ref14_depth (n:Nat) (e:Ex) (l:Int) (hn:n<=100) (he:e.wt<=6000000000000) (hl:l=n+1):Pur cfg 181 [vE e,vI l] (vI (lS n e)):=by
  induction n generalizing e l with
  |zero=>exact zJb 0 (fun h=>absurd rfl h) hn e l he hl
  |succ n ih=>exact zJb (n+1) (fun _ a l h1 h2=>ih a l zA h1 zA) hn e l he hl
theorem expr_Depth (e:Ex) (he:e.wt<=6000000000000):
    Pur cfg 175 [vE e] (vI (lS 40 e)):=by
 refine zR Tryz.func175 O Tryz.ntmps175 Tryz.results175 O ?_
 intro z hz
 refine G O<|zV O O (qJ O O) ?_
 rintro _ _ ⟨b1,rfl,rfl⟩
 refine A O<|Y<|G O<|zM yX (J 0 O) O<|qD O ok208 (expr_depth 40 e 41 zA he zA) ⟨R,O,R,O,T⟩<|A O<|Y<|zH<|zS O ?_
 exact O
theorem ref14_Depth (e:Ex) (he:e.wt<=6000000000000):
    Pur cfg 159 [vE e] (vI (lS 40 e)):=by
 refine zR Tryz.func159 O Tryz.ntmps159 Tryz.results159 O ?_
 intro z hz
 refine G O<|zV O O (qJ O O) ?_
 rintro _ _ ⟨b1,rfl,rfl⟩
 refine A O<|Y<|G O<|zM yX (J 0 O) O<|qD O ok181 (ref14_depth 40 e 41 zA he zA) ⟨R,O,R,O,T⟩<|A O<|Y<|zH<|zS O ?_
 exact O
theorem zVc (e:Ex) (ih:∀a,a∈e.Args->∀(m:Nat) (l:Int),a.wt<=6000000000000->m<=1000000->l=m->Pur cfg 182 [vE a,vI l] (vI (tG a m))) (m:Nat) (l:Int) (he:e.wt<=6000000000000) (hm:m<=1000000) (hl:l=m):
    Pur cfg 182 [vE e,vI l] (vI (tG e m)):=by
 refine zR Tryz.func182 O Tryz.ntmps182 Tryz.results182 O ?_
 intro z hz
 obtain ⟨hL,hI,hA⟩:=e.parts he
 refine G O<|zV O O (qJ O O) ?_
 rintro _ _ ⟨b1,rfl,rfl⟩
 refine A O<|Y<|G O<|A O<|Y<|zJ<|G O<|A O<|Y<|zQ<|zY ⟨[(6,.c _),(5,.c _),(1,.c _),(2,.c _)],[_]⟩ (Weak.mk [true] ⟨R,R,R,R,T⟩ O)<|qK 2 0 O O (Nat×Nat) (fun ⟨k,n⟩=>[(6,vI k),(5,vI n)]) (fun ⟨k,n⟩=>[]) (fun ⟨k,n⟩=>k<=e.Args.length/\(n<=m+1)/\(tG e m=sU (e.Args.drop k) m n)) (fun ⟨k,n⟩=>e.Args.length-k) ⟨⟨0,1⟩,⟨zA,zA,sizE_eq e m⟩,Weak.mk [true] ⟨R,VLe.of_eq (O),R,R,T⟩ O⟩ ?_
 rintro ⟨k,n⟩ ⟨hk,hn1,hn2⟩
 show AWP _ _ _ _ _ ⟨[(6,vI k),(5,vI n)]++_,[]++_⟩
 refine zJ<|G O<|A O<|zD O wA<|zI zAo (J 0 O) O<|qB O el52<|yG O<|A O<|rL0 O (fun g3_5=>zO O O) O<|rL0 O (fun g3_5=>zO O O) O<|rLz [(13,_),(14,_)] O B ⟨O,O,O,O,T⟩ (fun g3_5=>wP O O O) O<|yR O (fun h=>h)<|Y<|zE O (fun c1=>?_) (fun c1=>?_)
 ·try simp only [sx] at c1
  obtain ⟨a,ha⟩:=qY e.Args k zA
  have hsa:=sizE_min a (m-n)
  refine zK<|zJ<|zQ<|zT O<|A O<|zD O wA<|zI zAo (J 0 O) O<|A O<|qC O el52 zA (zCn uB)<|zM yX zZ O<|A O<|A O<|zW O (yA O O O ⟨zA,zA⟩)<|qD O ok182 (ih a (qA ha) (m-n) _ (by have:=Ex.arg_wt (qA ha);omega) zA zA) ⟨R,O,R,O,T⟩<|qI O ⟨zA,zA⟩<|A O<|Y<|zT O<|A O<|qI O ⟨zA,zA⟩<|A O<|Y ?_
  refine ⟨⟨k+1,n+tG a (m-n)⟩,⟨zA,zA,by rw [hn2,qP ha,sU,if_pos zA]⟩,(by show e.Args.length-(k+1)<e.Args.length-k;omega),Weak.mk [true] ⟨R,VLe.of_eq (congrArg vI zA),R,R,T⟩ O⟩
 ·try simp only [sx] at c1
  refine qN<|G O<|A O<|A O<|Y<|zH<|zS O ?_
  exact congrArg vI (by rw [hn2];exact congrArg Nat.cast (siz_end hl zA))
theorem ref14_size (e:Ex) (m:Nat) (l:Int) (he:e.wt<=6000000000000) (hm:m<=1000000) (hl:l=m):Pur cfg 182 [vE e,vI l] (vI (tG e m)):=by
  induction e using Ex.ind generalizing m l with
  |_ e ih=>exact zVc e (fun a ha m l h1 h2 h3=>ih a ha m l h1 h2 h3) m l he hm hl
theorem ref14_Size (e:Ex) (he:e.wt<=6000000000000):
    Pur cfg 160 [vE e] (vI (szT e)):=by
 refine zR Tryz.func160 O Tryz.ntmps160 Tryz.results160 O ?_
 intro z hz
 refine G O<|zV O O (qJ O O) ?_
 rintro _ _ ⟨b1,rfl,rfl⟩
 refine A O<|Y<|G O<|zM yX (J 0 O) O<|qD O ok182 (ref14_size e 2000 2000 he zA O) ⟨R,O,R,O,T⟩<|zW O (det_min O O O)<|A O<|Y<|zH<|zS O ?_
 exact congrArg vI (by rw [sizE_min,szT];omega)
theorem ref14_Validate (e:Ex) (he:e.wt<=6000000000000):
    Pur cfg 139 [vE e] (vI (fY e)):=by
 refine zR Tryz.func139 O Tryz.ntmps139 Tryz.results139 O ?_
 intro z hz
 refine G O<|zV O O (qJ O O) ?_
 rintro _ _ ⟨b1,rfl,rfl⟩
 refine A O<|Y<|zJ<|G O<|zM yX (J 0 O) O<|qD O ok159 (ref14_Depth e he) ⟨R,O,T⟩<|zW O (yC O O O)<|Y<|zE O (fun c1=>?_) (fun c1=>?_)
 ·try simp only [sx] at c1
  refine G O<|A O<|Y<|zH<|zS O ?_
  rw [fY,wR c1];rfl
 ·try simp only [sx] at c1
  refine zK<|zJ<|G O<|zM yX (J 0 O) O<|qD O ok160 (ref14_Size e he) ⟨R,O,T⟩<|zW O (yC O O O)<|Y<|zE O (fun c2=>?_) (fun c2=>?_)
  ·try simp only [sx] at c2
   refine G O<|A O<|Y<|zH<|zS O ?_
   rw [fY,qW zA,wR c2];rfl
  ·try simp only [sx] at c2
   refine zK<|G O<|zM yX (J 0 O) O<|qD O ok161 (ref14_part e he) ⟨R,O,T⟩<|A O<|Y<|zH<|zS O ?_
   rw [fY,qW zA,qW zA];rfl
end Go.W
end
section
set_option maxRecDepth 10000
namespace Go.W
open Go Go.Eng Go.Proofs Go.L41 Go.Br
attribute [local irreducible] AWP RWP TD fH
theorem ok51:bA Tryz.prog 51=true:=by kernel_rfl
theorem ok68:bA Tryz.prog 68=true:=by kernel_rfl
theorem ok98:bA Tryz.prog 98=true:=by kernel_rfl
theorem ok99:bA Tryz.prog 99=true:=by kernel_rfl
theorem ok175:bA Tryz.prog 175=true:=by kernel_rfl
theorem ok176:bA Tryz.prog 176=true:=by kernel_rfl
theorem ok177:bA Tryz.prog 177=true:=by kernel_rfl
theorem ok209:bA Tryz.prog 209=true:=by kernel_rfl
theorem ok210:bA Tryz.prog 210=true:=by kernel_rfl
theorem ok211:bA Tryz.prog 211=true:=by kernel_rfl
theorem ok212:bA Tryz.prog 212=true:=by kernel_rfl
theorem ok213:bA Tryz.prog 213=true:=by kernel_rfl
theorem ok214:bA Tryz.prog 214=true:=by kernel_rfl
theorem ok248:bA Tryz.prog 248=true:=by kernel_rfl
theorem zCq:lX Tryz.prog 29=true:=by kernel_rfl
theorem sz3:(Tryz.prog.info? 3).map (·.size)=some 1:=by kernel_rfl
theorem sz29:(Tryz.prog.info? 29).map (·.size)=some 1:=by kernel_rfl
theorem zr3:fF Tryz.prog 3=some [(Value.int IntKind.i64 0)]:=by kernel_rfl
theorem zr29:fF Tryz.prog 29=some [(Value.int IntKind.i64 0)]:=by kernel_rfl
theorem expr_forms (e:Ex):
    Pur cfg 214 [vE e] (.c (.fn (.func 248) [] [.iptr e.cs])):=by
 refine zR Tryz.func214 O Tryz.ntmps214 Tryz.results214 O ?_
 exact v14
theorem forms_iter (e:Ex) (he:e.wt<=6000000000000):
    eK cfg 248 [] [.iptr e.cs] (dP e) fun l=>[dF l]:=by
 obtain ⟨hL,hI,hA⟩:=e.parts he
 intro y J Jx μ hy0 h0
 have hy:=fun pre x suf μ h1 h2=>fn_bool (hy0 pre x suf μ h1 h2)
 refine zR Tryz.func248 O Tryz.ntmps248 Tryz.results248 O ?_
 intro z hz
 refine zJ<|G O<|A O<|qQ O zDv<|zM kP zZ O<|zV O O (zAb O O (hy [] e.Lin _ _ O h0) ⟨R,O,T⟩) ?_
 rintro _ m0 ⟨y0,rfl,t0,f0⟩
 refine kN O<|Y<|zE O (fun c1=>?_) (fun c1=>?_)
 ·try simp only [sx] at c1
  refine zH<|fin0 ?_
  exact .inr ⟨[],e.Lin,_,O,f0 c1⟩
 ·try simp only [sx] at c1
  refine zK<|G O<|qQ O wI<|zI wQ zZ O<|qB O v<|A O<|Y<|zQ<|zY ⟨[(15,.c _),(0,.c _),(13,.c _),(14,.c _)],_⟩ (Weak.regs ⟨R,R,R,R,T⟩)<|zDg 1 O (Nat×List E) (fun ⟨k,m⟩=>[(15,vI k)]) (fun ⟨k,m⟩=>m) (fun ⟨k,m⟩=>k<=e.Idx.length/\(J (e.Lin::(e.Idx.take k).flatMap ixF) m)) (fun ⟨k,m⟩=>e.Idx.length-k) ⟨⟨0,m0⟩,⟨zA,t0 c1⟩,Weak.regs ⟨R,R,R,R,T⟩⟩ ?_
  rintro ⟨k,m⟩ ⟨hk,hJ⟩
  refine G O<|yG O<|Y<|zJ<|zE O (fun c2=>?_) (fun c2=>?_)
  ·try simp only [sx] at c2
   obtain ⟨x,hx⟩:=qY e.Idx k zA
   have hxw:=Ex.idx_wt (qA hx)
   refine zK<|zJ<|zQ<|G O<|qC O v zA (getm uB)<|zM zPo zZ O<|zV O O (qH [none,some 2,none,some 2] O zr92 O) ?_
   rintro _ _ ⟨b1,rfl,rfl⟩
   refine rStR 0 sz92 O<|yS _ (yW 0 O 4 _ PLe.ptr)<|Y<|zJ<|G O<|A O<|qQ O zFh<|zM kP zZ O<|zV O O (zAb O O (hy _ x.Lin _ _ (forms_at hx) hJ) ⟨R,O,T⟩) ?_
   rintro _ m1 ⟨y1,rfl,t1,f1⟩
   refine kN O<|Y<|zE O (fun c3=>?_) (fun c3=>?_)
   ·try simp only [sx] at c3
    refine zH<|fin0 ?_
    exact .inr ⟨_,x.Lin,_,forms_at hx,f1 c3⟩
   ·try simp only [sx] at c3
    refine zK<|G O<|qQ O zAu<|zI zEo zZ O<|qB O el90<|A O<|Y<|zQ<|zY ⟨[(27,.c _),(0,.c _),(13,.c _),(14,.c _),(15,.c _),(25,.c _),(26,.c _)],_⟩ (Weak.regs ⟨R,R,R,R,R,R,R,T⟩)<|zDg 1 O (Nat×List E) (fun ⟨j,n⟩=>[(27,vI j)]) (fun ⟨j,n⟩=>n) (fun ⟨j,n⟩=>j<=x.At.length/\(J ((e.Lin::(e.Idx.take k).flatMap ixF)++[x.Lin]++x.At.take j) n)) (fun ⟨j,n⟩=>x.At.length-j) ⟨⟨0,m1⟩,⟨zA,by simpa using t1 c3⟩,Weak.regs ⟨R,R,R,R,R,R,R,T⟩⟩ ?_
    rintro ⟨j,n⟩ ⟨hj,hJ2⟩
    refine G O<|yG O<|Y<|zJ<|zE O (fun c4=>?_) (fun c4=>?_)
    ·try simp only [sx] at c4
     obtain ⟨l,hl⟩:=qY x.At j zA
     refine zK<|zJ<|zQ<|G O<|qC O el90 zA (getm uB)<|zM kP zZ O<|zV O O (qH [none,some 2] O zr51 O) ?_
     rintro _ _ ⟨b2,rfl,rfl⟩
     refine rStR 0 sz51 O<|yS _ (yW 0 O 6 _ PLe.ptr)<|Y<|G O<|A O<|zM kP zZ O<|zV O O (zAb O O (hy _ l _ _ (forms_at2 hx hl) hJ2) ⟨R,O,T⟩) ?_
     rintro _ m2 ⟨y2,rfl,t2,f2⟩
     refine kN O<|Y<|zE O (fun c5=>?_) (fun c5=>?_)
     ·try simp only [sx] at c5
      refine zH<|fin0 ?_
      exact .inr ⟨_,l,_,forms_at2 hx hl,f2 c5⟩
     ·try simp only [sx] at c5
      refine zK<|zT O<|qI O ⟨zA,zA⟩<|A O<|Y ?_
      refine ⟨⟨j+1,m2⟩,⟨zA,by rw [yQ hl];simpa [List.append_assoc] using t2 c5⟩,(by show x.At.length-(j+1)<x.At.length-j;omega),Weak.regs ⟨R,R,R,R,R,R,R,T⟩⟩
    ·try simp only [sx] at c4
     refine qN<|zT O<|qI O ⟨zA,zA⟩<|A O<|Y ?_
     refine ⟨⟨k+1,n⟩,⟨zA,by rw [forms_next hx];rw [yV (l:=x.At) zA] at hJ2;exact hJ2⟩,(by show e.Idx.length-(k+1)<e.Idx.length-k;omega),Weak.regs ⟨R,R,R,R,T⟩⟩
  ·try simp only [sx] at c2
   refine qN ?_
   repeat (first|refine zJm ?_|refine zHq ?_)
   refine zWk<|fin0 ?_
   rw [yV zA] at hJ;exact .inl hJ
theorem zOs (e:Ex):
    Pur cfg 68 [vE e] (.c (.fn (.func 98) [] [.iptr e.cs])):=by
 refine zR Tryz.func68 O Tryz.ntmps68 Tryz.results68 O ?_
 exact v14
theorem walk_step (e:Ex) (he:e.wt<=6000000000000) (ih:∀a,a∈e.Args->a.wt<=6000000000000->(∀(y:C) (J Jx:List Ex->List E->Prop) (pre0:List Ex) (μ:List E),(∀pre x suf μ,bW a=pre++x::suf->J (pre0++pre) μ->FnCon cfg y [vE x] μ fun r μ'=>∃b,r=.c (.lit (.bool b))/\(b=true->J (pre0++pre++[x]) μ')/\(b=false->Jx (pre0++pre++[x]) μ'))->J pre0 μ->Con cfg 99 [vE a,.c y] μ fun r μ'=>∃b,r=.c (.lit (.bool b))/\(b=true->J (pre0++bW a) μ')/\(b=false->∃pre x suf,bW a=pre++x::suf/\Jx (pre0++pre++[x]) μ'))):
    ∀(y:C) (J Jx:List Ex->List E->Prop) (pre0:List Ex) (μ:List E),(∀pre x suf μ,bW e=pre++x::suf->J (pre0++pre) μ->FnCon cfg y [vE x] μ fun r μ'=>∃b,r=.c (.lit (.bool b))/\(b=true->J (pre0++pre++[x]) μ')/\(b=false->Jx (pre0++pre++[x]) μ'))->J pre0 μ->Con cfg 99 [vE e,.c y] μ fun r μ'=>∃b,r=.c (.lit (.bool b))/\(b=true->J (pre0++bW e) μ')/\(b=false->∃pre x suf,bW e=pre++x::suf/\Jx (pre0++pre++[x]) μ'):=by
 obtain ⟨hL,hI,hA⟩:=e.parts he
 intro y J Jx pre0 μ hy h0
 refine zR Tryz.func99 O Tryz.ntmps99 Tryz.results99 O ?_
 intro z hz
 refine G O<|zV O O (qJ O O) ?_
 rintro _ _ ⟨b1,rfl,rfl⟩
 refine yS _ (yW 0 O 2 _ PLe.ptr)<|A O<|Y<|zJ<|G O<|A O<|zM yX zZ O<|zV O O (zAb O O (hy [] e _ _ (kT e) (show J (pre0++[]) μ by simpa using h0)) ⟨R,O,T⟩) ?_
 rintro _ m0 ⟨y0,rfl,t0,f0⟩
 refine kN O<|Y<|zE O (fun c1=>?_) (fun c1=>?_)
 ·try simp only [sx] at c1
  refine G O<|A O<|Y<|zH<|zS O ?_
  exact ⟨false,O,fun h=>(by cases h),fun _=>⟨[],e,_,kT e,by simpa using f0 c1⟩⟩
 ·try simp only [sx] at c1
  refine zK<|zJ<|G O<|qQ O wA<|zI zAo zZ O<|qB O el52<|A O<|Y<|zQ<|zY ⟨[(14,.c _),(1,.c _),(12,.c _),(13,.c _)],_⟩ (Weak.regs ⟨R,R,R,R,T⟩)<|zDg 1 O (Nat×List E) (fun ⟨k,m⟩=>[(14,vI k)]) (fun ⟨k,m⟩=>m) (fun ⟨k,m⟩=>k<=e.Args.length/\(J (pre0++e::bO (e.Args.take k)) m)) (fun ⟨k,m⟩=>e.Args.length-k) ⟨⟨0,m0⟩,⟨zA,by simpa [bO] using t0 c1⟩,Weak.regs ⟨R,R,R,R,T⟩⟩ ?_
  rintro ⟨k,m⟩ ⟨hk,hJ⟩
  refine G O<|yG O<|Y<|zJ<|zE O (fun c2=>?_) (fun c2=>?_)
  ·try simp only [sx] at c2
   obtain ⟨a,ha⟩:=qY e.Args k zA
   refine zK<|zJ<|zQ<|G O<|qC O el52 zA (zCn uB)<|zM yX zZ O<|zV O O (qH [none,none,none,none,none,none,none,none,none,none,some 2,some 4,some 13] O zr54 O) ?_
   rintro _ _ ⟨b2,rfl,rfl⟩
   refine rStR 0 sz54 O<|yS _ (yW 0 O 6 _ PLe.ptr)<|Y<|G O<|zM yX zZ O<|A O<|zV O O (zBe O ok99 (ih a (qA ha) (by have:=Ex.arg_wt (qA ha);omega) y J Jx (pre0++e::bO (e.Args.take k)) _ (fun pre x suf μ hx hj=>by have:=hy _ x _ μ (nodes_at ha hx) (by simpa using hj);simpa using this) hJ) ⟨R,O,R,O,T⟩) ?_
   rintro _ m1 ⟨y1,rfl,t1,f1⟩
   refine kN O<|Y<|zE O (fun c3=>?_) (fun c3=>?_)
   ·try simp only [sx] at c3
    refine G O<|A O<|Y<|zH<|zS O ?_
    obtain ⟨pre,x,suf,h1,h2⟩:=f1 c3
    exact ⟨false,O,fun h=>(by cases h),fun _=>⟨_,x,_,nodes_at ha h1,by simpa using h2⟩⟩
   ·try simp only [sx] at c3
    refine zK<|zT O<|qI O ⟨zA,zA⟩<|A O<|Y ?_
    refine ⟨⟨k+1,m1⟩,⟨zA,by rw [zVo ha];simpa using t1 c3⟩,(by show e.Args.length-(k+1)<e.Args.length-k;omega),Weak.regs ⟨R,R,R,R,T⟩⟩
  ·try simp only [sx] at c2
   refine qN<|G O<|A O<|Y<|zH<|zS O ?_
   rw [yV zA] at hJ
   exact ⟨true,O,fun _=>(by rw [kT];exact hJ),fun h=>(by cases h)⟩
theorem walk_con (e:Ex) (he:e.wt<=6000000000000):∀(y:C) (J Jx:List Ex->List E->Prop) (pre0:List Ex) (μ:List E),(∀pre x suf μ,bW e=pre++x::suf->J (pre0++pre) μ->FnCon cfg y [vE x] μ fun r μ'=>∃b,r=.c (.lit (.bool b))/\(b=true->J (pre0++pre++[x]) μ')/\(b=false->Jx (pre0++pre++[x]) μ'))->J pre0 μ->Con cfg 99 [vE e,.c y] μ fun r μ'=>∃b,r=.c (.lit (.bool b))/\(b=true->J (pre0++bW e) μ')/\(b=false->∃pre x suf,bW e=pre++x::suf/\Jx (pre0++pre++[x]) μ'):=by
  induction e using Ex.ind with
  |_ e ih=>exact walk_step e he ih
theorem zNe (e:Ex) (he:e.wt<=6000000000000):
    eK cfg 98 [] [.iptr e.cs] (bW e) fun x=>[vE x]:=by
 intro y J Jx μ hy0 h0
 have hy:=fun pre x suf μ h1 h2=>fn_bool (hy0 pre x suf μ h1 h2)
 refine zR Tryz.func98 O Tryz.ntmps98 Tryz.results98 O ?_
 intro z hz
 refine zT O<|zM yX zZ O<|A O<|zV O O (zBe O ok99 (walk_con e he y J Jx [] _ (fun pre x suf μ h1 h2=>hy pre x suf μ h1 h2) h0) ⟨R,O,R,O,T⟩) ?_
 rintro _ m0 ⟨y0,rfl,t0,f0⟩
 refine Y ?_
 repeat (first|refine zJm ?_|refine zHq ?_)
 refine zWk<|fin0 ?_
 cases y0
 · exact .inr (f0 rfl)
 · exact .inl (t0 rfl)
theorem expr_validNode (e:Ex) (he:e.wt<=6000000000000):
    Pur cfg 177 [vE e] (vI (bZ e)):=by
 refine zR Tryz.func177 O Tryz.ntmps177 Tryz.results177 O ?_
 intro z hz
 obtain ⟨hL,hI,hA⟩:=e.parts he
 refine G O<|zV O O (qJ O O) ?_
 rintro _ _ ⟨b1,rfl,rfl⟩
 refine zV O O (qV O zr29) ?_
 rintro _ _ ⟨b2,rfl,rfl⟩
 refine Y<|zJ<|zQ<|G O<|zM yX (J 1 O) O<|qD O ok209 (expr_syntax e he) ⟨R,O,T⟩<|kN O<|A O<|Y<|zE O (fun c1=>?_) (fun c1=>?_)
 ·try simp only [sx] at c1
  refine G O<|rStR 0 sz29 O<|Y<|zH<|fin1 (kY zCq O (J 0 O) O) ?_
  rw [bZ,c1];rfl
 ·try simp only [sx] at c1
  refine G O<|zM yX (J 1 O) O<|qD O ok210 (expr_names e he) ⟨R,O,T⟩<|kN O<|A O<|Y<|zE O (fun c2=>?_) (fun c2=>?_)
  ·try simp only [sx] at c2
   refine G O<|rStR 0 sz29 O<|Y<|zH<|fin1 (kY zCq O (J 0 O) O) ?_
   rw [bZ,c1,c2];rfl
  ·try simp only [sx] at c2
   refine G O<|zM yX (J 1 O) O<|qD O ok211 (expr_rank e he) ⟨R,O,T⟩<|kN O<|A O<|Y<|zE O (fun c3=>?_) (fun c3=>?_)
   ·try simp only [sx] at c3
    refine G O<|rStR 0 sz29 O<|Y<|zH<|fin1 (kY zCq O (J 0 O) O) ?_
    rw [bZ,c1,c2,c3];rfl
   ·try simp only [sx] at c3
    refine G O<|zM yX (J 1 O) O<|qD O ok212 (expr_types e he) ⟨R,O,T⟩<|kN O<|A O<|Y<|zE O (fun c4=>?_) (fun c4=>?_)
    ·try simp only [sx] at c4
     refine G O<|rStR 0 sz29 O<|Y<|zH<|fin1 (kY zCq O (J 0 O) O) ?_
     rw [bZ,c1,c2,c3,c4];rfl
    ·try simp only [sx] at c4
     refine G O<|zD O kO<|zI one3 (J 1 O) O<|yE O<|A O<|rL0 O (fun g9_3=>zG O zEu O) O<|rL1 25 O (fun g9_3=>zU O yD O (J 1 O) O) O<|rL0 O (fun g9_3=>zG O zKq O) O<|rL1 27 O (fun g9_3=>zU O yO O (J 1 O) O) O<|rLz [(26,_),(28,_)] O B ⟨O,O,O,O,T⟩ (fun g9_3=>qG O ok213 (value_Valid e.Ty e.Val) ⟨R,O,R,O,T⟩) O<|rL1 29 O (fun g9_3=>kJ O O) O<|yR O (fun h=>h)<|A O<|Y<|zE O (fun c5=>?_) (fun c5=>?_)
     ·have h5:=node5 c4 c5
      refine G O<|rStR 0 sz29 O<|Y<|zH<|fin1 (kY zCq O (J 0 O) O) ?_
      rw [bZ,c1,c2,c3,c4,lR,h5];rfl
     ·have h5:=node5 c4 c5
      refine zK<|zJ<|G O<|zM yX (J 1 O) O<|qD O ok214 (expr_forms _) ⟨R,O,T⟩<|Y<|zQ<|zY _ (Weak.mem [true,false] O)<|zGg (ps:=[34]) hz 1 O O ok248 (forms_iter e he) (fun _ _=>O) O (fun pre=>pre.all dC=true) (fun pre=>[E.row b2 29 [cI 0]]) (fun c pre=>(c=.ret/\pre.all dC=false)) (fun c pre=>[E.row b2 29 [cI 1]]) ⟨O,O⟩ ?_ ?_ ?_ ?_
      ·intro pre x suf hxs hi z hz
       refine zT O<|zV O O (qH [none,some 2] O zr51 O) ?_
       rintro _ _ ⟨b3,rfl,rfl⟩
       refine rStR 0 sz51 O<|Y ?_
       intro z hz
       refine zQ<|G O<|zM kP (J 0 O) O<|qD O ok51 (zDf x (forms_wt he (by rw [hxs];simp))) ⟨R,O,T⟩<|yK O<|Y<|zE O (fun c6=>?_) (fun c6=>?_)
       ·try simp only [sx] at c6
        refine G O<|rStR 1 sz29 O<|Y<|zH ?_
        exact zCp (τ:=⟨[],_⟩) (Weak.mk [false,true] T O) ⟨⟨O,by simp only [List.all_append,List.all_cons,zKl c6,Bool.false_and,Bool.and_false]⟩,O⟩
       ·try simp only [sx] at c6
        refine zK ?_
        exact zCp (τ:=⟨[],_⟩) (Weak.mk [false,true] T O) ⟨by simp only [List.all_append,hi,List.all_cons,List.all_nil,zKm c6,Bool.and_self],O⟩
      ·intro hd
       refine G O<|rStR 0 sz29 O<|Y<|zH<|fin1 (kY zCq O (J 0 O) O) ?_
       rw [bZ,c1,c2,c3,c4,lR,h5,hd];rfl
      ·rintro pre x suf hxs hx
       rcases hx with ⟨hc,hx⟩
       clear hc
       repeat (first|refine zNi ?_|refine zLu ?_)
       refine fin1 (kY zCq O (J 0 O) O) ?_
       rw [bZ,c1,c2,c3,c4,lR,h5,hxs,all_app_no hx];rfl
      ·rintro i pre x suf hxs hx
       rcases hx with ⟨hc,hx⟩
       cases hc
theorem expr_Size (e:Ex) (he:e.wt<=6000000000000):
    Pur cfg 176 [vE e] (vI (szT e)):=by
 refine zR Tryz.func176 O Tryz.ntmps176 Tryz.results176 O ?_
 intro z hz
 refine G O<|zV O O (qJ O O) ?_
 rintro _ _ ⟨b1,rfl,rfl⟩
 refine A O<|Y<|G O<|zV O O (qV O zr3) ?_
 rintro _ _ ⟨b2,rfl,rfl⟩
 refine rStR 0 sz3 O<|Y<|zJ<|G O<|zM yX (J 1 O) O<|qD O ok68 (zOs _) ⟨R,O,T⟩<|Y<|zQ<|zY _ (Weak.mem [true,false] O)<|zGg (ps:=[6]) hz 1 O O ok98 (zNe e he) (fun _ _=>O) O (fun pre=>pre.length<=2000) (fun pre=>[E.row b2 3 [cI (pre.length:Int)]]) (fun c pre=>(c=.exit 0/\pre.length=2001)) (fun c pre=>[E.row b2 3 [cI (pre.length:Int)]]) ⟨uD,O⟩ ?_ ?_ ?_ ?_
 ·intro pre x suf hxs hi z hz
  refine zK ?_
  intro z hz
  refine zQ<|G O<|zI one3 (J 0 O) O<|qI O ⟨zA,zA⟩<|rStR 0 sz3 O<|Y<|G O<|zI one3 (J 0 O) O<|zW O (yC O O O)<|Y<|zE O (fun c1=>?_) (fun c1=>?_)
  ·try simp only [sx] at c1
   refine qN ?_
   exact zCp (τ:=⟨[],_⟩) (Weak.mk [true] T O) ⟨⟨O,uE⟩,(by dsimp only;rw [show ((pre++[x]).length:Int)=pre.length+1 by simp];rfl)⟩
  ·try simp only [sx] at c1
   refine zK ?_
   exact zCp (τ:=⟨[],_⟩) (Weak.mk [true] T O) ⟨uE,(by dsimp only;rw [show ((pre++[x]).length:Int)=pre.length+1 by simp];rfl)⟩
 ·intro hd
  refine G O<|zI one3 (J 0 O) O<|A O<|Y<|zH<|zS O ?_
  exact congrArg vI (by rw [szT];omega)
 ·rintro pre x suf hxs hx
  rcases hx with ⟨hc,hx⟩
  cases hc
 ·rintro i pre x suf hxs hx
  rcases hx with ⟨hc,hx⟩
  injection hc with hc
  subst hc
  refine G O<|zI one3 (J 0 O) O<|A O<|Y<|zH<|zS O ?_
  exact congrArg vI (by rw [szT,hxs];simp at hx⊢;omega)
theorem expr_Validate (e:Ex) (he:e.wt<=6000000000000):
    Pur cfg 156 [vE e] (vI (fY e)):=by
 refine zR Tryz.func156 O Tryz.ntmps156 Tryz.results156 O ?_
 intro z hz
 refine G O<|zV O O (qJ O O) ?_
 rintro _ _ ⟨b1,rfl,rfl⟩
 refine zV O O (qV O zr29) ?_
 rintro _ _ ⟨b2,rfl,rfl⟩
 refine Y<|zJ<|G O<|zM yX (J 1 O) O<|qD O ok175 (expr_Depth e he) ⟨R,O,T⟩<|zW O (yC O O O)<|Y<|zE O (fun c1=>?_) (fun c1=>?_)
 ·try simp only [sx] at c1
  refine G O<|rStR 0 sz29 O<|Y<|zH<|fin1 (kY zCq O (J 0 O) O) ?_
  rw [fY,wR c1];rfl
 ·try simp only [sx] at c1
  refine zK<|zJ<|G O<|zM yX (J 1 O) O<|qD O ok176 (expr_Size e he) ⟨R,O,T⟩<|zW O (yC O O O)<|Y<|zE O (fun c2=>?_) (fun c2=>?_)
  ·try simp only [sx] at c2
   refine G O<|rStR 0 sz29 O<|Y<|zH<|fin1 (kY zCq O (J 0 O) O) ?_
   rw [fY,qW zA,wR c2];rfl
  ·try simp only [sx] at c2
   refine zK<|zJ<|G O<|zM yX (J 1 O) O<|qD O ok68 (zOs _) ⟨R,O,T⟩<|Y<|zQ<|zY _ (Weak.mem [true,false] O)<|zGg (ps:=[13]) hz 1 O O ok98 (zNe e he) (fun _ _=>O) O (fun pre=>jD pre=0) (fun pre=>[E.row b2 29 [cI 0]]) (fun c pre=>(c=.ret/\¬jD pre=0)) (fun c pre=>[E.row b2 29 [cI (jD pre)]]) ⟨O,O⟩ ?_ ?_ ?_ ?_
   ·intro pre x suf hxs hi z hz
    have hxw:x.wt<=6000000000000:=by have:=zFw e x (by rw [hxs];simp);omega
    refine zT O<|zV O O (qH [none,none,none,none,none,none,none,none,none,none,some 2,some 4,some 13] O zr54 O) ?_
    rintro _ _ ⟨b3,rfl,rfl⟩
    refine rStR 0 sz54 O<|Y ?_
    intro z hz
    refine zQ<|G O<|zM yX (J 0 O) O<|qD O ok177 (expr_validNode x hxw) ⟨R,O,T⟩<|A O<|Y<|G O<|A O<|yK O<|Y<|zE O (fun c3=>?_) (fun c3=>?_)
    ·try simp only [sx] at c3
     refine G O<|A O<|rStR 1 sz29 O<|Y<|zH ?_
     exact zCp (τ:=⟨[],_⟩) (Weak.mk [false,true] T O) ⟨⟨O,by rw [errs_one hi c3];exact c3⟩,(by dsimp only;rw [errs_one hi c3];rfl)⟩
    ·try simp only [sx] at c3
     refine zK ?_
     exact zCp (τ:=⟨[],_⟩) (Weak.mk [false,true] T O) ⟨(by dsimp only;rw [zGo,hi,jD,c3];rfl),O⟩
   ·intro hd
    refine G O<|rStR 0 sz29 O<|Y<|zH<|fin1 (kY zCq O (J 0 O) O) ?_
    rw [fY,qW zA,qW zA,cond_false,cond_false,dJ,hd]
   ·rintro pre x suf hxs hx
    rcases hx with ⟨hc,hx⟩
    clear hc
    repeat (first|refine zNi ?_|refine zLu ?_)
    refine fin1 (kY zCq O (J 0 O) O) ?_
    rw [fY,qW zA,qW zA,cond_false,cond_false,dJ,hxs,errs_pre (suf:=suf) hx]
   ·rintro i pre x suf hxs hx
    rcases hx with ⟨hc,hx⟩
    cases hc
end Go.W
end
section
set_option maxRecDepth 10000
namespace Go.W
open Go Go.Eng Go.Proofs Go.L41 Go.Br
attribute [local irreducible] AWP RWP TD fH
theorem ok40:bA Tryz.prog 40=true:=by kernel_rfl
theorem ok116:bA Tryz.prog 116=true:=by kernel_rfl
theorem ok117:bA Tryz.prog 117=true:=by kernel_rfl
theorem ok143:bA Tryz.prog 143=true:=by kernel_rfl
theorem ok144:bA Tryz.prog 144=true:=by kernel_rfl
theorem ok145:bA Tryz.prog 145=true:=by kernel_rfl
theorem ok164:bA Tryz.prog 164=true:=by kernel_rfl
theorem base_LinsF (a b:List Lf) (ha:a.length<=6000000000000) (hw:∀x,x∈a->x.L.length<=6000000000000):
    Pur cfg 164 [rV a,rV b] (vB (decide (a=b))):=by
 refine zR Tryz.func164 O Tryz.ntmps164 Tryz.results164 O ?_
 intro z hz
 refine G O<|A O<|Y<|zJ<|G O<|A O<|qB O el90<|A O<|qB O el90<|yK O<|Y<|zE O (fun c1=>?_) (fun c1=>?_)
 ·exact o7
 ·try simp only [sx] at c1
  refine zK<|zJ<|G O<|A O<|Y<|zQ<|zY ⟨[(5,.c _),(0,.c _),(1,.c _)],[]⟩ (Weak.mk [] ⟨R,R,R,T⟩ O)<|qK 1 0 O O (Nat) (fun k=>[(5,vI k)]) (fun k=>[]) (fun k=>k<=a.length/\(a.take k=b.take k)) (fun k=>a.length-k) ⟨0,⟨zA,O⟩,Weak.mk [] ⟨R,R,R,T⟩ O⟩ ?_
  rintro k ⟨hk,hp⟩
  refine zJ<|G O<|A O<|A O<|qB O el90<|yG O<|Y<|zE O (fun c2=>?_) (fun c2=>?_)
  ·try simp only [sx] at c2
   obtain ⟨x,hx⟩:=qY a k zA
   obtain ⟨y,hy⟩:=qY b k zA
   refine zK<|zJ<|zQ<|zJ<|qU 10 mixed uC O O<|zN O O (zO O O)<|zN O O (zO O O)<|zN O O (qE O el90 O O zA (getm uB))<|zN O O (zU O kP O zZ O)<|zN O O (zO O O)<|zN O O (zO O O)<|zN O O (qE O el90 O O zA (getm uB))<|zN O O (zU O kP O zZ O)<|zN O O (qG O ok144 (base_Lin x y (hw x (qA hx))) ⟨R,O,R,O,T⟩)<|zN O O (kJ O O)<|yP<|Y<|zE O (fun c3=>?_) (fun c3=>?_)
   ·exact l6
   ·exact r6
  ·exact n7
theorem base_Lins (a b:List Lf) (ha:a.length<=6000000000000) (hw:fC a<=6000000000000):Pur cfg 164 [rV a,rV b] (vB (decide (a=b))):=
  base_LinsF a b ha fun x hx=>by have:=zDz hx;omega
theorem base_Index (a b:Ix) (ha:a.wt<=6000000000000):
    Pur cfg 143 [lA a,lA b] (vB (decide (a=b))):=by
 refine zR Tryz.func143 O Tryz.ntmps143 Tryz.results143 O ?_
 intro z hz
 have hw:=ha
 unfold Ix.wt at hw
 refine G O<|zV O O (qJ O O) ?_
 rintro _ _ ⟨b1,rfl,rfl⟩
 refine zV O O (qJ O O) ?_
 rintro _ _ ⟨b2,rfl,rfl⟩
 refine A O<|Y<|G O<|zD O zEs<|zI one9 (J 1 O) O<|zD O zEs<|zI one9 (J 0 O) O<|wL O<|A O<|rL0 O (fun g1_5=>zG O zFh O) O<|rL1 11 O (fun g1_5=>zU O kP O (J 1 O) O) O<|rL0 O (fun g1_5=>zG O zFh O) O<|rL1 13 O (fun g1_5=>zU O kP O (J 0 O) O) O<|rLz [(12,_),(14,_)] O B ⟨O,O,O,O,T⟩ (fun g1_5=>qG O ok144 (base_Lin a.Lin b.Lin zA) ⟨R,O,R,O,T⟩) O<|yR O (fun h=>h)<|A O<|rL0 O (fun g1_12=>zG O zAu O) O<|rL1 18 O (fun g1_12=>zF O zEo O (J 1 O) O) O<|rL0 O (fun g1_12=>zG O zAu O) O<|rL1 20 O (fun g1_12=>zF O zEo O (J 0 O) O) O<|rLz [(19,_),(21,_)] O B ⟨O,O,O,O,T⟩ (fun g1_12=>qG O ok164 (base_Lins a.At b.At zA zA) ⟨R,O,R,O,T⟩) O<|yR O (fun h=>h)<|A O<|Y<|zH<|zS O ?_
 exact congrArg vB (ix_eq a b)
theorem zRr (a b:List Ix) (ha:a.length<=6000000000000) (hw:dL a<=6000000000000):
    Pur cfg 116 [gR a,gR b] (vB (decide (a=b))):=by
 refine zR Tryz.func116 O Tryz.ntmps116 Tryz.results116 O ?_
 intro z hz
 refine G O<|A O<|Y<|zJ<|G O<|A O<|qB O v<|A O<|qB O v<|yK O<|Y<|zE O (fun c1=>?_) (fun c1=>?_)
 ·exact o7
 ·try simp only [sx] at c1
  refine zK<|zJ<|G O<|A O<|Y<|zQ<|zY ⟨[(5,.c _),(0,.c _),(1,.c _)],[]⟩ (Weak.mk [] ⟨R,R,R,T⟩ O)<|qK 1 0 O O (Nat) (fun k=>[(5,vI k)]) (fun k=>[]) (fun k=>k<=a.length/\(a.take k=b.take k)) (fun k=>a.length-k) ⟨0,⟨zA,O⟩,Weak.mk [] ⟨R,R,R,T⟩ O⟩ ?_
  rintro k ⟨hk,hp⟩
  refine zJ<|G O<|A O<|A O<|qB O v<|yG O<|Y<|zE O (fun c2=>?_) (fun c2=>?_)
  ·try simp only [sx] at c2
   obtain ⟨x,hx⟩:=qY a k zA
   obtain ⟨y,hy⟩:=qY b k zA
   have hxw:=zBn (qA hx)
   refine zK<|zJ<|zQ<|zJ<|qU 10 mixed uC O O<|zN O O (zO O O)<|zN O O (zO O O)<|zN O O (qE O v O O zA (getm uB))<|zN O O (zU O zPo O zZ O)<|zN O O (zO O O)<|zN O O (zO O O)<|zN O O (qE O v O O zA (getm uB))<|zN O O (zU O zPo O zZ O)<|zN O O (qG O ok143 (base_Index x y zA) ⟨R,O,R,O,T⟩)<|zN O O (kJ O O)<|yP<|Y<|zE O (fun c3=>?_) (fun c3=>?_)
   ·exact l6
   ·exact r6
  ·exact n7
theorem base_Exprs_of (a b:List Ex) (hE:∀x,x∈a->∀y,Pur cfg 117 [vE x,vE y] (vB (decide (x=y)))) (ha:a.length<=6000000000000):
    Pur cfg 145 [vEs a,vEs b] (vB (decide (a=b))):=by
 refine zR Tryz.func145 O Tryz.ntmps145 Tryz.results145 O ?_
 intro z hz
 refine G O<|A O<|Y<|zJ<|G O<|A O<|qB O el52<|A O<|qB O el52<|yK O<|Y<|zE O (fun c1=>?_) (fun c1=>?_)
 ·exact o7
 ·try simp only [sx] at c1
  refine zK<|zJ<|G O<|A O<|Y<|zQ<|zY ⟨[(5,.c _),(0,.c _),(1,.c _)],[]⟩ (Weak.mk [] ⟨R,R,R,T⟩ O)<|qK 1 0 O O (Nat) (fun k=>[(5,vI k)]) (fun k=>[]) (fun k=>k<=a.length/\(a.take k=b.take k)) (fun k=>a.length-k) ⟨0,⟨zA,O⟩,Weak.mk [] ⟨R,R,R,T⟩ O⟩ ?_
  rintro k ⟨hk,hp⟩
  refine zJ<|G O<|A O<|A O<|qB O el52<|yG O<|Y<|zE O (fun c2=>?_) (fun c2=>?_)
  ·try simp only [sx] at c2
   obtain ⟨x,hx⟩:=qY a k zA
   obtain ⟨y,hy⟩:=qY b k zA
   refine zK<|zJ<|zQ<|zJ<|qU 10 mixed uC O O<|zN O O (zO O O)<|zN O O (zO O O)<|zN O O (qE O el52 O O zA (zCn uB))<|zN O O (zU O yX O zZ O)<|zN O O (zO O O)<|zN O O (zO O O)<|zN O O (qE O el52 O O zA (zCn uB))<|zN O O (zU O yX O zZ O)<|zN O O (qG O ok117 (hE x (qA hx) y) ⟨R,O,R,O,T⟩)<|zN O O (kJ O O)<|yP<|Y<|zE O (fun c3=>?_) (fun c3=>?_)
   ·exact l6
   ·exact r6
  ·exact n7
theorem base_Expr_step (a:Ex) (ih:∀x,x∈a.Args->x.wt<=6000000000000->∀y,Pur cfg 117 [vE x,vE y] (vB (decide (x=y)))) (ha:a.wt<=6000000000000) (b:Ex):
    Pur cfg 117 [vE a,vE b] (vB (decide (a=b))):=by
 refine zR Tryz.func117 O Tryz.ntmps117 Tryz.results117 O ?_
 intro z hz
 obtain ⟨hL,hI,hA⟩:=a.parts ha
 have hw:=Ex.wt_eq a
 refine G O<|zV O O (qJ O O) ?_
 rintro _ _ ⟨b1,rfl,rfl⟩
 refine zV O O (qJ O O) ?_
 rintro _ _ ⟨b2,rfl,rfl⟩
 refine A O<|Y<|G O<|zD O kO<|zI one3 (J 1 O) O<|zD O kO<|zI one3 (J 0 O) O<|yE O<|A O<|rL0 O (fun g1_5=>zG O zGd O) O<|rL1 11 O (fun g1_5=>zF O one9 O (J 1 O) O) O<|rL0 O (fun g1_5=>zG O zGd O) O<|rL1 13 O (fun g1_5=>zF O one9 O (J 0 O) O) O<|rLz [(12,_),(14,_)] O B ⟨O,O,O,O,T⟩ (fun g1_5=>zLs O O O) O<|yR O (fun h=>h)<|A O<|rL0 O (fun g1_12=>zG O zKq O) O<|rL1 18 O (fun g1_12=>zU O yO O (J 1 O) O) O<|rL0 O (fun g1_12=>zG O zKq O) O<|rL1 20 O (fun g1_12=>zU O yO O (J 0 O) O) O<|rLz [(19,_),(21,_)] O B ⟨O,O,O,O,T⟩ (fun g1_12=>zTk O fl46 O O O) O<|yR O (fun h=>h)<|A O<|rL0 O (fun g1_19=>zG O zEu O) O<|rL1 25 O (fun g1_19=>zU O yD O (J 1 O) O) O<|rL0 O (fun g1_19=>zG O zEu O) O<|rL1 27 O (fun g1_19=>zU O yD O (J 0 O) O) O<|rLz [(26,_),(28,_)] O B ⟨O,O,O,O,T⟩ (fun g1_19=>zTk O fl48 O O O) O<|yR O (fun h=>h)<|A O<|rL0 O (fun g1_26=>zG O zDv O) O<|rL1 32 O (fun g1_26=>zU O kP O (J 1 O) O) O<|rL0 O (fun g1_26=>zG O zDv O) O<|rL1 34 O (fun g1_26=>zU O kP O (J 0 O) O) O<|rLz [(33,_),(35,_)] O B ⟨O,O,O,O,T⟩ (fun g1_26=>qG O ok144 (base_Lin a.Lin b.Lin hL) ⟨R,O,R,O,T⟩) O<|yR O (fun h=>h)<|A O<|rL0 O (fun g1_33=>zG O wI O) O<|rL1 39 O (fun g1_33=>zF O wQ O (J 1 O) O) O<|rL0 O (fun g1_33=>zG O wI O) O<|rL1 41 O (fun g1_33=>zF O wQ O (J 0 O) O) O<|rLz [(40,_),(42,_)] O B ⟨O,O,O,O,T⟩ (fun g1_33=>qG O ok116 (zRr a.Idx b.Idx hI zA) ⟨R,O,R,O,T⟩) O<|yR O (fun h=>h)<|A O<|rL0 O (fun g1_40=>zG O wA O) O<|rL1 46 O (fun g1_40=>zF O zAo O (J 1 O) O) O<|rL0 O (fun g1_40=>zG O wA O) O<|rL1 48 O (fun g1_40=>zF O zAo O (J 0 O) O) O<|rLz [(47,_),(49,_)] O B ⟨O,O,O,O,T⟩ (fun g1_40=>qG O ok145 (base_Exprs_of a.Args b.Args (fun x hx y=>ih x hx (by have:=Ex.arg_wt hx;omega) y) hA) ⟨R,O,R,O,T⟩) O<|yR O (fun h=>h)<|A O<|Y<|zH<|zS O ?_
 exact congrArg vB (ex_eq a b)
theorem base_Expr (a b:Ex) (ha:a.wt<=6000000000000):Pur cfg 117 [vE a,vE b] (vB (decide (a=b))):=by
  induction a using Ex.ind generalizing b with
  |_ a ih=>exact base_Expr_step a (fun x hx h y=>ih x hx y h) ha b
theorem zXn (e:Ex) (ih:∀a,a∈e.Args->∀(m:Nat) (x:Int),a.fit->m<=1000000->x=m->Pur cfg 40 [vE a,vI x] (vI (fW a m))) (m:Nat) (x:Int) (hf:e.fit) (hm:m<=1000000) (hx:x=m):
    Pur cfg 40 [vE e,vI x] (vI (fW e m)):=by
 refine zR Tryz.func40 O Tryz.ntmps40 Tryz.results40 O ?_
 intro z hz
 obtain ⟨f1,f2,f3,f4,f5⟩:=Ex.fit_eq hf
 have hW:=weighE_eq e m
 refine G O<|zV O O (qJ O O) ?_
 rintro _ _ ⟨b1,rfl,rfl⟩
 refine A O<|Y<|G O<|zD O zDv<|zD O wK<|zI zBl (J 0 O) O<|qB O N<|qI O ⟨zA,zA⟩<|zD O wI<|zI wQ (J 0 O) O<|qB O v<|qI O ⟨zA,zA⟩<|A O<|Y<|zJ<|G O<|A O<|Y<|zQ<|zY ⟨[(6,.c _),(5,.c _),(1,.c _),(2,.c _)],[_]⟩ (Weak.mk [true] ⟨R,R,R,R,T⟩ O) ?_
 refine qK 2 0 O O (Nat×Nat) (fun ⟨k,n⟩=>[(6,vI k),(5,vI n)]) (fun ⟨k,n⟩=>[]) (fun ⟨k,n⟩=>k<=e.Idx.length/\(n<=m+4*140737488355328)/\(fJ m (1+e.Lin.L.length+e.Idx.length) e.Idx=fJ m n (e.Idx.drop k))) (fun ⟨k,n⟩=>e.Idx.length-k) ⟨⟨0,1+e.Lin.L.length+e.Idx.length⟩,⟨zA,zA,O⟩,Weak.mk [true] ⟨R,VLe.of_eq (congrArg vI zA),R,R,T⟩ O⟩ ?_
 rintro ⟨k,n⟩ ⟨hk,hn1,hn2⟩
 show AWP _ _ _ _ _ ⟨[(6,vI k),(5,vI n)]++_,[]++_⟩
 refine zJ<|G O<|A O<|zD O wI<|zI wQ (J 0 O) O<|qB O v<|yG O<|A O<|rL0 O (fun g3_5=>zO O O) O<|rL0 O (fun g3_5=>zO O O) O<|rLz [(24,_),(25,_)] O B ⟨O,O,O,O,T⟩ (fun g3_5=>wP O O O) O<|yR O (fun h=>h)<|Y<|zE O (fun c1=>?_) (fun c1=>?_)
 ·try simp only [sx] at c1
  obtain ⟨y,hy⟩:=qY e.Idx k zA
  obtain ⟨i1,i2,i3⟩:=f4 y (qA hy)
  refine zK<|zJ<|zQ<|zJ<|qU 19 mixed uC O O<|zN O O (zO O O)<|zN O O (zG O wI O)<|zN O O (zF O wQ O (J 0 O) O)<|zN O O (zO O O)<|zN O O (qE O v O O zA (getm uB))<|zN O O (qM O zFh O)<|zN O O (qM O wK O)<|zN O O (zF O zBl O zZ O)<|zN O O (yJ O N O)<|zN O O (zEe O O O ⟨zA,zA⟩)<|zN O O (zG O wI O)<|zN O O (zF O wQ O (J 0 O) O)<|zN O O (zO O O)<|zN O O (qE O v O O zA (getm uB))<|zN O O (qM O zAu O)<|zN O O (zF O zEo O zZ O)<|zN O O (yJ O el90 O)<|zN O O (zEe O O O ⟨zA,zA⟩)<|zN O O (qX O O)<|yP<|Y<|G O<|A O<|Y<|zQ<|zY ⟨[(7,.c _),(5,.c _),(1,.c _),(2,.c _),(6,.c _)],[_]⟩ (Weak.mk [true] ⟨R,R,R,R,R,T⟩ O) ?_
  refine qK 2 0 O O (Nat×Nat) (fun ⟨j,p⟩=>[(7,vI j),(5,vI p)]) (fun ⟨j,p⟩=>[]) (fun ⟨j,p⟩=>j<=y.At.length/\(p<=m+4*140737488355328)/\(gF m (n+y.Lin.L.length+y.At.length) y.At=gF m p (y.At.drop j))) (fun ⟨j,p⟩=>y.At.length-j) ⟨⟨0,n+y.Lin.L.length+y.At.length⟩,⟨zA,zA,O⟩,Weak.mk [true] ⟨R,VLe.of_eq (congrArg vI zA),R,R,R,T⟩ O⟩ ?_
  rintro ⟨j,p⟩ ⟨hj,hp1,hp2⟩
  show AWP _ _ _ _ _ ⟨[(7,vI j),(5,vI p)]++_,[]++_⟩
  refine zJ<|G O<|A O<|zD O wI<|zI wQ (J 0 O) O<|A O<|qC O v zA (getm uB)<|qQ O zAu<|zI zEo zZ O<|qB O el90<|yG O<|A O<|rL0 O (fun g7_9=>zO O O) O<|rL0 O (fun g7_9=>zO O O) O<|rLz [(58,_),(59,_)] O B ⟨O,O,O,O,T⟩ (fun g7_9=>wP O O O) O<|yR O (fun h=>h)<|Y<|zE O (fun c2=>?_) (fun c2=>?_)
  ·try simp only [sx] at c2
   obtain ⟨l,hl⟩:=qY y.At j zA
   have hl2:=i3 l (qA hl)
   refine zK<|zJ<|zQ<|zT O<|A O<|zD O wI<|zI wQ (J 0 O) O<|A O<|qC O v zA (getm uB)<|qQ O zAu<|zI zEo zZ O<|A O<|qC O el90 zA (getm uB)<|qQ O wK<|zI zBl zZ O<|qB O N<|qI O ⟨zA,zA⟩<|A O<|Y<|zT O<|A O<|qI O ⟨zA,zA⟩<|A O<|Y ?_
   refine ⟨⟨j+1,p+l.L.length⟩,⟨zA,zA,by rw [hp2,qP hl,gF,if_pos zA]⟩,(by show y.At.length-(j+1)<y.At.length-j;omega),Weak.mk [true] ⟨R,VLe.of_eq (congrArg vI zA),R,R,R,T⟩ O⟩
  ·try simp only [sx] at c2
   have hN2:=weighAt_end (l:=y.At) (k:=j) (n:=p) hx zA
   refine qN<|zT O<|A O<|qI O ⟨zA,zA⟩<|A O<|Y ?_
   refine ⟨⟨k+1,p⟩,⟨zA,hp1,by rw [hn2,qP hy,fJ,if_pos zA,hp2,←hN2]⟩,(by show e.Idx.length-(k+1)<e.Idx.length-k;omega),Weak.mk [true] ⟨R,R,R,R,T⟩ O⟩
 ·try simp only [sx] at c1
  have hN:=weighIdx_end (l:=e.Idx) (k:=k) (n:=n) hx zA
  refine qN<|zJ<|G O<|A O<|Y<|zQ<|zY ⟨[(8,.c _),(5,.c _),(1,.c _),(2,.c _)],[_]⟩ (Weak.mk [true] ⟨R,R,R,R,T⟩ O)<|qK 2 0 O O (Nat×Nat) (fun ⟨k,n⟩=>[(8,vI k),(5,vI n)]) (fun ⟨k,n⟩=>[]) (fun ⟨k,n⟩=>k<=e.Args.length/\(n<=m+4*140737488355328)/\(fW e m=jO (e.Args.drop k) m n)) (fun ⟨k,n⟩=>e.Args.length-k) ⟨⟨0,n⟩,⟨zA,hn1,by rw [hW,hn2,←hN];rfl⟩,Weak.mk [true] ⟨R,R,R,R,T⟩ O⟩ ?_
  rintro ⟨k,n⟩ ⟨hk3,hn3,hn4⟩
  show AWP _ _ _ _ _ ⟨[(8,vI k),(5,vI n)]++_,[]++_⟩
  refine zJ<|G O<|A O<|zD O wA<|zI zAo (J 0 O) O<|qB O el52<|yG O<|A O<|rL0 O (fun g11_5=>zO O O) O<|rL0 O (fun g11_5=>zO O O) O<|rLz [(83,_),(84,_)] O B ⟨O,O,O,O,T⟩ (fun g11_5=>wP O O O) O<|yR O (fun h=>h)<|Y<|zE O (fun c3=>?_) (fun c3=>?_)
  ·try simp only [sx] at c3
   obtain ⟨a,ha⟩:=qY e.Args k zA
   have hwa:=zHb a (m-n) (f5 a (qA ha))
   refine zK<|zJ<|zQ<|zT O<|A O<|zD O wA<|zI zAo (J 0 O) O<|A O<|qC O el52 zA (zCn uB)<|zM yX zZ O<|A O<|A O<|zW O (yA O O O ⟨zA,zA⟩)<|qD O ok40 (ih a (qA ha) (m-n) _ (f5 a (qA ha)) zA zA) ⟨R,O,R,O,T⟩<|qI O ⟨zA,zA⟩<|A O<|Y<|zT O<|A O<|qI O ⟨zA,zA⟩<|A O<|Y ?_
   refine ⟨⟨k+1,n+fW a (m-n)⟩,⟨zA,zA,by rw [hn4,qP ha,jO,if_pos zA]⟩,(by show e.Args.length-(k+1)<e.Args.length-k;omega),Weak.mk [true] ⟨R,VLe.of_eq (congrArg vI zA),R,R,T⟩ O⟩
  ·try simp only [sx] at c3
   refine qN<|G O<|A O<|A O<|Y<|zH<|zS O ?_
   exact congrArg vI (by rw [hn4,←weighL_end hx zA])
theorem base_Weigh (e:Ex) (m:Nat) (x:Int) (hf:e.fit) (hm:m<=1000000) (hx:x=m):Pur cfg 40 [vE e,vI x] (vI (fW e m)):=by
  induction e using Ex.ind generalizing m x with
  |_ e ih=>exact zXn e (fun a ha m x h1 h2 h3=>ih a ha m x h1 h2 h3) m x hf hm hx
theorem zPy (l:List Mono) (hl:l.length<=5864062014805):
    OwnR cfg 138 [xJ l] 109 2 (l.map Mono.cells):=by
 refine zR Tryz.func138 O Tryz.ntmps138 Tryz.results138 O ?_
 intro z hz
 refine G O<|yI 2 O<|Y<|zJ<|G O<|A O<|zV O O (zHj O N O O) ?_
 rintro _ _ ⟨nb1,rfl,hnil1,rfl⟩
 refine Y<|zE O (fun c1=>?_) (fun c1=>?_)
 ·try simp only [sx] at c1
  refine G O<|A O<|yS _ (wC 109 2)<|Y<|zH<|zS O ?_
  exact ⟨_,O,by rw [hnil1 c1]⟩
 ·try simp only [sx] at c1
  refine zK<|G O<|zV O O (zDd O N zJk O O O O) ?_
  rintro _ _ ⟨sv3,rfl,rfl⟩
  refine A O<|zV O O (yN 0 O N O O O uF uF) ?_
  exact m6
theorem zRv (l:List Lf) (hl:l.length<=4294967296):
    OwnR cfg 121 [rV l] 51 2 (l.map Lf.cells):=by
 refine zR Tryz.func121 O Tryz.ntmps121 Tryz.results121 O ?_
 intro z hz
 refine G O<|yI 2 O<|Y<|zJ<|G O<|A O<|zV O O (zHj O el90 O O) ?_
 rintro _ _ ⟨nb1,rfl,hnil1,rfl⟩
 refine Y<|zE O (fun c1=>?_) (fun c1=>?_)
 ·try simp only [sx] at c1
  refine G O<|A O<|yS _ (wC 51 2)<|Y<|zH<|zS O ?_
  exact ⟨_,O,by rw [hnil1 c1]⟩
 ·try simp only [sx] at c1
  refine zK<|G O<|zV O O (zDd O el90 zr51 O O O O) ?_
  rintro _ _ ⟨sv3,rfl,rfl⟩
  refine A O<|zV O O (yN 0 O el90 O O O uF uF) ?_
  exact m6
theorem zUp (l:List Ix) (hl:l.length<=4294967296):
    OwnR cfg 120 [gR l] 92 4 (l.map Ix.cells):=by
 refine zR Tryz.func120 O Tryz.ntmps120 Tryz.results120 O ?_
 intro z hz
 refine G O<|yI 4 O<|Y<|zJ<|G O<|A O<|zV O O (zHj O v O O) ?_
 rintro _ _ ⟨nb1,rfl,hnil1,rfl⟩
 refine Y<|zE O (fun c1=>?_) (fun c1=>?_)
 ·try simp only [sx] at c1
  refine G O<|A O<|yS _ (wC 92 4)<|Y<|zH<|zS O ?_
  exact ⟨_,O,by rw [hnil1 c1]⟩
 ·try simp only [sx] at c1
  refine zK<|G O<|zV O O (zDd O v zr92 O O O O) ?_
  rintro _ _ ⟨sv3,rfl,rfl⟩
  refine A O<|zV O O (yN 0 O v O O O uF uF) ?_
  exact m6
theorem zUq (l:List Ex) (hl:l.length<=4294967296):
    OwnR cfg 122 [vEs l] 54 13 (l.map Ex.cells):=by
 refine zR Tryz.func122 O Tryz.ntmps122 Tryz.results122 O ?_
 intro z hz
 refine G O<|yI 13 O<|Y<|zJ<|G O<|A O<|zV O O (zHj O el52 O O) ?_
 rintro _ _ ⟨nb1,rfl,hnil1,rfl⟩
 refine Y<|zE O (fun c1=>?_) (fun c1=>?_)
 ·try simp only [sx] at c1
  refine G O<|A O<|yS _ (wC 54 13)<|Y<|zH<|zS O ?_
  exact ⟨_,O,by rw [hnil1 c1]⟩
 ·try simp only [sx] at c1
  refine zK<|G O<|zV O O (zDd O el52 zr54 O O O O) ?_
  rintro _ _ ⟨sv3,rfl,rfl⟩
  refine A O<|zV O O (yN 0 O el52 O O O uF uF) ?_
  exact m6
end Go.W
end
