/-
  Walks: what functions of the program compute. Printed by wip/gen/mk2.py.
  Conditions: none.
-/
import Derived.Test.YtkidnhldibjiaaaGreatDoorFacts
import Derived.Test.YtkidnhldibjiaaaGreatDoorPlain
set_option linter.unusedSimpArgs false
set_option linter.unusedVariables false
set_option maxRecDepth 10000
namespace Go.W
open Go Go.Eng Go.Proofs Go.L41 Go.Br
attribute [local irreducible] AWP RWP TD finQ
theorem kw_ascii:∀(j:Nat) (b:UInt8),(bs kwBytes).data.toList[j]? =some b->b.toNat<128:=by
  intro j b h
  have:(kwBytes.all fun c=>decide (c.toNat<128))=true:=by decide
  rw [List.all_eq_true] at this
  simpa using this b (List.mem_of_getElem? h)
theorem kw_fields:(Lib.fields kwBytes).map bs=words:=by decide+kernel
theorem nm1 {s:ByteArray} (h:Lz (!decide (s=bs [])&&decide ((s.size:Int)<=16)) true=true):¬s=bs []:=by
  simp only [Lz,cond_true,Bool.and_eq_true,Bool.not_eq_true',decide_eq_false_iff_not] at h
  exact h.1
theorem nm2 {s:ByteArray} {p:Bool} (h:Lz (!decide (s=bs [])&&decide ((s.size:Int)<=16)&&p) true=true):s.size<=1000000:=by
  simp only [Lz,cond_true,Bool.and_eq_true,decide_eq_true_eq] at h
  omega
theorem kF:aggT Tryz.prog 40=some 2:=by kernel_rfl
theorem zDo:aggT Tryz.prog 107=some 2:=by kernel_rfl
theorem zAx:aggT Tryz.prog 115=some 4:=by kernel_rfl
theorem r:elemT Tryz.prog 22=some (9,1,16):=by kernel_rfl
theorem el38:elemT Tryz.prog 38=some (107,2,24):=by kernel_rfl
theorem el41:elemT Tryz.prog 41=some (115,4,72):=by kernel_rfl
theorem zFn:fieldT Tryz.prog 40 0=some (0,2):=by kernel_rfl
theorem kR:fieldT Tryz.prog 40 1=some (1,38):=by kernel_rfl
theorem zAk:fieldT Tryz.prog 107 0=some (0,9):=by kernel_rfl
theorem fd107_1:fieldT Tryz.prog 107 1=some (1,2):=by kernel_rfl
theorem fl107:flatK Tryz.prog 107=some [.str,.int]:=by kernel_rfl
theorem ik21:intT Tryz.prog 21=some .i32:=by kernel_rfl
theorem mixed:Tryz.prog.follows .mixedOrders=true:=by kernel_rfl
theorem ok21:callOk Tryz.prog 21=true:=by kernel_rfl
theorem ok52:callOk Tryz.prog 52=true:=by kernel_rfl
theorem ok105:callOk Tryz.prog 105=true:=by kernel_rfl
theorem ok137:callOk Tryz.prog 137=true:=by kernel_rfl
theorem ok158:callOk Tryz.prog 158=true:=by kernel_rfl
theorem ok168:callOk Tryz.prog 168=true:=by kernel_rfl
theorem ok185:callOk Tryz.prog 185=true:=by kernel_rfl
theorem ok186:callOk Tryz.prog 186=true:=by kernel_rfl
theorem ok187:callOk Tryz.prog 187=true:=by kernel_rfl
theorem ok188:callOk Tryz.prog 188=true:=by kernel_rfl
theorem ok189:callOk Tryz.prog 189=true:=by kernel_rfl
theorem ok211:callOk Tryz.prog 211=true:=by kernel_rfl
theorem ok233:callOk Tryz.prog 233=true:=by kernel_rfl
theorem ok234:callOk Tryz.prog 234=true:=by kernel_rfl
theorem ok282:callOk Tryz.prog 282=true:=by kernel_rfl
theorem ok305:callOk Tryz.prog 305=true:=by kernel_rfl
theorem one2:oneT Tryz.prog 2=true:=by kernel_rfl
theorem one9:oneT Tryz.prog 9=true:=by kernel_rfl
theorem zAm:oneT Tryz.prog 38=true:=by kernel_rfl
theorem pl40:placesT Tryz.prog 40=some [(0,1),(1,1)]:=by kernel_rfl
theorem pl107:placesT Tryz.prog 107=some [(0,1),(1,1)]:=by kernel_rfl
theorem sz40:(Tryz.prog.info? 40).map (·.size)=some 2:=by kernel_rfl
theorem sz107:(Tryz.prog.info? 107).map (·.size)=some 2:=by kernel_rfl
theorem un9:Tryz.prog.underlying 9=some .string:=by kernel_rfl
theorem us5:(Tryz.prog.underlying 5).isSome=true:=by kernel_rfl
theorem zr9:zeroT Tryz.prog 9=some [(Value.string (ByteArray.mk #[]))]:=by kernel_rfl
theorem zr40:zeroT Tryz.prog 40=some [(Value.int IntKind.i64 0),(Value.slice none 0 0)]:=by kernel_rfl
theorem zIo:zeroT Tryz.prog 107=some [(Value.string (ByteArray.mk #[])),(Value.int IntKind.i64 0)]:=by kernel_rfl
theorem zLt (n:Int):
    Pur cfg 186 [vR n] (vB (letterI n)):=by
 refine zR Tryz.func186 O Tryz.ntmps186 Tryz.results186 O ?_
 intro z hz
 refine G O<|Y O<|W<|G O<|Y O<|zX O (kX O O O)<|Y O<|rL0 O (fun g1_2=>zQ O O) O<|rL1 6 O (fun g1_2=>kO O O O) O<|kD O (fun h=>h)<|Y O<|W<|zJ<|zP O ?_
 exact O
theorem lexer_digit (n:Int):
    Pur cfg 233 [vR n] (vB (digitI n)):=by
 refine zR Tryz.func233 O Tryz.ntmps233 Tryz.results233 O ?_
 intro z hz
 refine G O<|Y O<|W<|G O<|Y O<|zX O (kX O O O)<|Y O<|rL0 O (fun g1_2=>zQ O O) O<|rL1 6 O (fun g1_2=>kO O O O) O<|kD O (fun h=>h)<|Y O<|W<|zJ<|zP O ?_
 exact O
theorem lexer_inWord (n:Int):
    Pur cfg 188 [vR n] (vB (inWordI n)):=by
 refine zR Tryz.func188 O Tryz.ntmps188 Tryz.results188 O ?_
 intro z hz
 refine G O<|Y O<|W<|G O<|Y O<|qK O ok186 (zLt _) ⟨U,O,T⟩<|Y O<|rL0 O (fun g1_2=>zQ O O) O<|rL1 6 O (fun g1_2=>qH O ok233 (lexer_digit _) ⟨U,O,T⟩) O<|r_or O (fun h=>(lzf h))<|Y O<|rL0 O (fun g1_6=>zQ O O) O<|rL1 10 O (fun g1_6=>yL O O O) O<|r_or O (fun h=>(lzf h))<|Y O<|W<|zJ<|zP O ?_
 exact O
theorem zLb (s:ByteArray) (hs:s.size<=1000000):
    Pur cfg 187 [vS s,.c (.fn (.func 188) [] [])] (vI (spanB inWordB s.data.toList)):=by
 refine zR Tryz.func187 O Tryz.ntmps187 Tryz.results187 O ?_
 intro z hz
 refine G O<|Y O<|W<|G O<|Y O<|W<|zG<|zN<|zU ⟨[(5,.c _),(0,.c _),(1,.c _)],[]⟩ (Weak.mk [] ⟨U,U,U,T⟩ O)<|qA 1 0 O O (Nat) (fun k=>[(5,vI k)]) (fun k=>[]) (fun k=>k<=s.size/\(s.data.toList.take k).all inWordB=true) (fun k=>s.size-k) ⟨0,⟨by omega,O⟩,Weak.mk [] ⟨U,U,U,T⟩ O⟩ ?_
 rintro k ⟨hk,hp⟩
 refine zG<|G O<|Y O<|Y O<|zX O (zAg O un9 O)<|qW O<|Y O<|rL0 O (fun g2_4=>zQ O O) O<|rL0 O (fun g2_4=>zQ O O) O<|rL0 O (fun g2_4=>zQ O O) O<|rLz [(12,_),(13,_)] O gv1 ⟨O,O,O,O,T⟩ (fun g2_4=>zCa O un9 O O (by omega) (by simp only [Lz,cond_true,decide_eq_true_eq] at g2_4;omega)) O<|rL1 14 O (fun g2_4=>zFe O us5 ik21 O) O<|rLz [(11,_),(15,_)] O gv1 ⟨O,O,O,O,T⟩ (fun g2_4=>zBp O O ok188 (lexer_inWord _) ⟨U,O,T⟩) O<|kD O (fun h=>h)<|W<|zE O (fun c1=>?_) (fun c1=>?_)
 ·try simp only [sx] at c1
  obtain ⟨hlt,hcc⟩:=c1
  have hlt:k<s.size:=by omega
  rw [zHt] at hcc
  refine zI<|zN<|zO O<|Y O<|qB O ⟨by omega,by omega⟩<|Y O<|W ?_
  have hg:=zCg hlt
  refine ⟨k+1,⟨by omega,by rw [zJx hg,hp];exact hcc⟩,(by omega),Weak.mk [] ⟨U,U,U,T⟩ O⟩
 ·try simp only [sx] at c1
  have hsp:spanB inWordB s.data.toList=k:=span_stop hp (by
    by_cases hlt:k<s.size
    · right;refine ⟨_,zCg hlt,?_⟩;rcases c1 with c1|c1;omega;rw [zHt] at c1;exact c1
    · left;simp;omega)
  refine qE<|G O<|Y O<|Y O<|W<|zJ<|zP O ?_
  rw [hsp]
theorem zMd (l:List ByteArray) (s:ByteArray) (hl:l.length<=6000000000000):
    Pur cfg 105 [vSs l,vS s] (vI (idxB l s)):=by
 refine zR Tryz.func105 O Tryz.ntmps105 Tryz.results105 O ?_
 intro z hz
 refine G O<|Y O<|W<|zG<|G O<|Y O<|zV O r<|Y O<|W<|zN<|zU ⟨[(8,.c _),(0,.c _),(1,.c _),(7,.c _)],[]⟩ (Weak.mk [] ⟨U,U,U,U,T⟩ O)<|qA 1 0 O O (Nat) (fun k=>[(8,vI k)]) (fun k=>[]) (fun k=>k<=l.length/\hasB (l.take k) s=false) (fun k=>l.length-k) ⟨0,⟨by omega,O⟩,Weak.mk [] ⟨U,U,U,U,T⟩ O⟩ ?_
 rintro k ⟨hk,hp⟩
 refine G O<|qW O<|W<|zG<|zE O (fun c1=>?_) (fun c1=>?_)
 ·try simp only [sx] at c1
  obtain ⟨t,ht⟩:=qP l k (by omega)
  refine zI<|zG<|zN<|G O<|Y O<|Y O<|W<|G O<|Y O<|Y O<|Y O<|zZ O r (by omega) (getm ht)<|zH one9 zY O<|zX O (yM O O O)<|W<|zE O (fun c2=>?_) (fun c2=>?_)
  ·try simp only [sx] at c2
   refine G O<|Y O<|Y O<|W<|zJ<|zP O ?_
   rw [idxB_some ht c2 hp]
  ·try simp only [sx] at c2
   refine zI<|zO O<|qB O ⟨by omega,by omega⟩<|Y O<|W ?_
   refine ⟨k+1,⟨by omega,zLv ht hp (fun e=>c2 e.symm)⟩,(by omega),Weak.mk [] ⟨U,U,U,U,T⟩ O⟩
 ·try simp only [sx] at c1
  refine qE<|G O<|Y O<|W<|zJ<|zP O ?_
  rw [idxB_none (by rw [qS (by omega)] at hp;exact hp)]
theorem wH (l:List ByteArray) (s:ByteArray) (hl:l.length<=6000000000000):
    Pur cfg 52 [vSs l,vS s] (vB (hasB l s)):=by
 refine zR Tryz.func52 O Tryz.ntmps52 Tryz.results52 O ?_
 intro z hz
 refine G O<|Y O<|W<|G O<|Y O<|Y O<|qK O ok105 (zMd l s hl) ⟨U,O,U,O,T⟩<|zX O (kX O O O)<|Y O<|W<|zJ<|zP O ?_
 rw [idxB_has]
theorem lexer_keywords  :
    Pur cfg 234 [] (vSs words):=by
 refine zR Tryz.func234 O Tryz.ntmps234 Tryz.results234 O ?_
 intro z hz
 refine G O<|zX O (yA 1 O O)<|W<|G O<|qK O ok282 (strings_Fields _ (by decide) kw_ascii) ⟨U,O,T⟩<|Y O<|W<|zJ<|zP O ?_
 exact congrArg vSs kw_fields
theorem zPb (s:ByteArray):
    Pur cfg 189 [vS s] (vB (hasB words s)):=by
 refine zR Tryz.func189 O Tryz.ntmps189 Tryz.results189 O ?_
 intro z hz
 refine G O<|Y O<|W<|G O<|qK O ok234 (lexer_keywords) T<|Y O<|qK O ok52 (wH _ _ (by decide)) ⟨U,O,U,O,T⟩<|Y O<|W<|zJ<|zP O ?_
 exact O
theorem zDs (s:ByteArray):
    Pur cfg 138 [vS s] (vB (isNameB s)):=by
 refine zR Tryz.func138 O Tryz.ntmps138 Tryz.results138 O ?_
 intro z hz
 refine G O<|Y O<|W<|G O<|Y O<|zX O (zCz O O O)<|Y O<|rL0 O (fun g1_2=>zQ O O) O<|rL1 6 O (fun g1_2=>zAg O un9 O) O<|rL1 7 O (fun g1_2=>kO O O O) O<|kD O (fun h=>h)<|Y O<|rL0 O (fun g1_7=>zQ O O) O<|rL1 11 O (fun g1_7=>zCa O un9 O O (by decide) (size_pos (nm1 g1_7))) O<|rL1 12 O (fun g1_7=>zFe O us5 ik21 O) O<|rL1 13 O (fun g1_7=>qH O ok186 (zLt _) ⟨U,O,T⟩) O<|kD O (fun h=>h)<|Y O<|rL0 O (fun g1_13=>zQ O O) O<|rL1 17 O (fun g1_13=>qH O ok187 (zLb s (nm2 g1_13)) ⟨U,O,U,O,T⟩) O<|rL0 O (fun g1_13=>zQ O O) O<|rL1 19 O (fun g1_13=>zAg O un9 O) O<|rLz [(18,_),(20,_)] O gv1 ⟨O,O,O,O,T⟩ (fun g1_13=>yL O O O) O<|kD O (fun h=>h)<|Y O<|rL0 O (fun g1_20=>zQ O O) O<|rL1 24 O (fun g1_20=>qH O ok189 (zPb _) ⟨U,O,T⟩) O<|rL1 25 O (fun g1_20=>wB O O) O<|kD O (fun h=>h)<|Y O<|W<|zJ<|zP O ?_
 exact congrArg vB (isName_eq s)
theorem base_Words  :
    Pur cfg 185 [] (vSs words):=by
 refine zR Tryz.func185 O Tryz.ntmps185 Tryz.results185 O ?_
 intro z hz
 refine G O<|zX O (yA 1 O O)<|W<|G O<|qX O r zr9<|Y O<|W<|zJ<|zP O ?_
 exact O
theorem zFg (l:List ByteArray) (s:ByteArray) (hl:l.length<=6000000000000):
    Pur cfg 21 [vSs l,vS s] (vB (hasB l s)):=by
 refine zR Tryz.func21 O Tryz.ntmps21 Tryz.results21 O ?_
 intro z hz
 refine G O<|Y O<|W<|zG<|G O<|Y O<|W<|zN<|zU ⟨[(5,.c _),(0,.c _),(1,.c _)],[]⟩ (Weak.mk [] ⟨U,U,U,T⟩ O)<|qA 1 0 O O (Nat) (fun k=>[(5,vI k)]) (fun k=>[]) (fun k=>k<=l.length/\hasB (l.take k) s=false) (fun k=>l.length-k) ⟨0,⟨by omega,O⟩,Weak.mk [] ⟨U,U,U,T⟩ O⟩ ?_
 rintro k ⟨hk,hp⟩
 refine zG<|G O<|Y O<|Y O<|zV O r<|qW O<|W<|zE O (fun c1=>?_) (fun c1=>?_)
 ·try simp only [sx] at c1
  obtain ⟨t,ht⟩:=qP l k (by omega)
  refine zI<|zG<|zN<|G O<|Y O<|Y O<|zZ O r (by omega) (getm ht)<|zH one9 zY O<|Y O<|zX O (yM O O O)<|W<|zE O (fun c2=>?_) (fun c2=>?_)
  ·try simp only [sx] at c2
   refine G O<|Y O<|W<|zJ<|zP O ?_
   rw [yN ht c2]
  ·try simp only [sx] at c2
   refine zI<|zO O<|Y O<|qB O ⟨by omega,by omega⟩<|Y O<|W ?_
   refine ⟨k+1,⟨by omega,zLv ht hp c2⟩,(by omega),Weak.mk [] ⟨U,U,U,T⟩ O⟩
 ·try simp only [sx] at c1
  refine qE<|G O<|Y O<|W<|zJ<|zP O ?_
  rw [show hasB l s=false by rw [qS (by omega)] at hp;exact hp]
theorem zGm (s:ByteArray):
    Pur cfg 137 [vS s] (vB (isNameB s)):=by
 refine zR Tryz.func137 O Tryz.ntmps137 Tryz.results137 O ?_
 intro z hz
 refine G O<|Y O<|W<|zG<|G O<|Y O<|zX O (zAg O un9 O)<|qW O<|Y O<|rL0 O (fun g1_3=>zQ O O) O<|rL1 9 O (fun g1_3=>zAg O un9 O) O<|rL1 10 O (fun g1_3=>yF O O O) O<|r_or O (fun h=>(lzf h))<|Y O<|rL0 O (fun g1_8=>qH O ok185 (base_Words) T) O<|rL0 O (fun g1_8=>zQ O O) O<|rLz [(14,_),(15,_)] O gv1 ⟨O,O,O,O,T⟩ (fun g1_8=>qH O ok21 (zFg _ _ (by decide)) ⟨U,O,U,O,T⟩) O<|r_or O (fun h=>(lzf h))<|W<|zE O (fun c1=>?_) (fun c1=>?_)
 ·try simp only [sx] at c1
  have hno:=name_short (s:=s) (by simpa using c1)
  refine G O<|Y O<|W<|zJ<|zP O ?_
  rw [hno]
 ·try simp only [sx] at c1
  obtain ⟨⟨n1,n2⟩,n3⟩:=c1
  have n1:1<=s.size:=by omega
  have n2:s.size<=16:=by omega
  have hne:=name_end n1 n2 n3
  refine zI<|zG<|G O<|Y O<|W<|zN<|zU ⟨[(3,.c _),(0,.c _)],[]⟩ (Weak.mk [] ⟨U,U,T⟩ O)<|qA 1 0 O O (Nat) (fun k=>[(3,vI k)]) (fun k=>[]) (fun k=>k<=s.size/\okTo s k=true) (fun k=>s.size-k) ⟨0,⟨by omega,O⟩,Weak.mk [] ⟨U,U,T⟩ O⟩ ?_
  rintro k ⟨hk,hp⟩
  refine zG<|G O<|Y O<|Y O<|zX O (zAg O un9 O)<|qW O<|W<|zE O (fun c2=>?_) (fun c2=>?_)
  ·try simp only [sx] at c2
   have hlt:k<s.size:=by omega
   refine zI<|zG<|zN<|G O<|Y O<|Y O<|zX O (zCa O un9 O O (by omega) (by omega))<|Y O<|W<|G O<|Y O<|zX O (kX O O O)<|Y O<|rL0 O (fun g7_2=>zQ O O) O<|rL1 30 O (fun g7_2=>kO O O O) O<|kD O (fun h=>h)<|Y O<|rL0 O (fun g7_6=>zQ O O) O<|rL1 34 O (fun g7_6=>yF O O O) O<|rL1 35 O (fun g7_6=>zQ O O) O<|rLz [] O q T (fun g7_9=>zQ O O) O<|rLz [(37,_)] O q ⟨O,O,T⟩ (fun g7_9=>kX O O O) O<|rLz [(38,_)] O q ⟨O,O,T⟩ (fun g7_9=>zQ O O) O<|rLz [] O q T (fun g7_12=>zQ O O) O<|rLz [(40,_)] O q ⟨O,O,T⟩ (fun g7_12=>kO O O O) O<|rLz [(39,_)] O q ⟨O,O,T⟩ (fun g7_9=>wF O O O (fun h=>kE (by assumption) h) O) O<|rLz [(42,_)] O q ⟨O,O,T⟩ (fun g7_9=>zQ O O) O<|rLz [] O q T (fun g7_16=>zQ O O) O<|rLz [(44,_)] O q ⟨O,O,T⟩ (fun g7_16=>yL O O O) O<|rLz [(43,_)] O q ⟨O,O,T⟩ (fun g7_9=>zBw O O O O (fun h=>kE (by assumption) (lzf h))) O<|rL1 36 O (fun g7_6=>wF O O O (fun h=>kE (by assumption) h) O) O<|r_or O (fun h=>(lzf h))<|wD O<|W<|zE O (fun c3=>?_) (fun c3=>?_)
   ·have hbad:okTo s (k+1)=false:=by rw [okTo_next,show nameOk k (s.data.toList.getD k 0)=false from (Bool.not_eq_true' _).mp c3];simp
    refine G O<|Y O<|W<|zJ<|zP O ?_
    rw [hne];cases ho:okTo s s.size;rfl;exact absurd (okTo_le (k:=k+1) (by omega) ho) (by rw [hbad];simp)
   ·have hgood:okTo s (k+1)=true:=by rw [okTo_next,hp,show nameOk k (s.data.toList.getD k 0)=true from (Bool.not_eq_false' _).mp c3];rfl
    refine zI<|zO O<|Y O<|qB O ⟨by omega,by omega⟩<|Y O<|W ?_
    refine ⟨k+1,⟨by omega,hgood⟩,(by omega),Weak.mk [] ⟨U,U,T⟩ O⟩
  ·try simp only [sx] at c2
   refine qE<|G O<|Y O<|W<|zJ<|zP O ?_
   rw [hne,show s.size=k by omega,hp]
theorem lin_reserved (s:ByteArray):
    Pur cfg 211 [vS s] (vB (hasB words s)):=by
 refine zR Tryz.func211 O Tryz.ntmps211 Tryz.results211 O ?_
 intro z hz
 refine G O<|Y O<|W<|zG<|G O<|Y O<|W<|zN<|zG<|G O<|zX O (yM O O O)<|Y O<|W<|zE O (fun c1=>?_) (fun c1=>?_)
 ·try simp only [sx] at c1
  refine zI<|zE O (fun c22=>?_) (fun c22=>?_)
  ·try simp only [sx] at c22
   refine G O<|Y O<|W<|zJ<|zP O ?_
   rw [yN (l:=words) (k:=0) rfl c1.symm]
  ·try simp only [sx] at c22
   refine zI<|G O<|Y O<|W<|zJ<|zP O ?_
   exact absurd c1 c22
 ·try simp only [sx] at c1
  refine G O<|zX O (yM O O O)<|Y O<|W<|zE O (fun c2=>?_) (fun c2=>?_)
  ·try simp only [sx] at c2
   refine zI<|zE O (fun c22=>?_) (fun c22=>?_)
   ·try simp only [sx] at c22
    refine G O<|Y O<|W<|zJ<|zP O ?_
    rw [yN (l:=words) (k:=1) rfl c2.symm]
   ·try simp only [sx] at c22
    refine zI<|G O<|Y O<|W<|zJ<|zP O ?_
    exact absurd c2 c22
  ·try simp only [sx] at c2
   refine G O<|zX O (yM O O O)<|Y O<|W<|zE O (fun c3=>?_) (fun c3=>?_)
   ·try simp only [sx] at c3
    refine zI<|zE O (fun c22=>?_) (fun c22=>?_)
    ·try simp only [sx] at c22
     refine G O<|Y O<|W<|zJ<|zP O ?_
     rw [yN (l:=words) (k:=2) rfl c3.symm]
    ·try simp only [sx] at c22
     refine zI<|G O<|Y O<|W<|zJ<|zP O ?_
     exact absurd c3 c22
   ·try simp only [sx] at c3
    refine G O<|zX O (yM O O O)<|Y O<|W<|zE O (fun c4=>?_) (fun c4=>?_)
    ·try simp only [sx] at c4
     refine zI<|zE O (fun c22=>?_) (fun c22=>?_)
     ·try simp only [sx] at c22
      refine G O<|Y O<|W<|zJ<|zP O ?_
      rw [yN (l:=words) (k:=3) rfl c4.symm]
     ·try simp only [sx] at c22
      refine zI<|G O<|Y O<|W<|zJ<|zP O ?_
      exact absurd c4 c22
    ·try simp only [sx] at c4
     refine G O<|zX O (yM O O O)<|Y O<|W<|zE O (fun c5=>?_) (fun c5=>?_)
     ·try simp only [sx] at c5
      refine zI<|zE O (fun c22=>?_) (fun c22=>?_)
      ·try simp only [sx] at c22
       refine G O<|Y O<|W<|zJ<|zP O ?_
       rw [yN (l:=words) (k:=4) rfl c5.symm]
      ·try simp only [sx] at c22
       refine zI<|G O<|Y O<|W<|zJ<|zP O ?_
       exact absurd c5 c22
     ·try simp only [sx] at c5
      refine G O<|zX O (yM O O O)<|Y O<|W<|zE O (fun c6=>?_) (fun c6=>?_)
      ·try simp only [sx] at c6
       refine zI<|zE O (fun c22=>?_) (fun c22=>?_)
       ·try simp only [sx] at c22
        refine G O<|Y O<|W<|zJ<|zP O ?_
        rw [yN (l:=words) (k:=5) rfl c6.symm]
       ·try simp only [sx] at c22
        refine zI<|G O<|Y O<|W<|zJ<|zP O ?_
        exact absurd c6 c22
      ·try simp only [sx] at c6
       refine G O<|zX O (yM O O O)<|Y O<|W<|zE O (fun c7=>?_) (fun c7=>?_)
       ·try simp only [sx] at c7
        refine zI<|zE O (fun c22=>?_) (fun c22=>?_)
        ·try simp only [sx] at c22
         refine G O<|Y O<|W<|zJ<|zP O ?_
         rw [yN (l:=words) (k:=6) rfl c7.symm]
        ·try simp only [sx] at c22
         refine zI<|G O<|Y O<|W<|zJ<|zP O ?_
         exact absurd c7 c22
       ·try simp only [sx] at c7
        refine G O<|zX O (yM O O O)<|Y O<|W<|zE O (fun c8=>?_) (fun c8=>?_)
        ·try simp only [sx] at c8
         refine zI<|zE O (fun c22=>?_) (fun c22=>?_)
         ·try simp only [sx] at c22
          refine G O<|Y O<|W<|zJ<|zP O ?_
          rw [yN (l:=words) (k:=7) rfl c8.symm]
         ·try simp only [sx] at c22
          refine zI<|G O<|Y O<|W<|zJ<|zP O ?_
          exact absurd c8 c22
        ·try simp only [sx] at c8
         refine G O<|zX O (yM O O O)<|Y O<|W<|zE O (fun c9=>?_) (fun c9=>?_)
         ·try simp only [sx] at c9
          refine zI<|zE O (fun c22=>?_) (fun c22=>?_)
          ·try simp only [sx] at c22
           refine G O<|Y O<|W<|zJ<|zP O ?_
           rw [yN (l:=words) (k:=8) rfl c9.symm]
          ·try simp only [sx] at c22
           refine zI<|G O<|Y O<|W<|zJ<|zP O ?_
           exact absurd c9 c22
         ·try simp only [sx] at c9
          refine G O<|zX O (yM O O O)<|Y O<|W<|zE O (fun c10=>?_) (fun c10=>?_)
          ·try simp only [sx] at c10
           refine zI<|zE O (fun c22=>?_) (fun c22=>?_)
           ·try simp only [sx] at c22
            refine G O<|Y O<|W<|zJ<|zP O ?_
            rw [yN (l:=words) (k:=9) rfl c10.symm]
           ·try simp only [sx] at c22
            refine zI<|G O<|Y O<|W<|zJ<|zP O ?_
            exact absurd c10 c22
          ·try simp only [sx] at c10
           refine G O<|zX O (yM O O O)<|Y O<|W<|zE O (fun c11=>?_) (fun c11=>?_)
           ·try simp only [sx] at c11
            refine zI<|zE O (fun c22=>?_) (fun c22=>?_)
            ·try simp only [sx] at c22
             refine G O<|Y O<|W<|zJ<|zP O ?_
             rw [yN (l:=words) (k:=10) rfl c11.symm]
            ·try simp only [sx] at c22
             refine zI<|G O<|Y O<|W<|zJ<|zP O ?_
             exact absurd c11 c22
           ·try simp only [sx] at c11
            refine G O<|zX O (yM O O O)<|Y O<|W<|zE O (fun c12=>?_) (fun c12=>?_)
            ·try simp only [sx] at c12
             refine zI<|zE O (fun c22=>?_) (fun c22=>?_)
             ·try simp only [sx] at c22
              refine G O<|Y O<|W<|zJ<|zP O ?_
              rw [yN (l:=words) (k:=11) rfl c12.symm]
             ·try simp only [sx] at c22
              refine zI<|G O<|Y O<|W<|zJ<|zP O ?_
              exact absurd c12 c22
            ·try simp only [sx] at c12
             refine G O<|zX O (yM O O O)<|Y O<|W<|zE O (fun c13=>?_) (fun c13=>?_)
             ·try simp only [sx] at c13
              refine zI<|zE O (fun c22=>?_) (fun c22=>?_)
              ·try simp only [sx] at c22
               refine G O<|Y O<|W<|zJ<|zP O ?_
               rw [yN (l:=words) (k:=12) rfl c13.symm]
              ·try simp only [sx] at c22
               refine zI<|G O<|Y O<|W<|zJ<|zP O ?_
               exact absurd c13 c22
             ·try simp only [sx] at c13
              refine G O<|zX O (yM O O O)<|Y O<|W<|zE O (fun c14=>?_) (fun c14=>?_)
              ·try simp only [sx] at c14
               refine zI<|zE O (fun c22=>?_) (fun c22=>?_)
               ·try simp only [sx] at c22
                refine G O<|Y O<|W<|zJ<|zP O ?_
                rw [yN (l:=words) (k:=13) rfl c14.symm]
               ·try simp only [sx] at c22
                refine zI<|G O<|Y O<|W<|zJ<|zP O ?_
                exact absurd c14 c22
              ·try simp only [sx] at c14
               refine G O<|zX O (yM O O O)<|Y O<|W<|zE O (fun c15=>?_) (fun c15=>?_)
               ·try simp only [sx] at c15
                refine zI<|zE O (fun c22=>?_) (fun c22=>?_)
                ·try simp only [sx] at c22
                 refine G O<|Y O<|W<|zJ<|zP O ?_
                 rw [yN (l:=words) (k:=14) rfl c15.symm]
                ·try simp only [sx] at c22
                 refine zI<|G O<|Y O<|W<|zJ<|zP O ?_
                 exact absurd c15 c22
               ·try simp only [sx] at c15
                refine G O<|zX O (yM O O O)<|Y O<|W<|zE O (fun c16=>?_) (fun c16=>?_)
                ·try simp only [sx] at c16
                 refine zI<|zE O (fun c22=>?_) (fun c22=>?_)
                 ·try simp only [sx] at c22
                  refine G O<|Y O<|W<|zJ<|zP O ?_
                  rw [yN (l:=words) (k:=15) rfl c16.symm]
                 ·try simp only [sx] at c22
                  refine zI<|G O<|Y O<|W<|zJ<|zP O ?_
                  exact absurd c16 c22
                ·try simp only [sx] at c16
                 refine G O<|zX O (yM O O O)<|Y O<|W<|zE O (fun c17=>?_) (fun c17=>?_)
                 ·try simp only [sx] at c17
                  refine zI<|zE O (fun c22=>?_) (fun c22=>?_)
                  ·try simp only [sx] at c22
                   refine G O<|Y O<|W<|zJ<|zP O ?_
                   rw [yN (l:=words) (k:=16) rfl c17.symm]
                  ·try simp only [sx] at c22
                   refine zI<|G O<|Y O<|W<|zJ<|zP O ?_
                   exact absurd c17 c22
                 ·try simp only [sx] at c17
                  refine G O<|zX O (yM O O O)<|Y O<|W<|zE O (fun c18=>?_) (fun c18=>?_)
                  ·try simp only [sx] at c18
                   refine zI<|zE O (fun c22=>?_) (fun c22=>?_)
                   ·try simp only [sx] at c22
                    refine G O<|Y O<|W<|zJ<|zP O ?_
                    rw [yN (l:=words) (k:=17) rfl c18.symm]
                   ·try simp only [sx] at c22
                    refine zI<|G O<|Y O<|W<|zJ<|zP O ?_
                    exact absurd c18 c22
                  ·try simp only [sx] at c18
                   refine G O<|zX O (yM O O O)<|Y O<|W<|zE O (fun c19=>?_) (fun c19=>?_)
                   ·try simp only [sx] at c19
                    refine zI<|zE O (fun c22=>?_) (fun c22=>?_)
                    ·try simp only [sx] at c22
                     refine G O<|Y O<|W<|zJ<|zP O ?_
                     rw [yN (l:=words) (k:=18) rfl c19.symm]
                    ·try simp only [sx] at c22
                     refine zI<|G O<|Y O<|W<|zJ<|zP O ?_
                     exact absurd c19 c22
                   ·try simp only [sx] at c19
                    refine G O<|zX O (yM O O O)<|Y O<|W<|zE O (fun c20=>?_) (fun c20=>?_)
                    ·try simp only [sx] at c20
                     refine zI<|zE O (fun c22=>?_) (fun c22=>?_)
                     ·try simp only [sx] at c22
                      refine G O<|Y O<|W<|zJ<|zP O ?_
                      rw [yN (l:=words) (k:=19) rfl c20.symm]
                     ·try simp only [sx] at c22
                      refine zI<|G O<|Y O<|W<|zJ<|zP O ?_
                      exact absurd c20 c22
                    ·try simp only [sx] at c20
                     refine G O<|zX O (yM O O O)<|Y O<|W<|zE O (fun c21=>?_) (fun c21=>?_)
                     ·try simp only [sx] at c21
                      refine zI<|zE O (fun c22=>?_) (fun c22=>?_)
                      ·try simp only [sx] at c22
                       refine G O<|Y O<|W<|zJ<|zP O ?_
                       rw [yN (l:=words) (k:=20) rfl c21.symm]
                      ·try simp only [sx] at c22
                       refine zI<|G O<|Y O<|W<|zJ<|zP O ?_
                       exact absurd c21 c22
                     ·try simp only [sx] at c21
                      refine zO O<|zX O (yM O O O)<|Y O<|W<|zE O (fun c22=>?_) (fun c22=>?_)
                      ·try simp only [sx] at c22
                       refine G O<|Y O<|W<|zJ<|zP O ?_
                       rw [yN (l:=words) (k:=21) rfl c22.symm]
                      ·try simp only [sx] at c22
                       refine zI<|G O<|Y O<|W<|zJ<|zP O ?_
                       rw [show hasB words s=false by
                         simp only [hasB,words,List.any_cons,List.any_nil,Bool.or_eq_false_iff,decide_eq_false_iff_not]
                         exact ⟨fun h=>c1 h.symm,fun h=>c2 h.symm,fun h=>c3 h.symm,fun h=>c4 h.symm,fun h=>c5 h.symm,fun h=>c6 h.symm,fun h=>c7 h.symm,fun h=>c8 h.symm,fun h=>c9 h.symm,fun h=>c10 h.symm,fun h=>c11 h.symm,fun h=>c12 h.symm,fun h=>c13 h.symm,fun h=>c14 h.symm,fun h=>c15 h.symm,fun h=>c16 h.symm,fun h=>c17 h.symm,fun h=>c18 h.symm,fun h=>c19 h.symm,fun h=>c20 h.symm,fun h=>c21 h.symm,fun h=>c22 h.symm,T⟩]
theorem zHm (s:ByteArray):
    Pur cfg 158 [vS s] (vB (isNameB s)):=by
 refine zR Tryz.func158 O Tryz.ntmps158 Tryz.results158 O ?_
 intro z hz
 refine G O<|Y O<|W<|zG<|G O<|Y O<|zX O (zAg O un9 O)<|qW O<|Y O<|rL0 O (fun g1_3=>zQ O O) O<|rL1 9 O (fun g1_3=>zAg O un9 O) O<|rL1 10 O (fun g1_3=>yF O O O) O<|r_or O (fun h=>(lzf h))<|Y O<|rL0 O (fun g1_8=>zQ O O) O<|rL1 14 O (fun g1_8=>qH O ok211 (lin_reserved _) ⟨U,O,T⟩) O<|r_or O (fun h=>(lzf h))<|Y O<|rL0 O (fun g1_12=>zQ O O) O<|rL1 18 O (fun g1_12=>zCa O un9 O O (by decide) (by simp only [Lz,cond_true,cond_false,Bool.and_eq_true,Bool.or_eq_true,Bool.not_eq_true',Bool.not_eq_false',Bool.or_eq_false_iff,Bool.and_eq_false_iff,decide_eq_true_eq,decide_eq_false_iff_not,Bool.not_eq_true,Bool.not_eq_false] at g1_12;omega)) O<|rL1 19 O (fun g1_12=>zDy O O O) O<|r_or O (fun h=>(lzf h))<|Y O<|rL0 O (fun g1_17=>zQ O O) O<|rL1 23 O (fun g1_17=>zCa O un9 O O (by decide) (by simp only [Lz,cond_true,cond_false,Bool.and_eq_true,Bool.or_eq_true,Bool.not_eq_true',Bool.not_eq_false',Bool.or_eq_false_iff,Bool.and_eq_false_iff,decide_eq_true_eq,decide_eq_false_iff_not,Bool.not_eq_true,Bool.not_eq_false] at g1_17;omega)) O<|rL1 24 O (fun g1_17=>yF O O O) O<|r_or O (fun h=>(lzf h))<|W<|zE O (fun c1=>?_) (fun c1=>?_)
 ·have hno:=ident_no c1
  refine G O<|Y O<|W<|zJ<|zP O ?_
  rw [hno]
 ·obtain ⟨n1,n2,hne⟩:=ident_yes c1
  refine zI<|zG<|G O<|Y O<|zX O (zAg O un9 O)<|Y O<|W<|zN<|zU ⟨[(29,.c _),(0,.c _),(28,.c _)],[]⟩ (Weak.mk [] ⟨U,U,U,T⟩ O)<|qA 1 0 O O (Nat) (fun k=>[(29,vI k)]) (fun k=>[]) (fun k=>k<=s.size/\(s.data.toList.take k).all inWordB=true) (fun k=>s.size-k) ⟨0,⟨by omega,O⟩,Weak.mk [] ⟨U,U,U,T⟩ O⟩ ?_
  rintro k ⟨hk,hp⟩
  refine G O<|qW O<|W<|zG<|zE O (fun c2=>?_) (fun c2=>?_)
  ·try simp only [sx] at c2
   have hlt:k<s.size:=by omega
   refine zI<|zG<|zN<|G O<|Y O<|Y O<|W<|G O<|Y O<|Y O<|zX O (zCa O un9 O O (by omega) (by omega))<|Y O<|W<|G O<|Y O<|qW O<|Y O<|rL0 O (fun g7_2=>zQ O O) O<|rL1 38 O (fun g7_2=>yF O O O) O<|r_or O (fun h=>(lzf h))<|Y O<|rL0 O (fun g7_6=>zQ O O) O<|rL1 42 O (fun g7_6=>zDy O O O) O<|rL1 43 O (fun g7_6=>zQ O O) O<|rLz [] O q T (fun g7_9=>zQ O O) O<|rLz [(45,_)] O q ⟨O,O,T⟩ (fun g7_9=>yF O O O) O<|rL1 44 O (fun g7_6=>zBw O O O O (fun h=>kE (by assumption) (lzf h))) O<|kD O (fun h=>h)<|Y O<|rL0 O (fun g7_14=>zQ O O) O<|rL1 50 O (fun g7_14=>wZ O O O) O<|kD O (fun h=>h)<|W<|zE O (fun c3=>?_) (fun c3=>?_)
   ·have hbad:=word_no hlt c3
    refine G O<|Y O<|W<|zJ<|zP O ?_
    rw [hne,hbad]
   ·have hgood:=word_yes hlt hp c3
    refine zI<|zO O<|qB O ⟨by omega,by omega⟩<|Y O<|W ?_
    refine ⟨k+1,⟨by omega,hgood⟩,(by omega),Weak.mk [] ⟨U,U,U,T⟩ O⟩
  ·try simp only [sx] at c2
   refine qE<|G O<|Y O<|W<|zJ<|zP O ?_
   rw [hne,word_all hp (by omega)]
theorem zGd (l:Lf) (hl:l.L.length<=6000000000000):
    Pur cfg 190 [vLin l] (vI (linErr l)):=by
 refine zR Tryz.func190 O Tryz.ntmps190 Tryz.results190 O ?_
 intro z hz
 refine G O<|zS O O (qG O O) ?_
 rintro _ _ ⟨b1,rfl,rfl⟩
 refine Y O<|W<|zG<|G O<|zD O kR<|zH zAm (J 0 O) O<|zV O el38<|Y O<|W<|zN<|zU ⟨[(8,.c _),(1,.c _),(6,.c _),(7,.c _)],[_]⟩ (Weak.mk [true] ⟨U,U,U,U,T⟩ O)<|qA 1 0 O O (Nat) (fun k=>[(8,vI k)]) (fun k=>[]) (fun k=>k<=l.L.length/\(linOk l=monosOk (prevOf l.L k) (l.L.drop k))) (fun k=>l.L.length-k) ⟨0,⟨by omega,O⟩,Weak.mk [true] ⟨U,U,U,U,T⟩ O⟩ ?_
 rintro k ⟨hk,hp⟩
 refine G O<|qW O<|W<|zG<|zE O (fun c1=>?_) (fun c1=>?_)
 ·try simp only [sx] at c1
  obtain ⟨x,hx⟩:=qP l.L k (by omega)
  refine zI<|zG<|zN<|G O<|Y O<|zZ O el38 (by omega) (getm (by assumption))<|zL zDo zY O<|zS O O (yB O zIo) ?_
  rintro _ _ ⟨b2,rfl,rfl⟩
  refine Y O<|N 0 sz107 O<|W<|zG<|qY 25 mixed (by kernel_rfl) O O<|zM O O (zF O zAk O)<|zM O O (zK O one9 O (J 0 O) O)<|zM O O (qH O ok158 (zHm _) ⟨U,O,T⟩)<|zM O O (wB O O)<|zM O O (zQ O O)<|qC [] O O O O gv1 T (fun g4_4=>zF O fd107_1 O) O<|qC [(18,_)] O O O O gv1 ⟨O,O,T⟩ (fun g4_4=>zK O one2 O (J 0 O) O) O<|qC [(19,_)] O O O O gv1 ⟨O,O,T⟩ (fun g4_4=>yL O O O) O<|zM O O (zBw O O O O (fun h=>(lzf h)))<|zM O O (zQ O O)<|qC [] O O O O gv1 T (fun g4_9=>zQ O O) O<|qC [(23,_)] O O O O gv1 ⟨O,O,T⟩ (fun g4_9=>yF O O O) O<|qC [(24,_)] O O O O gv1 ⟨O,O,T⟩ (fun g4_9=>zQ O O) O<|qC [] O O O O q T (fun g4_12=>zF O kR O) O<|qC [(26,_)] O O O O q ⟨O,O,T⟩ (fun g4_12=>zK O zAm O (J 1 O) O) O<|qC [] O O O O q T (fun g4_12=>zQ O O) O<|qC [(28,_)] O O O O q ⟨O,O,T⟩ (fun g4_12=>wY O O O ⟨by omega,by omega⟩) O<|qC [(27,_),(29,_)] O O O O q ⟨O,O,O,O,T⟩ (fun g4_12=>qJ O el38 O O (by simp only [Lz,cond_true,cond_false,Bool.and_eq_true,Bool.or_eq_true,Bool.not_eq_true',Bool.not_eq_false',Bool.or_eq_false_iff,Bool.and_eq_false_iff,decide_eq_true_eq,decide_eq_false_iff_not,Bool.not_eq_true,Bool.not_eq_false] at g4_12;omega) (pv_get (by simp only [Lz,cond_true,cond_false,Bool.and_eq_true,Bool.or_eq_true,Bool.not_eq_true',Bool.not_eq_false',Bool.or_eq_false_iff,Bool.and_eq_false_iff,decide_eq_true_eq,decide_eq_false_iff_not,Bool.not_eq_true,Bool.not_eq_false] at g4_12;omega) (by omega))) O<|qC [(30,_)] O O O O q ⟨O,O,T⟩ (fun g4_12=>qQ O zAk O) O<|qC [(31,_)] O O O O q ⟨O,O,T⟩ (fun g4_12=>zK O one9 O zY O) O<|qC [] O O O O q T (fun g4_12=>zF O zAk O) O<|qC [(33,_)] O O O O q ⟨O,O,T⟩ (fun g4_12=>zK O one9 O (J 0 O) O) O<|qC [(32,_),(34,_)] O O O O q ⟨O,O,O,O,T⟩ (fun g4_12=>det_sgeq O O O) O<|qC [(25,_)] O O O O gv1 ⟨O,O,T⟩ (fun g4_9=>wF O O O (fun h=>kE (by assumption) h) O) O<|zM O O (zBw O O O O (fun h=>(lzf h)))<|yT<|W<|zE O (fun c2=>?_) (fun c2=>?_)
  ·refine G O<|Y O<|W<|zJ<|zP O ?_
   rw [linErr,hp,zGw hx,show badM l.L k x=true from c2];rfl
  ·refine zI<|zO O<|qB O ⟨by omega,by omega⟩<|Y O<|W ?_
   refine ⟨k+1,⟨by omega,by rw [hp,zGw hx,show badM l.L k x=false from c2];rfl⟩,(by omega),Weak.mk [false,true] ⟨U,U,U,U,T⟩ O⟩
 ·try simp only [sx] at c1
  refine qE<|G O<|Y O<|W<|zJ<|zP O ?_
  rw [linErr,hp,monos_end (by omega)];rfl
theorem zDa (l:Lf) (hl:l.L.length<=6000000000000):
    Pur cfg 107 [vLin l] (vB (linOk l)):=by
 refine zR Tryz.func107 O Tryz.ntmps107 Tryz.results107 O ?_
 intro z hz
 refine G O<|zS O O (qG O O) ?_
 rintro _ _ ⟨b1,rfl,rfl⟩
 refine Y O<|W<|zG<|G O<|Y O<|W<|zN<|zU ⟨[(3,.c _),(1,.c _)],[_]⟩ (Weak.mk [true] ⟨U,U,T⟩ O)<|qA 1 0 O O (Nat) (fun k=>[(3,vI k)]) (fun k=>[]) (fun k=>k<=l.L.length/\(linOk l=monosOk (prevOf l.L k) (l.L.drop k))) (fun k=>l.L.length-k) ⟨0,⟨by omega,O⟩,Weak.mk [true] ⟨U,U,T⟩ O⟩ ?_
 rintro k ⟨hk,hp⟩
 refine zG<|G O<|Y O<|zD O kR<|zH zAm (J 0 O) O<|zV O el38<|qW O<|W<|zE O (fun c1=>?_) (fun c1=>?_)
 ·try simp only [sx] at c1
  obtain ⟨x,hx⟩:=qP l.L k (by omega)
  refine zI<|zG<|zN<|zG<|qY 37 mixed (by kernel_rfl) O O<|zM O O (zF O kR O)<|zM O O (zK O zAm O (J 0 O) O)<|zM O O (zQ O O)<|zM O O (qJ O el38 O O (by omega) (getm (by assumption)))<|zM O O (qQ O zAk O)<|zM O O (zK O one9 O zY O)<|zM O O (qH O ok137 (zGm _) ⟨U,O,T⟩)<|zM O O (wB O O)<|zM O O (zQ O O)<|qC [] O O O O gv1 T (fun g4_8=>zF O kR O) O<|qC [(20,_)] O O O O gv1 ⟨O,O,T⟩ (fun g4_8=>zK O zAm O (J 0 O) O) O<|qC [] O O O O gv1 T (fun g4_8=>zQ O O) O<|qC [(21,_),(22,_)] O O O O gv1 ⟨O,O,O,O,T⟩ (fun g4_8=>qJ O el38 O O (by omega) (getm (by assumption))) O<|qC [(23,_)] O O O O gv1 ⟨O,O,T⟩ (fun g4_8=>qQ O fd107_1 O) O<|qC [(24,_)] O O O O gv1 ⟨O,O,T⟩ (fun g4_8=>zK O one2 O zY O) O<|qC [(25,_)] O O O O gv1 ⟨O,O,T⟩ (fun g4_8=>yL O O O) O<|zM O O (zBw O O O O (fun h=>(lzf h)))<|zM O O (zQ O O)<|qC [] O O O O gv1 T (fun g4_17=>zQ O O) O<|qC [(29,_)] O O O O gv1 ⟨O,O,T⟩ (fun g4_17=>yF O O O) O<|qC [(30,_)] O O O O gv1 ⟨O,O,T⟩ (fun g4_17=>zQ O O) O<|qC [] O O O O q T (fun g4_20=>zF O kR O) O<|qC [(32,_)] O O O O q ⟨O,O,T⟩ (fun g4_20=>zK O zAm O (J 0 O) O) O<|qC [] O O O O q T (fun g4_20=>zQ O O) O<|qC [(34,_)] O O O O q ⟨O,O,T⟩ (fun g4_20=>wY O O O ⟨by omega,by omega⟩) O<|qC [(33,_),(35,_)] O O O O q ⟨O,O,O,O,T⟩ (fun g4_20=>qJ O el38 O O (by simp only [Lz,cond_true,cond_false,Bool.and_eq_true,Bool.or_eq_true,Bool.not_eq_true',Bool.not_eq_false',Bool.or_eq_false_iff,Bool.and_eq_false_iff,decide_eq_true_eq,decide_eq_false_iff_not,Bool.not_eq_true,Bool.not_eq_false] at g4_20;omega) (pv_get (by simp only [Lz,cond_true,cond_false,Bool.and_eq_true,Bool.or_eq_true,Bool.not_eq_true',Bool.not_eq_false',Bool.or_eq_false_iff,Bool.and_eq_false_iff,decide_eq_true_eq,decide_eq_false_iff_not,Bool.not_eq_true,Bool.not_eq_false] at g4_20;omega) (by omega))) O<|qC [(36,_)] O O O O q ⟨O,O,T⟩ (fun g4_20=>qQ O zAk O) O<|qC [(37,_)] O O O O q ⟨O,O,T⟩ (fun g4_20=>zK O one9 O zY O) O<|qC [] O O O O q T (fun g4_20=>zF O kR O) O<|qC [(39,_)] O O O O q ⟨O,O,T⟩ (fun g4_20=>zK O zAm O (J 0 O) O) O<|qC [] O O O O q T (fun g4_20=>zQ O O) O<|qC [(40,_),(41,_)] O O O O q ⟨O,O,O,O,T⟩ (fun g4_20=>qJ O el38 O O (by omega) (getm (by assumption))) O<|qC [(42,_)] O O O O q ⟨O,O,T⟩ (fun g4_20=>qQ O zAk O) O<|qC [(43,_)] O O O O q ⟨O,O,T⟩ (fun g4_20=>zK O one9 O zY O) O<|qC [(38,_),(44,_)] O O O O q ⟨O,O,O,O,T⟩ (fun g4_20=>det_sgeq O O O) O<|qC [(31,_)] O O O O gv1 ⟨O,O,T⟩ (fun g4_17=>wF O O O (fun h=>kE (by assumption) h) O) O<|zM O O (zBw O O O O (fun h=>(lzf h)))<|yT<|W<|zE O (fun c2=>?_) (fun c2=>?_)
  ·refine G O<|Y O<|W<|zJ<|zP O ?_
   rw [hp,zGw hx,show badM l.L k x=true from c2];rfl
  ·refine zI<|zO O<|Y O<|qB O ⟨by omega,by omega⟩<|Y O<|W ?_
   refine ⟨k+1,⟨by omega,by rw [hp,zGw hx,show badM l.L k x=false from c2];rfl⟩,(by omega),Weak.mk [true] ⟨U,U,T⟩ O⟩
 ·try simp only [sx] at c1
  refine qE<|G O<|Y O<|W<|zJ<|zP O ?_
  rw [hp,monos_end (by omega)]
theorem lin_Var (s:ByteArray):
    Pur cfg 91 [vS s] (vLin (varL s)):=by
 refine zR Tryz.func91 O Tryz.ntmps91 Tryz.results91 O ?_
 intro z hz
 refine G O<|zS O O (qD [none,some 2] O zr40 O) ?_
 rintro _ _ ⟨b1,rfl,rfl⟩
 refine W<|zG<|G O<|Y O<|qK O ok158 (zHm _) ⟨U,O,T⟩<|wD O<|W<|zE O (fun c1=>?_) (fun c1=>?_)
 ·try simp only [sx] at c1
  refine G O<|zX O (kJ [none,some 2] O zr40 pl40 O O)<|N 0 sz40 O<|W<|zJ<|fin1 (qF kF O (J 0 O) O) ?_
  rw [varL,c1];rfl
 ·try simp only [sx] at c1
  refine zI<|G O<|Y O<|yW O zIo pl107<|qX O el38 zIo<|yW O zr40 pl40<|N 0 sz40 O<|W<|zJ<|fin1 (qF kF O (J 0 O) O) ?_
  rw [varL,c1];rfl
theorem zCu (s:ByteArray):
    Pur cfg 65 [vS s] (vLin (varL s)):=by
 refine zR Tryz.func65 O Tryz.ntmps65 Tryz.results65 O ?_
 intro z hz
 refine G O<|zS O O (qD [none,some 2] O zr40 O) ?_
 rintro _ _ ⟨b1,rfl,rfl⟩
 refine W<|zG<|G O<|Y O<|qK O ok137 (zGm _) ⟨U,O,T⟩<|wD O<|W<|zE O (fun c1=>?_) (fun c1=>?_)
 ·try simp only [sx] at c1
  refine G O<|zX O (kJ [none,some 2] O zr40 pl40 O O)<|N 0 sz40 O<|W<|zJ<|fin1 (qF kF O (J 0 O) O) ?_
  rw [varL,c1];rfl
 ·try simp only [sx] at c1
  refine zI<|G O<|Y O<|yW O zIo pl107<|qX O el38 zIo<|yW O zr40 pl40<|N 0 sz40 O<|W<|zJ<|fin1 (qF kF O (J 0 O) O) ?_
  rw [varL,c1];rfl
theorem zKh (a b:List Mono) (ha:a.length<=6000000000000):
    Pur cfg 168 [vMonos a,vMonos b] (vB (decide (a=b))):=by
 refine zR Tryz.func168 O Tryz.ntmps168 Tryz.results168 O ?_
 intro z hz
 refine G O<|Y O<|W<|zG<|G O<|Y O<|zV O el38<|Y O<|zV O el38<|yR O<|W<|zE O (fun c1=>?_) (fun c1=>?_)
 ·try simp only [sx] at c1
  refine G O<|Y O<|W<|zJ<|zP O ?_
  rw [yI (fun h=>c1 (by rw [h]))]
 ·try simp only [sx] at c1
  refine zI<|zG<|G O<|Y O<|zV O el38<|Y O<|W<|zN<|zU ⟨[(13,.c _),(0,.c _),(1,.c _),(12,.c _)],[]⟩ (Weak.mk [] ⟨U,U,U,U,T⟩ O)<|qA 1 0 O O (Nat) (fun k=>[(13,vI k)]) (fun k=>[]) (fun k=>k<=a.length/\(a.take k=b.take k)) (fun k=>a.length-k) ⟨0,⟨by omega,O⟩,Weak.mk [] ⟨U,U,U,U,T⟩ O⟩ ?_
  rintro k ⟨hk,hp⟩
  refine G O<|qW O<|W<|zG<|zE O (fun c2=>?_) (fun c2=>?_)
  ·try simp only [sx] at c2
   obtain ⟨x,hx⟩:=qP a k (by omega)
   obtain ⟨y,hy⟩:=qP b k (by omega)
   refine zI<|zG<|zN<|G O<|Y O<|Y O<|W<|zG<|qY 9 mixed (by kernel_rfl) O O<|zM O O (zQ O O)<|zM O O (zQ O O)<|zM O O (qJ O el38 O O (by omega) (getm (by assumption)))<|zM O O (zT O zDo O zY O)<|zM O O (zQ O O)<|zM O O (zQ O O)<|zM O O (qJ O el38 O O (by omega) (getm (by assumption)))<|zM O O (zT O zDo O zY O)<|zM O O (zBf O fl107 O O O)<|yT<|W<|zE O (fun c3=>?_) (fun c3=>?_)
   ·have hne:=mono_ne c3
    refine G O<|Y O<|W<|zJ<|zP O ?_
    rw [yI (zEj hx hy hne)]
   ·have heq:=mono_eq c3
    refine zI<|zO O<|qB O ⟨by omega,by omega⟩<|Y O<|W ?_
    refine ⟨k+1,⟨by omega,zBh hx hy hp heq⟩,(by omega),Weak.mk [] ⟨U,U,U,U,T⟩ O⟩
  ·try simp only [sx] at c2
   refine qE<|G O<|Y O<|W<|zJ<|zP O ?_
   rw [wA (zDb hp (by omega) (by omega))]
theorem lin_Same (a b:Lf) (ha:a.L.length<=6000000000000):
    Pur cfg 114 [vLin a,vLin b] (vB (decide (a=b))):=by
 refine zR Tryz.func114 O Tryz.ntmps114 Tryz.results114 O ?_
 intro z hz
 refine G O<|zS O O (qG O O) ?_
 rintro _ _ ⟨b1,rfl,rfl⟩
 refine zS O O (qG O O) ?_
 rintro _ _ ⟨b2,rfl,rfl⟩
 refine Y O<|W<|G O<|zD O zFn<|zH one2 (J 1 O) O<|zD O zFn<|zH one2 (J 0 O) O<|yG O<|Y O<|rL0 O (fun g1_5=>zF O kR O) O<|rL1 11 O (fun g1_5=>zK O zAm O (J 1 O) O) O<|rL0 O (fun g1_5=>zF O kR O) O<|rL1 13 O (fun g1_5=>zK O zAm O (J 0 O) O) O<|rLz [(12,_),(14,_)] O gv1 ⟨O,O,O,O,T⟩ (fun g1_5=>qH O ok168 (zKh _ _ (by omega)) ⟨U,O,U,O,T⟩) O<|kD O (fun h=>h)<|Y O<|W<|zJ<|zP O ?_
 exact congrArg vB (lin_eq a b)
theorem zNc (a b:Lf) (ha:a.L.length<=6000000000000):
    Pur cfg 34 [vLin a,vLin b] (vB (decide (a=b))):=by
 refine zR Tryz.func34 O Tryz.ntmps34 Tryz.results34 O ?_
 intro z hz
 refine G O<|zS O O (qG O O) ?_
 rintro _ _ ⟨b1,rfl,rfl⟩
 refine zS O O (qG O O) ?_
 rintro _ _ ⟨b2,rfl,rfl⟩
 refine Y O<|W<|zG<|G O<|zD O zFn<|zH one2 (J 1 O) O<|zD O zFn<|zH one2 (J 0 O) O<|yR O<|Y O<|rL0 O (fun g1_5=>zF O kR O) O<|rL1 12 O (fun g1_5=>zK O zAm O (J 1 O) O) O<|rL1 13 O (fun g1_5=>qU O el38 O) O<|rL0 O (fun g1_5=>zF O kR O) O<|rL1 15 O (fun g1_5=>zK O zAm O (J 0 O) O) O<|rL1 16 O (fun g1_5=>qU O el38 O) O<|rLz [(14,_),(17,_)] O gv1 ⟨O,O,O,O,T⟩ (fun g1_5=>wZ O O O) O<|r_or O (fun h=>(lzf h))<|W<|zE O (fun c1=>?_) (fun c1=>?_)
 ·try simp only [sx] at c1
  refine G O<|Y O<|W<|zJ<|zP O ?_
  rw [yI (fun h=>by rw [h] at c1;simp at c1)]
 ·try simp only [sx] at c1
  refine zI<|zG<|G O<|Y O<|W<|zN<|zU ⟨[(5,.c _),(2,.c _),(3,.c _)],[_,_]⟩ (Weak.mk [true,true] ⟨U,U,U,T⟩ O)<|qA 1 0 O O (Nat) (fun k=>[(5,vI k)]) (fun k=>[]) (fun k=>k<=a.L.length/\(a.L.take k=b.L.take k)) (fun k=>a.L.length-k) ⟨0,⟨by omega,O⟩,Weak.mk [true,true] ⟨U,U,U,T⟩ O⟩ ?_
  rintro k ⟨hk,hp⟩
  refine zG<|G O<|Y O<|zD O kR<|zH zAm (J 1 O) O<|zV O el38<|qW O<|W<|zE O (fun c2=>?_) (fun c2=>?_)
  ·try simp only [sx] at c2
   obtain ⟨x,hx⟩:=qP a.L k (by omega)
   obtain ⟨y,hy⟩:=qP b.L k (by omega)
   refine zI<|zG<|zN<|zG<|qY 11 mixed (by kernel_rfl) O O<|zM O O (zF O kR O)<|zM O O (zK O zAm O (J 1 O) O)<|zM O O (zQ O O)<|zM O O (qJ O el38 O O (by omega) (getm (by assumption)))<|zM O O (zT O zDo O zY O)<|zM O O (zF O kR O)<|zM O O (zK O zAm O (J 0 O) O)<|zM O O (zQ O O)<|zM O O (qJ O el38 O O (by omega) (getm (by assumption)))<|zM O O (zT O zDo O zY O)<|zM O O (zBf O fl107 O O O)<|yT<|W<|zE O (fun c3=>?_) (fun c3=>?_)
   ·have hne:=mono_ne c3
    refine G O<|Y O<|W<|zJ<|zP O ?_
    rw [yI (fun h=>zEj hx hy hne (by rw [h]))]
   ·have heq:=mono_eq c3
    refine zI<|zO O<|Y O<|qB O ⟨by omega,by omega⟩<|Y O<|W ?_
    refine ⟨k+1,⟨by omega,zBh hx hy hp heq⟩,(by omega),Weak.mk [true,true] ⟨U,U,U,T⟩ O⟩
  ·try simp only [sx] at c2
   refine qE<|G O<|Y O<|W<|zJ<|zP O ?_
   rw [wA (lin_mk (by omega) (zDb hp (by omega) (by omega)))]
theorem zHx (l:List Ix) (c:C) (p:Ix->Bool) (hl:l.length<=6000000000000) (hc:∀x,x∈l->FnPur cfg c [vIndex x] (vB (p x))):
    Pur cfg 305 [vIndices l,.c c] (vI (idxOf p l)):=by
 refine zR Tryz.func305 O Tryz.ntmps305 Tryz.results305 O ?_
 intro z hz
 refine G O<|Y O<|W<|zG<|G O<|Y O<|zV O el41<|Y O<|W<|zN<|zU ⟨[(8,.c _),(0,.c _),(1,.c _),(7,.c _)],[]⟩ (Weak.mk [] ⟨U,U,U,U,T⟩ O)<|qA 1 0 O O (Nat) (fun k=>[(8,vI k)]) (fun k=>[]) (fun k=>k<=l.length/\((l.take k).any p=false)) (fun k=>l.length-k) ⟨0,⟨by omega,O⟩,Weak.mk [] ⟨U,U,U,U,T⟩ O⟩ ?_
 rintro k ⟨hk,hp⟩
 refine G O<|qW O<|W<|zG<|zE O (fun c1=>?_) (fun c1=>?_)
 ·try simp only [sx] at c1
  obtain ⟨x,hx⟩:=qP l k (by omega)
  refine zI<|zG<|zN<|G O<|Y O<|Y O<|W<|G O<|Y O<|Y O<|Y O<|zZ O el41 (by omega) (getm (by assumption))<|zL zAx zY O<|zX O (kS O O (hc _ (zW hx)) ⟨U,O,T⟩)<|W<|zE O (fun c2=>?_) (fun c2=>?_)
  ·try simp only [sx] at c2
   refine G O<|Y O<|Y O<|W<|zJ<|zP O ?_
   rw [zCx hx c2 hp]
  ·try simp only [sx] at c2
   refine zI<|zO O<|qB O ⟨by omega,by omega⟩<|Y O<|W ?_
   refine ⟨k+1,⟨by omega,zHd hx hp c2⟩,(by omega),Weak.mk [] ⟨U,U,U,U,T⟩ O⟩
 ·try simp only [sx] at c1
  refine qE<|G O<|Y O<|W<|zJ<|zP O ?_
  rw [zBm (by rw [qS (by omega)] at hp;exact hp)]
theorem zAh (l:List Ix) (c:C) (p:Ix->Bool) (hl:l.length<=6000000000000) (hc:∀x,x∈l->FnPur cfg c [vIndex x] (vB (p x))):
    Pur cfg 266 [vIndices l,.c c] (vB (l.any p)):=by
 refine zR Tryz.func266 O Tryz.ntmps266 Tryz.results266 O ?_
 intro z hz
 refine G O<|Y O<|W<|G O<|Y O<|Y O<|qK O ok305 (zHx l c p hl hc) ⟨U,O,U,O,T⟩<|zX O (kX O O O)<|Y O<|W<|zJ<|zP O ?_
 rw [idxOf_any]
end Go.W
