/-
  Walks: what functions of the program compute. Printed by wip/gen/mk2.py.
  Conditions: none.
-/
import Derived.Test.YtgfomfnjionbeaaGreatDoorFacts
import Derived.Test.YtgfomfnjionbeaaGreatDoorPlain
set_option linter.unusedSimpArgs false
set_option linter.unusedVariables false
set_option maxRecDepth 10000
namespace Go.W
open Go Go.Eng Go.Proofs Go.L41 Go.Br
attribute [local irreducible] AWP RWP TD finQ
theorem kw_ascii:∀(j:Nat) (b:UInt8),(bs kwBytes).data.toList[j]? =some b->b.toNat<128:=by
  intro j b h
  have:(kwBytes.all fun c=>decide (c.toNat<128))=true:=by decide
  rw [List.all_eq_true] at this
  simpa using this b (List.mem_of_getElem? h)
theorem kw_fields:(Lib.fields kwBytes).map bs=words:=by decide+kernel
theorem nm1 {s:ByteArray} (h:Lz (!decide (s=bs [])&&decide ((s.size:Int)<=16)) true=true):¬s=bs []:=by
  simp only [Lz,cond_true,Bool.and_eq_true,Bool.not_eq_true',decide_eq_false_iff_not] at h
  exact h.1
theorem nm2 {s:ByteArray} {p:Bool} (h:Lz (!decide (s=bs [])&&decide ((s.size:Int)<=16)&&p) true=true):s.size<=1000000:=by
  simp only [Lz,cond_true,Bool.and_eq_true,decide_eq_true_eq] at h
  omega
theorem kE:aggT Tryz.prog 59=some 2:=by kernel_rfl
theorem zLp:aggT Tryz.prog 93=some 4:=by kernel_rfl
theorem zEf:aggT Tryz.prog 139=some 2:=by kernel_rfl
theorem el25:elemT Tryz.prog 25=some (9,1,16):=by kernel_rfl
theorem el52:elemT Tryz.prog 52=some (93,4,72):=by kernel_rfl
theorem U:elemT Tryz.prog 57=some (139,2,24):=by kernel_rfl
theorem zFk:fieldT Tryz.prog 59 0=some (0,2):=by kernel_rfl
theorem zAe:fieldT Tryz.prog 59 1=some (1,57):=by kernel_rfl
theorem wS:fieldT Tryz.prog 139 0=some (0,9):=by kernel_rfl
theorem zEb:fieldT Tryz.prog 139 1=some (1,2):=by kernel_rfl
theorem ik21:intT Tryz.prog 21=some .i32:=by kernel_rfl
theorem mixed:Tryz.prog.follows .mixedOrders=true:=by kernel_rfl
theorem ok20:callOk Tryz.prog 20=true:=by kernel_rfl
theorem ok44:callOk Tryz.prog 44=true:=by kernel_rfl
theorem ok46:callOk Tryz.prog 46=true:=by kernel_rfl
theorem ok53:callOk Tryz.prog 53=true:=by kernel_rfl
theorem ok54:callOk Tryz.prog 54=true:=by kernel_rfl
theorem ok55:callOk Tryz.prog 55=true:=by kernel_rfl
theorem ok56:callOk Tryz.prog 56=true:=by kernel_rfl
theorem ok57:callOk Tryz.prog 57=true:=by kernel_rfl
theorem ok73:callOk Tryz.prog 73=true:=by kernel_rfl
theorem ok102:callOk Tryz.prog 102=true:=by kernel_rfl
theorem ok110:callOk Tryz.prog 110=true:=by kernel_rfl
theorem ok111:callOk Tryz.prog 111=true:=by kernel_rfl
theorem ok136:callOk Tryz.prog 136=true:=by kernel_rfl
theorem ok175:callOk Tryz.prog 175=true:=by kernel_rfl
theorem ok303:callOk Tryz.prog 303=true:=by kernel_rfl
theorem ok315:callOk Tryz.prog 315=true:=by kernel_rfl
theorem one2:oneT Tryz.prog 2=true:=by kernel_rfl
theorem one9:oneT Tryz.prog 9=true:=by kernel_rfl
theorem zEg:oneT Tryz.prog 57=true:=by kernel_rfl
theorem pl59:placesT Tryz.prog 59=some [(0,1),(1,1)]:=by kernel_rfl
theorem pl139:placesT Tryz.prog 139=some [(0,1),(1,1)]:=by kernel_rfl
theorem sz59:(Tryz.prog.info? 59).map (·.size)=some 2:=by kernel_rfl
theorem sz139:(Tryz.prog.info? 139).map (·.size)=some 2:=by kernel_rfl
theorem un9:Tryz.prog.underlying 9=some .string:=by kernel_rfl
theorem us5:(Tryz.prog.underlying 5).isSome=true:=by kernel_rfl
theorem zr9:zeroT Tryz.prog 9=some [(Value.string (ByteArray.mk #[]))]:=by kernel_rfl
theorem W:zeroT Tryz.prog 59=some [(Value.int IntKind.i64 0),(Value.slice none 0 0)]:=by kernel_rfl
theorem zEr:zeroT Tryz.prog 139=some [(Value.string (ByteArray.mk #[])),(Value.int IntKind.i64 0)]:=by kernel_rfl
theorem zNf (n:Int):
    Pur cfg 53 [vR n] (vB (letterI n)):=by
 refine zW Tryz.func53 O Tryz.ntmps53 Tryz.results53 O ?_
 exact o1
theorem lexer_digit (n:Int):
    Pur cfg 110 [vR n] (vB (digitI n)):=by
 refine zW Tryz.func110 O Tryz.ntmps110 Tryz.results110 O ?_
 exact o1
theorem lexer_inWord (n:Int):
    Pur cfg 55 [vR n] (vB (inWordI n)):=by
 refine zW Tryz.func55 O Tryz.ntmps55 Tryz.results55 O ?_
 intro z hz
 refine Y O<|G O<|zA<|Y O<|G O<|qK O ok53 (zNf _) ⟨zB,O,T⟩<|G O<|rL0 O (fun g1_2=>zS O O) O<|rL1 6 O (fun g1_2=>qR O ok110 (lexer_digit _) ⟨zB,O,T⟩) O<|r_or O (fun h=>(lzf h))<|G O<|rL0 O (fun g1_6=>zS O O) O<|rL1 10 O (fun g1_6=>kC O O O) O<|r_or O (fun h=>(lzf h))<|G O<|zA<|zG<|zV O ?_
 exact O
theorem zMo (s:ByteArray) (hs:s.size<=1000000):
    Pur cfg 54 [vS s,.c (.fn (.func 55) [] [])] (vI (spanB inWordB s.data.toList)):=by
 refine zW Tryz.func54 O Tryz.ntmps54 Tryz.results54 O ?_
 intro z hz
 refine Y O<|G O<|zA<|Y O<|G O<|zA<|zH<|zT<|zU ⟨[(5,.c _),(0,.c _),(1,.c _)],[]⟩ (Weak.mk [] ⟨zB,zB,zB,T⟩ O)<|qJ 1 0 O O (Nat) (fun k=>[(5,vI k)]) (fun k=>[]) (fun k=>k<=s.size/\(s.data.toList.take k).all inWordB=true) (fun k=>s.size-k) ⟨0,⟨by omega,O⟩,Weak.mk [] ⟨zB,zB,zB,T⟩ O⟩ ?_
 rintro k ⟨hk,hp⟩
 refine zH<|Y O<|G O<|G O<|zR O (wP O un9 O)<|yB O<|G O<|rL0 O (fun g2_4=>zS O O) O<|rL0 O (fun g2_4=>zS O O) O<|rL0 O (fun g2_4=>zS O O) O<|rLz [(12,_),(13,_)] O gv1 ⟨O,O,O,O,T⟩ (fun g2_4=>zCq O un9 O O (by omega) (by simp only [Lz,cond_true,decide_eq_true_eq] at g2_4;omega)) O<|rL1 14 O (fun g2_4=>zAv O us5 ik21 O) O<|rLz [(11,_),(15,_)] O gv1 ⟨O,O,O,O,T⟩ (fun g2_4=>zBz O O ok55 (lexer_inWord _) ⟨zB,O,T⟩) O<|wC O (fun h=>h)<|zA<|zE O (fun c1=>?_) (fun c1=>?_)
 ·try simp only [sx] at c1
  obtain ⟨hlt,hcc⟩:=c1
  have hlt:k<s.size:=by omega
  rw [zJf] at hcc
  refine zF<|zT<|zP O<|G O<|qM O ⟨by omega,by omega⟩<|G O<|zA ?_
  have hg:=zCu hlt
  refine ⟨k+1,⟨by omega,by rw [zLn hg,hp];exact hcc⟩,(by omega),Weak.mk [] ⟨zB,zB,zB,T⟩ O⟩
 ·try simp only [sx] at c1
  have hsp:spanB inWordB s.data.toList=k:=span_stop hp (by
    by_cases hlt:k<s.size
    · right;refine ⟨_,zCu hlt,?_⟩;rcases c1 with c1|c1;omega;rw [zJf] at c1;exact c1
    · left;simp;omega)
  refine qP<|Y O<|G O<|G O<|zA<|zG<|zV O ?_
  rw [hsp]
theorem zNm (l:List ByteArray) (s:ByteArray) (hl:l.length<=6000000000000):
    Pur cfg 102 [vSs l,vS s] (vI (idxB l s)):=by
 refine zW Tryz.func102 O Tryz.ntmps102 Tryz.results102 O ?_
 intro z hz
 refine Y O<|G O<|zA<|zH<|Y O<|G O<|qB O el25<|G O<|zA<|zT<|zU ⟨[(8,.c _),(0,.c _),(1,.c _),(7,.c _)],[]⟩ (Weak.mk [] ⟨zB,zB,zB,zB,T⟩ O)<|qJ 1 0 O O (Nat) (fun k=>[(8,vI k)]) (fun k=>[]) (fun k=>k<=l.length/\hasB (l.take k) s=false) (fun k=>l.length-k) ⟨0,⟨by omega,O⟩,Weak.mk [] ⟨zB,zB,zB,zB,T⟩ O⟩ ?_
 rintro k ⟨hk,hp⟩
 refine Y O<|yB O<|zA<|zH<|zE O (fun c1=>?_) (fun c1=>?_)
 ·try simp only [sx] at c1
  obtain ⟨t,ht⟩:=yD l k (by omega)
  refine zF<|zH<|zT<|Y O<|G O<|G O<|zA<|Y O<|G O<|G O<|G O<|qD O el25 (by omega) (getm ht)<|zI one9 qH O<|kY O<|zA<|zE O (fun c2=>?_) (fun c2=>?_)
  ·try simp only [sx] at c2
   refine Y O<|G O<|G O<|zA<|zG<|zV O ?_
   rw [idxB_some ht c2 hp]
  ·try simp only [sx] at c2
   refine zF<|zP O<|qM O ⟨by omega,by omega⟩<|G O<|zA ?_
   refine ⟨k+1,⟨by omega,zNh ht hp (fun e=>c2 e.symm)⟩,(by omega),Weak.mk [] ⟨zB,zB,zB,zB,T⟩ O⟩
 ·try simp only [sx] at c1
  refine qP<|Y O<|G O<|zA<|zG<|zV O ?_
  rw [idxB_none (by rw [yC (by omega)] at hp;exact hp)]
theorem wL (l:List ByteArray) (s:ByteArray) (hl:l.length<=6000000000000):
    Pur cfg 44 [vSs l,vS s] (vB (hasB l s)):=by
 refine zW Tryz.func44 O Tryz.ntmps44 Tryz.results44 O ?_
 intro z hz
 refine Y O<|G O<|zA<|Y O<|G O<|G O<|qK O ok102 (zNm l s hl) ⟨zB,O,zB,O,T⟩<|zR O (wT O O O)<|G O<|zA<|zG<|zV O ?_
 rw [idxB_has]
theorem lexer_keywords  :
    Pur cfg 111 [] (vSs words):=by
 refine zW Tryz.func111 O Tryz.ntmps111 Tryz.results111 O ?_
 intro z hz
 refine Y O<|qT 1 O<|zA<|Y O<|qK O ok175 (strings_Fields _ (by decide) kw_ascii) ⟨zB,O,T⟩<|G O<|zA<|zG<|zV O ?_
 exact congrArg vSs kw_fields
theorem zPq (s:ByteArray):
    Pur cfg 56 [vS s] (vB (hasB words s)):=by
 refine zW Tryz.func56 O Tryz.ntmps56 Tryz.results56 O ?_
 intro z hz
 refine Y O<|G O<|zA<|Y O<|qK O ok111 (lexer_keywords) T<|G O<|qK O ok44 (wL _ _ (by decide)) ⟨zB,O,zB,O,T⟩<|G O<|zA<|zG<|zV O ?_
 exact O
theorem zAq (s:ByteArray):
    Pur cfg 19 [vS s] (vB (isNameB s)):=by
 refine zW Tryz.func19 O Tryz.ntmps19 Tryz.results19 O ?_
 intro z hz
 refine Y O<|G O<|zA<|Y O<|G O<|zR O (zLb O O O)<|G O<|rL0 O (fun g1_2=>zS O O) O<|rL1 6 O (fun g1_2=>wP O un9 O) O<|rL1 7 O (fun g1_2=>zBb O O O) O<|wC O (fun h=>h)<|G O<|rL0 O (fun g1_7=>zS O O) O<|rL1 11 O (fun g1_7=>zCq O un9 O O (by decide) (size_pos (nm1 g1_7))) O<|rL1 12 O (fun g1_7=>zAv O us5 ik21 O) O<|rL1 13 O (fun g1_7=>qR O ok53 (zNf _) ⟨zB,O,T⟩) O<|wC O (fun h=>h)<|G O<|rL0 O (fun g1_13=>zS O O) O<|rL1 17 O (fun g1_13=>qR O ok54 (zMo s (nm2 g1_13)) ⟨zB,O,zB,O,T⟩) O<|rL0 O (fun g1_13=>zS O O) O<|rL1 19 O (fun g1_13=>wP O un9 O) O<|rLz [(18,_),(20,_)] O gv1 ⟨O,O,O,O,T⟩ (fun g1_13=>kC O O O) O<|wC O (fun h=>h)<|G O<|rL0 O (fun g1_20=>zS O O) O<|rL1 24 O (fun g1_20=>qR O ok56 (zPq _) ⟨zB,O,T⟩) O<|rL1 25 O (fun g1_20=>zAz O O) O<|wC O (fun h=>h)<|G O<|zA<|zG<|zV O ?_
 exact congrArg vB (isName_eq s)
theorem base_Words  :
    Pur cfg 57 [] (vSs words):=by
 refine zW Tryz.func57 O Tryz.ntmps57 Tryz.results57 O ?_
 intro z hz
 refine Y O<|qT 1 O<|zA<|Y O<|zR O (qS O el25 zr9 O O O O)<|G O<|zA<|zG<|zV O ?_
 exact O
theorem base_Has (l:List ByteArray) (s:ByteArray) (hl:l.length<=6000000000000):
    Pur cfg 46 [vSs l,vS s] (vB (hasB l s)):=by
 refine zW Tryz.func46 O Tryz.ntmps46 Tryz.results46 O ?_
 intro z hz
 refine Y O<|G O<|zA<|zH<|Y O<|G O<|zA<|zT<|zU ⟨[(5,.c _),(0,.c _),(1,.c _)],[]⟩ (Weak.mk [] ⟨zB,zB,zB,T⟩ O)<|qJ 1 0 O O (Nat) (fun k=>[(5,vI k)]) (fun k=>[]) (fun k=>k<=l.length/\hasB (l.take k) s=false) (fun k=>l.length-k) ⟨0,⟨by omega,O⟩,Weak.mk [] ⟨zB,zB,zB,T⟩ O⟩ ?_
 rintro k ⟨hk,hp⟩
 refine zH<|Y O<|G O<|G O<|qB O el25<|yB O<|zA<|zE O (fun c1=>?_) (fun c1=>?_)
 ·try simp only [sx] at c1
  obtain ⟨t,ht⟩:=yD l k (by omega)
  refine zF<|zH<|zT<|Y O<|G O<|G O<|qD O el25 (by omega) (getm ht)<|zI one9 qH O<|G O<|kY O<|zA<|zE O (fun c2=>?_) (fun c2=>?_)
  ·try simp only [sx] at c2
   refine Y O<|G O<|zA<|zG<|zV O ?_
   rw [kA ht c2]
  ·try simp only [sx] at c2
   refine zF<|zP O<|G O<|qM O ⟨by omega,by omega⟩<|G O<|zA ?_
   refine ⟨k+1,⟨by omega,zNh ht hp c2⟩,(by omega),Weak.mk [] ⟨zB,zB,zB,T⟩ O⟩
 ·try simp only [sx] at c1
  refine qP<|Y O<|G O<|zA<|zG<|zV O ?_
  rw [show hasB l s=false by rw [yC (by omega)] at hp;exact hp]
theorem base_Name (s:ByteArray):
    Pur cfg 20 [vS s] (vB (isNameB s)):=by
 refine zW Tryz.func20 O Tryz.ntmps20 Tryz.results20 O ?_
 intro z hz
 refine Y O<|G O<|zA<|zH<|Y O<|G O<|zR O (wP O un9 O)<|yB O<|G O<|rL0 O (fun g1_3=>zS O O) O<|rL1 9 O (fun g1_3=>wP O un9 O) O<|rL1 10 O (fun g1_3=>yU O O O) O<|r_or O (fun h=>(lzf h))<|G O<|rL0 O (fun g1_8=>qR O ok57 (base_Words) T) O<|rL0 O (fun g1_8=>zS O O) O<|rLz [(14,_),(15,_)] O gv1 ⟨O,O,O,O,T⟩ (fun g1_8=>qR O ok46 (base_Has _ _ (by decide)) ⟨zB,O,zB,O,T⟩) O<|r_or O (fun h=>(lzf h))<|zA<|zE O (fun c1=>?_) (fun c1=>?_)
 ·try simp only [sx] at c1
  have hno:=name_short (s:=s) (by simpa using c1)
  refine Y O<|G O<|zA<|zG<|zV O ?_
  rw [hno]
 ·try simp only [sx] at c1
  obtain ⟨⟨n1,n2⟩,n3⟩:=c1
  have n1:1<=s.size:=by omega
  have n2:s.size<=16:=by omega
  have hne:=name_end n1 n2 n3
  refine zF<|zH<|Y O<|G O<|zA<|zT<|zU ⟨[(3,.c _),(0,.c _)],[]⟩ (Weak.mk [] ⟨zB,zB,T⟩ O)<|qJ 1 0 O O (Nat) (fun k=>[(3,vI k)]) (fun k=>[]) (fun k=>k<=s.size/\okTo s k=true) (fun k=>s.size-k) ⟨0,⟨by omega,O⟩,Weak.mk [] ⟨zB,zB,T⟩ O⟩ ?_
  rintro k ⟨hk,hp⟩
  refine zH<|Y O<|G O<|G O<|zR O (wP O un9 O)<|yB O<|zA<|zE O (fun c2=>?_) (fun c2=>?_)
  ·try simp only [sx] at c2
   have hlt:k<s.size:=by omega
   refine zF<|zH<|zT<|Y O<|G O<|G O<|zR O (zCq O un9 O O (by omega) (by omega))<|G O<|zA<|Y O<|G O<|zR O (wT O O O)<|G O<|rL0 O (fun g7_2=>zS O O) O<|rL1 30 O (fun g7_2=>zBb O O O) O<|wC O (fun h=>h)<|G O<|rL0 O (fun g7_6=>zS O O) O<|rL1 34 O (fun g7_6=>yU O O O) O<|rL1 35 O (fun g7_6=>zS O O) O<|rLz [] O gv2 T (fun g7_9=>zS O O) O<|rLz [(37,_)] O gv2 ⟨O,O,T⟩ (fun g7_9=>wT O O O) O<|rLz [(38,_)] O gv2 ⟨O,O,T⟩ (fun g7_9=>zS O O) O<|rLz [] O gv2 T (fun g7_12=>zS O O) O<|rLz [(40,_)] O gv2 ⟨O,O,T⟩ (fun g7_12=>zBb O O O) O<|rLz [(39,_)] O gv2 ⟨O,O,T⟩ (fun g7_9=>zCj O O O (fun h=>kU (by assumption) h) O) O<|rLz [(42,_)] O gv2 ⟨O,O,T⟩ (fun g7_9=>zS O O) O<|rLz [] O gv2 T (fun g7_16=>zS O O) O<|rLz [(44,_)] O gv2 ⟨O,O,T⟩ (fun g7_16=>kC O O O) O<|rLz [(43,_)] O gv2 ⟨O,O,T⟩ (fun g7_9=>zDh O O O O (fun h=>kU (by assumption) (lzf h))) O<|rL1 36 O (fun g7_6=>zCj O O O (fun h=>kU (by assumption) h) O) O<|r_or O (fun h=>(lzf h))<|wG O<|zA<|zE O (fun c3=>?_) (fun c3=>?_)
   ·have hbad:okTo s (k+1)=false:=by rw [okTo_next,show nameOk k (s.data.toList.getD k 0)=false from (Bool.not_eq_true' _).mp c3];simp
    refine Y O<|G O<|zA<|zG<|zV O ?_
    rw [hne];cases ho:okTo s s.size;rfl;exact absurd (okTo_le (k:=k+1) (by omega) ho) (by rw [hbad];simp)
   ·have hgood:okTo s (k+1)=true:=by rw [okTo_next,hp,show nameOk k (s.data.toList.getD k 0)=true from (Bool.not_eq_false' _).mp c3];rfl
    refine zF<|zP O<|G O<|qM O ⟨by omega,by omega⟩<|G O<|zA ?_
    refine ⟨k+1,⟨by omega,hgood⟩,(by omega),Weak.mk [] ⟨zB,zB,T⟩ O⟩
  ·try simp only [sx] at c2
   refine qP<|Y O<|G O<|zA<|zG<|zV O ?_
   rw [hne,show s.size=k by omega,hp]
theorem lin_reserved (s:ByteArray):
    Pur cfg 136 [vS s] (vB (hasB words s)):=by
 refine zW Tryz.func136 O Tryz.ntmps136 Tryz.results136 O ?_
 intro z hz
 refine Y O<|G O<|zA<|zH<|Y O<|G O<|zA<|zT<|zH<|Y O<|kY O<|G O<|zA<|zE O (fun c1=>?_) (fun c1=>?_)
 ·try simp only [sx] at c1
  refine zF<|zE O (fun c22=>?_) (fun c22=>?_)
  ·try simp only [sx] at c22
   refine Y O<|G O<|zA<|zG<|zV O ?_
   rw [kA (l:=words) (k:=0) rfl c1.symm]
  ·try simp only [sx] at c22
   refine zF<|Y O<|G O<|zA<|zG<|zV O ?_
   exact absurd c1 c22
 ·try simp only [sx] at c1
  refine Y O<|kY O<|G O<|zA<|zE O (fun c2=>?_) (fun c2=>?_)
  ·try simp only [sx] at c2
   refine zF<|zE O (fun c22=>?_) (fun c22=>?_)
   ·try simp only [sx] at c22
    refine Y O<|G O<|zA<|zG<|zV O ?_
    rw [kA (l:=words) (k:=1) rfl c2.symm]
   ·try simp only [sx] at c22
    refine zF<|Y O<|G O<|zA<|zG<|zV O ?_
    exact absurd c2 c22
  ·try simp only [sx] at c2
   refine Y O<|kY O<|G O<|zA<|zE O (fun c3=>?_) (fun c3=>?_)
   ·try simp only [sx] at c3
    refine zF<|zE O (fun c22=>?_) (fun c22=>?_)
    ·try simp only [sx] at c22
     refine Y O<|G O<|zA<|zG<|zV O ?_
     rw [kA (l:=words) (k:=2) rfl c3.symm]
    ·try simp only [sx] at c22
     refine zF<|Y O<|G O<|zA<|zG<|zV O ?_
     exact absurd c3 c22
   ·try simp only [sx] at c3
    refine Y O<|kY O<|G O<|zA<|zE O (fun c4=>?_) (fun c4=>?_)
    ·try simp only [sx] at c4
     refine zF<|zE O (fun c22=>?_) (fun c22=>?_)
     ·try simp only [sx] at c22
      refine Y O<|G O<|zA<|zG<|zV O ?_
      rw [kA (l:=words) (k:=3) rfl c4.symm]
     ·try simp only [sx] at c22
      refine zF<|Y O<|G O<|zA<|zG<|zV O ?_
      exact absurd c4 c22
    ·try simp only [sx] at c4
     refine Y O<|kY O<|G O<|zA<|zE O (fun c5=>?_) (fun c5=>?_)
     ·try simp only [sx] at c5
      refine zF<|zE O (fun c22=>?_) (fun c22=>?_)
      ·try simp only [sx] at c22
       refine Y O<|G O<|zA<|zG<|zV O ?_
       rw [kA (l:=words) (k:=4) rfl c5.symm]
      ·try simp only [sx] at c22
       refine zF<|Y O<|G O<|zA<|zG<|zV O ?_
       exact absurd c5 c22
     ·try simp only [sx] at c5
      refine Y O<|kY O<|G O<|zA<|zE O (fun c6=>?_) (fun c6=>?_)
      ·try simp only [sx] at c6
       refine zF<|zE O (fun c22=>?_) (fun c22=>?_)
       ·try simp only [sx] at c22
        refine Y O<|G O<|zA<|zG<|zV O ?_
        rw [kA (l:=words) (k:=5) rfl c6.symm]
       ·try simp only [sx] at c22
        refine zF<|Y O<|G O<|zA<|zG<|zV O ?_
        exact absurd c6 c22
      ·try simp only [sx] at c6
       refine Y O<|kY O<|G O<|zA<|zE O (fun c7=>?_) (fun c7=>?_)
       ·try simp only [sx] at c7
        refine zF<|zE O (fun c22=>?_) (fun c22=>?_)
        ·try simp only [sx] at c22
         refine Y O<|G O<|zA<|zG<|zV O ?_
         rw [kA (l:=words) (k:=6) rfl c7.symm]
        ·try simp only [sx] at c22
         refine zF<|Y O<|G O<|zA<|zG<|zV O ?_
         exact absurd c7 c22
       ·try simp only [sx] at c7
        refine Y O<|kY O<|G O<|zA<|zE O (fun c8=>?_) (fun c8=>?_)
        ·try simp only [sx] at c8
         refine zF<|zE O (fun c22=>?_) (fun c22=>?_)
         ·try simp only [sx] at c22
          refine Y O<|G O<|zA<|zG<|zV O ?_
          rw [kA (l:=words) (k:=7) rfl c8.symm]
         ·try simp only [sx] at c22
          refine zF<|Y O<|G O<|zA<|zG<|zV O ?_
          exact absurd c8 c22
        ·try simp only [sx] at c8
         refine Y O<|kY O<|G O<|zA<|zE O (fun c9=>?_) (fun c9=>?_)
         ·try simp only [sx] at c9
          refine zF<|zE O (fun c22=>?_) (fun c22=>?_)
          ·try simp only [sx] at c22
           refine Y O<|G O<|zA<|zG<|zV O ?_
           rw [kA (l:=words) (k:=8) rfl c9.symm]
          ·try simp only [sx] at c22
           refine zF<|Y O<|G O<|zA<|zG<|zV O ?_
           exact absurd c9 c22
         ·try simp only [sx] at c9
          refine Y O<|kY O<|G O<|zA<|zE O (fun c10=>?_) (fun c10=>?_)
          ·try simp only [sx] at c10
           refine zF<|zE O (fun c22=>?_) (fun c22=>?_)
           ·try simp only [sx] at c22
            refine Y O<|G O<|zA<|zG<|zV O ?_
            rw [kA (l:=words) (k:=9) rfl c10.symm]
           ·try simp only [sx] at c22
            refine zF<|Y O<|G O<|zA<|zG<|zV O ?_
            exact absurd c10 c22
          ·try simp only [sx] at c10
           refine Y O<|kY O<|G O<|zA<|zE O (fun c11=>?_) (fun c11=>?_)
           ·try simp only [sx] at c11
            refine zF<|zE O (fun c22=>?_) (fun c22=>?_)
            ·try simp only [sx] at c22
             refine Y O<|G O<|zA<|zG<|zV O ?_
             rw [kA (l:=words) (k:=10) rfl c11.symm]
            ·try simp only [sx] at c22
             refine zF<|Y O<|G O<|zA<|zG<|zV O ?_
             exact absurd c11 c22
           ·try simp only [sx] at c11
            refine Y O<|kY O<|G O<|zA<|zE O (fun c12=>?_) (fun c12=>?_)
            ·try simp only [sx] at c12
             refine zF<|zE O (fun c22=>?_) (fun c22=>?_)
             ·try simp only [sx] at c22
              refine Y O<|G O<|zA<|zG<|zV O ?_
              rw [kA (l:=words) (k:=11) rfl c12.symm]
             ·try simp only [sx] at c22
              refine zF<|Y O<|G O<|zA<|zG<|zV O ?_
              exact absurd c12 c22
            ·try simp only [sx] at c12
             refine Y O<|kY O<|G O<|zA<|zE O (fun c13=>?_) (fun c13=>?_)
             ·try simp only [sx] at c13
              refine zF<|zE O (fun c22=>?_) (fun c22=>?_)
              ·try simp only [sx] at c22
               refine Y O<|G O<|zA<|zG<|zV O ?_
               rw [kA (l:=words) (k:=12) rfl c13.symm]
              ·try simp only [sx] at c22
               refine zF<|Y O<|G O<|zA<|zG<|zV O ?_
               exact absurd c13 c22
             ·try simp only [sx] at c13
              refine Y O<|kY O<|G O<|zA<|zE O (fun c14=>?_) (fun c14=>?_)
              ·try simp only [sx] at c14
               refine zF<|zE O (fun c22=>?_) (fun c22=>?_)
               ·try simp only [sx] at c22
                refine Y O<|G O<|zA<|zG<|zV O ?_
                rw [kA (l:=words) (k:=13) rfl c14.symm]
               ·try simp only [sx] at c22
                refine zF<|Y O<|G O<|zA<|zG<|zV O ?_
                exact absurd c14 c22
              ·try simp only [sx] at c14
               refine Y O<|kY O<|G O<|zA<|zE O (fun c15=>?_) (fun c15=>?_)
               ·try simp only [sx] at c15
                refine zF<|zE O (fun c22=>?_) (fun c22=>?_)
                ·try simp only [sx] at c22
                 refine Y O<|G O<|zA<|zG<|zV O ?_
                 rw [kA (l:=words) (k:=14) rfl c15.symm]
                ·try simp only [sx] at c22
                 refine zF<|Y O<|G O<|zA<|zG<|zV O ?_
                 exact absurd c15 c22
               ·try simp only [sx] at c15
                refine Y O<|kY O<|G O<|zA<|zE O (fun c16=>?_) (fun c16=>?_)
                ·try simp only [sx] at c16
                 refine zF<|zE O (fun c22=>?_) (fun c22=>?_)
                 ·try simp only [sx] at c22
                  refine Y O<|G O<|zA<|zG<|zV O ?_
                  rw [kA (l:=words) (k:=15) rfl c16.symm]
                 ·try simp only [sx] at c22
                  refine zF<|Y O<|G O<|zA<|zG<|zV O ?_
                  exact absurd c16 c22
                ·try simp only [sx] at c16
                 refine Y O<|kY O<|G O<|zA<|zE O (fun c17=>?_) (fun c17=>?_)
                 ·try simp only [sx] at c17
                  refine zF<|zE O (fun c22=>?_) (fun c22=>?_)
                  ·try simp only [sx] at c22
                   refine Y O<|G O<|zA<|zG<|zV O ?_
                   rw [kA (l:=words) (k:=16) rfl c17.symm]
                  ·try simp only [sx] at c22
                   refine zF<|Y O<|G O<|zA<|zG<|zV O ?_
                   exact absurd c17 c22
                 ·try simp only [sx] at c17
                  refine Y O<|kY O<|G O<|zA<|zE O (fun c18=>?_) (fun c18=>?_)
                  ·try simp only [sx] at c18
                   refine zF<|zE O (fun c22=>?_) (fun c22=>?_)
                   ·try simp only [sx] at c22
                    refine Y O<|G O<|zA<|zG<|zV O ?_
                    rw [kA (l:=words) (k:=17) rfl c18.symm]
                   ·try simp only [sx] at c22
                    refine zF<|Y O<|G O<|zA<|zG<|zV O ?_
                    exact absurd c18 c22
                  ·try simp only [sx] at c18
                   refine Y O<|kY O<|G O<|zA<|zE O (fun c19=>?_) (fun c19=>?_)
                   ·try simp only [sx] at c19
                    refine zF<|zE O (fun c22=>?_) (fun c22=>?_)
                    ·try simp only [sx] at c22
                     refine Y O<|G O<|zA<|zG<|zV O ?_
                     rw [kA (l:=words) (k:=18) rfl c19.symm]
                    ·try simp only [sx] at c22
                     refine zF<|Y O<|G O<|zA<|zG<|zV O ?_
                     exact absurd c19 c22
                   ·try simp only [sx] at c19
                    refine Y O<|kY O<|G O<|zA<|zE O (fun c20=>?_) (fun c20=>?_)
                    ·try simp only [sx] at c20
                     refine zF<|zE O (fun c22=>?_) (fun c22=>?_)
                     ·try simp only [sx] at c22
                      refine Y O<|G O<|zA<|zG<|zV O ?_
                      rw [kA (l:=words) (k:=19) rfl c20.symm]
                     ·try simp only [sx] at c22
                      refine zF<|Y O<|G O<|zA<|zG<|zV O ?_
                      exact absurd c20 c22
                    ·try simp only [sx] at c20
                     refine Y O<|kY O<|G O<|zA<|zE O (fun c21=>?_) (fun c21=>?_)
                     ·try simp only [sx] at c21
                      refine zF<|zE O (fun c22=>?_) (fun c22=>?_)
                      ·try simp only [sx] at c22
                       refine Y O<|G O<|zA<|zG<|zV O ?_
                       rw [kA (l:=words) (k:=20) rfl c21.symm]
                      ·try simp only [sx] at c22
                       refine zF<|Y O<|G O<|zA<|zG<|zV O ?_
                       exact absurd c21 c22
                     ·try simp only [sx] at c21
                      refine zP O<|kY O<|G O<|zA<|zE O (fun c22=>?_) (fun c22=>?_)
                      ·try simp only [sx] at c22
                       refine Y O<|G O<|zA<|zG<|zV O ?_
                       rw [kA (l:=words) (k:=21) rfl c22.symm]
                      ·try simp only [sx] at c22
                       refine zF<|Y O<|G O<|zA<|zG<|zV O ?_
                       rw [show hasB words s=false by
                         simp only [hasB,words,List.any_cons,List.any_nil,Bool.or_eq_false_iff,decide_eq_false_iff_not]
                         exact ⟨fun h=>c1 h.symm,fun h=>c2 h.symm,fun h=>c3 h.symm,fun h=>c4 h.symm,fun h=>c5 h.symm,fun h=>c6 h.symm,fun h=>c7 h.symm,fun h=>c8 h.symm,fun h=>c9 h.symm,fun h=>c10 h.symm,fun h=>c11 h.symm,fun h=>c12 h.symm,fun h=>c13 h.symm,fun h=>c14 h.symm,fun h=>c15 h.symm,fun h=>c16 h.symm,fun h=>c17 h.symm,fun h=>c18 h.symm,fun h=>c19 h.symm,fun h=>c20 h.symm,fun h=>c21 h.symm,fun h=>c22 h.symm,T⟩]
theorem zEy (s:ByteArray):
    Pur cfg 73 [vS s] (vB (isNameB s)):=by
 refine zW Tryz.func73 O Tryz.ntmps73 Tryz.results73 O ?_
 intro z hz
 refine Y O<|G O<|zA<|zH<|Y O<|G O<|zR O (wP O un9 O)<|yB O<|G O<|rL0 O (fun g1_3=>zS O O) O<|rL1 9 O (fun g1_3=>wP O un9 O) O<|rL1 10 O (fun g1_3=>yU O O O) O<|r_or O (fun h=>(lzf h))<|G O<|rL0 O (fun g1_8=>zS O O) O<|rL1 14 O (fun g1_8=>qR O ok136 (lin_reserved _) ⟨zB,O,T⟩) O<|r_or O (fun h=>(lzf h))<|G O<|rL0 O (fun g1_12=>zS O O) O<|rL1 18 O (fun g1_12=>zCq O un9 O O (by decide) (by simp only [Lz,cond_true,cond_false,Bool.and_eq_true,Bool.or_eq_true,Bool.not_eq_true',Bool.not_eq_false',Bool.or_eq_false_iff,Bool.and_eq_false_iff,decide_eq_true_eq,decide_eq_false_iff_not,Bool.not_eq_true,Bool.not_eq_false] at g1_12;omega)) O<|rL1 19 O (fun g1_12=>zGd O O O) O<|r_or O (fun h=>(lzf h))<|G O<|rL0 O (fun g1_17=>zS O O) O<|rL1 23 O (fun g1_17=>zCq O un9 O O (by decide) (by simp only [Lz,cond_true,cond_false,Bool.and_eq_true,Bool.or_eq_true,Bool.not_eq_true',Bool.not_eq_false',Bool.or_eq_false_iff,Bool.and_eq_false_iff,decide_eq_true_eq,decide_eq_false_iff_not,Bool.not_eq_true,Bool.not_eq_false] at g1_17;omega)) O<|rL1 24 O (fun g1_17=>yU O O O) O<|r_or O (fun h=>(lzf h))<|zA<|zE O (fun c1=>?_) (fun c1=>?_)
 ·have hno:=ident_no c1
  refine Y O<|G O<|zA<|zG<|zV O ?_
  rw [hno]
 ·obtain ⟨n1,n2,hne⟩:=ident_yes c1
  refine zF<|zH<|Y O<|G O<|zR O (wP O un9 O)<|G O<|zA<|zT<|zU ⟨[(29,.c _),(0,.c _),(28,.c _)],[]⟩ (Weak.mk [] ⟨zB,zB,zB,T⟩ O)<|qJ 1 0 O O (Nat) (fun k=>[(29,vI k)]) (fun k=>[]) (fun k=>k<=s.size/\(s.data.toList.take k).all inWordB=true) (fun k=>s.size-k) ⟨0,⟨by omega,O⟩,Weak.mk [] ⟨zB,zB,zB,T⟩ O⟩ ?_
  rintro k ⟨hk,hp⟩
  refine Y O<|yB O<|zA<|zH<|zE O (fun c2=>?_) (fun c2=>?_)
  ·try simp only [sx] at c2
   have hlt:k<s.size:=by omega
   refine zF<|zH<|zT<|Y O<|G O<|G O<|zA<|Y O<|G O<|G O<|zR O (zCq O un9 O O (by omega) (by omega))<|G O<|zA<|Y O<|G O<|yB O<|G O<|rL0 O (fun g7_2=>zS O O) O<|rL1 38 O (fun g7_2=>yU O O O) O<|r_or O (fun h=>(lzf h))<|G O<|rL0 O (fun g7_6=>zS O O) O<|rL1 42 O (fun g7_6=>zGd O O O) O<|rL1 43 O (fun g7_6=>zS O O) O<|rLz [] O gv2 T (fun g7_9=>zS O O) O<|rLz [(45,_)] O gv2 ⟨O,O,T⟩ (fun g7_9=>yU O O O) O<|rL1 44 O (fun g7_6=>zDh O O O O (fun h=>kU (by assumption) (lzf h))) O<|wC O (fun h=>h)<|G O<|rL0 O (fun g7_14=>zS O O) O<|rL1 50 O (fun g7_14=>zBa O O O) O<|wC O (fun h=>h)<|zA<|zE O (fun c3=>?_) (fun c3=>?_)
   ·have hbad:=word_no hlt c3
    refine Y O<|G O<|zA<|zG<|zV O ?_
    rw [hne,hbad]
   ·have hgood:=word_yes hlt hp c3
    refine zF<|zP O<|qM O ⟨by omega,by omega⟩<|G O<|zA ?_
    refine ⟨k+1,⟨by omega,hgood⟩,(by omega),Weak.mk [] ⟨zB,zB,zB,T⟩ O⟩
  ·try simp only [sx] at c2
   refine qP<|Y O<|G O<|zA<|zG<|zV O ?_
   rw [hne,word_all hp (by omega)]
theorem wW (l:Lf) (hl:l.L.length<=6000000000000):
    Pur cfg 122 [vLin l] (vI (linErr l)):=by
 refine zW Tryz.func122 O Tryz.ntmps122 Tryz.results122 O ?_
 intro z hz
 refine Y O<|zZ O O (qO O O) ?_
 rintro _ _ ⟨b1,rfl,rfl⟩
 refine G O<|zA<|zH<|Y O<|zD O zAe<|zI zEg (J 0 O) O<|qB O U<|G O<|zA<|zT<|zU ⟨[(8,.c _),(1,.c _),(6,.c _),(7,.c _)],[_]⟩ (Weak.mk [true] ⟨zB,zB,zB,zB,T⟩ O)<|qJ 1 0 O O (Nat) (fun k=>[(8,vI k)]) (fun k=>[]) (fun k=>k<=l.L.length/\(linOk l=monosOk (prevOf l.L k) (l.L.drop k))) (fun k=>l.L.length-k) ⟨0,⟨by omega,O⟩,Weak.mk [true] ⟨zB,zB,zB,zB,T⟩ O⟩ ?_
 rintro k ⟨hk,hp⟩
 refine Y O<|yB O<|zA<|zH<|zE O (fun c1=>?_) (fun c1=>?_)
 ·try simp only [sx] at c1
  obtain ⟨x,hx⟩:=yD l.L k (by omega)
  refine zF<|zH<|zT<|Y O<|G O<|qD O U (by omega) (getm (by assumption))<|zM zEf qH O<|zZ O O (qX O zEr) ?_
  rintro _ _ ⟨b2,rfl,rfl⟩
  refine G O<|D 0 sz139 O<|zA<|zH<|yL 25 mixed (by kernel_rfl) O O<|zQ O O (zJ O wS O)<|zQ O O (zK O one9 O (J 0 O) O)<|zQ O O (qR O ok73 (zEy _) ⟨zB,O,T⟩)<|zQ O O (zAz O O)<|zQ O O (zS O O)<|qQ [] O O O O gv1 T (fun g4_4=>zJ O zEb O) O<|qQ [(18,_)] O O O O gv1 ⟨O,O,T⟩ (fun g4_4=>zK O one2 O (J 0 O) O) O<|qQ [(19,_)] O O O O gv1 ⟨O,O,T⟩ (fun g4_4=>kC O O O) O<|zQ O O (zDh O O O O (fun h=>(lzf h)))<|zQ O O (zS O O)<|qQ [] O O O O gv1 T (fun g4_9=>zS O O) O<|qQ [(23,_)] O O O O gv1 ⟨O,O,T⟩ (fun g4_9=>yU O O O) O<|qQ [(24,_)] O O O O gv1 ⟨O,O,T⟩ (fun g4_9=>zS O O) O<|qQ [] O O O O gv2 T (fun g4_12=>zJ O zAe O) O<|qQ [(26,_)] O O O O gv2 ⟨O,O,T⟩ (fun g4_12=>zK O zEg O (J 1 O) O) O<|qQ [] O O O O gv2 T (fun g4_12=>zS O O) O<|qQ [(28,_)] O O O O gv2 ⟨O,O,T⟩ (fun g4_12=>yO O O O ⟨by omega,by omega⟩) O<|qQ [(27,_),(29,_)] O O O O gv2 ⟨O,O,O,O,T⟩ (fun g4_12=>qU O U O O (by simp only [Lz,cond_true,cond_false,Bool.and_eq_true,Bool.or_eq_true,Bool.not_eq_true',Bool.not_eq_false',Bool.or_eq_false_iff,Bool.and_eq_false_iff,decide_eq_true_eq,decide_eq_false_iff_not,Bool.not_eq_true,Bool.not_eq_false] at g4_12;omega) (pv_get (by simp only [Lz,cond_true,cond_false,Bool.and_eq_true,Bool.or_eq_true,Bool.not_eq_true',Bool.not_eq_false',Bool.or_eq_false_iff,Bool.and_eq_false_iff,decide_eq_true_eq,decide_eq_false_iff_not,Bool.not_eq_true,Bool.not_eq_false] at g4_12;omega) (by omega))) O<|qQ [(30,_)] O O O O gv2 ⟨O,O,T⟩ (fun g4_12=>qI O wS O) O<|qQ [(31,_)] O O O O gv2 ⟨O,O,T⟩ (fun g4_12=>zK O one9 O qH O) O<|qQ [] O O O O gv2 T (fun g4_12=>zJ O wS O) O<|qQ [(33,_)] O O O O gv2 ⟨O,O,T⟩ (fun g4_12=>zK O one9 O (J 0 O) O) O<|qQ [(32,_),(34,_)] O O O O gv2 ⟨O,O,O,O,T⟩ (fun g4_12=>det_sgeq O O O) O<|qQ [(25,_)] O O O O gv1 ⟨O,O,T⟩ (fun g4_9=>zCj O O O (fun h=>kU (by assumption) h) O) O<|zQ O O (zDh O O O O (fun h=>(lzf h)))<|kL<|zA<|zE O (fun c2=>?_) (fun c2=>?_)
  ·refine Y O<|G O<|zA<|zG<|zV O ?_
   rw [linErr,hp,monos_step hx,show badM l.L k x=true from c2];rfl
  ·refine zF<|zP O<|qM O ⟨by omega,by omega⟩<|G O<|zA ?_
   refine ⟨k+1,⟨by omega,by rw [hp,monos_step hx,show badM l.L k x=false from c2];rfl⟩,(by omega),Weak.mk [false,true] ⟨zB,zB,zB,zB,T⟩ O⟩
 ·try simp only [sx] at c1
  refine qP<|Y O<|G O<|zA<|zG<|zV O ?_
  rw [linErr,hp,monos_end (by omega)];rfl
theorem lin_Var (s:ByteArray):
    Pur cfg 31 [vS s] (vLin (varL s)):=by
 refine zW Tryz.func31 O Tryz.ntmps31 Tryz.results31 O ?_
 intro z hz
 refine Y O<|zZ O O (qF [none,some 2] O W O) ?_
 rintro _ _ ⟨b1,rfl,rfl⟩
 refine zA<|zH<|Y O<|G O<|qK O ok73 (zEy _) ⟨zB,O,T⟩<|wG O<|zA<|zE O (fun c1=>?_) (fun c1=>?_)
 ·try simp only [sx] at c1
  refine Y O<|yY [none,some 2] O W pl59<|D 0 sz59 O<|zA<|zG<|fin1 (zY kE O (J 0 O) O) ?_
  rw [varL,c1];rfl
 ·try simp only [sx] at c1
  refine zF<|Y O<|G O<|yF O zEr pl139<|zR O (qS O U zEr O O O O)<|yF O W pl59<|D 0 sz59 O<|zA<|zG<|fin1 (zY kE O (J 0 O) O) ?_
  rw [varL,c1];rfl
theorem lin_Const (k:Int):
    Pur cfg 28 [vI k] (vLin ⟨k,[]⟩):=by
 refine zW Tryz.func28 O Tryz.ntmps28 Tryz.results28 O ?_
 intro z hz
 refine Y O<|zZ O O (qF [none,some 2] O W O) ?_
 rintro _ _ ⟨b1,rfl,rfl⟩
 refine zA<|Y O<|G O<|yY [none,some 2] O W pl59<|D 0 sz59 O<|zA<|zG<|fin1 (zY kE O (J 0 O) O) ?_
 exact O
theorem zGq (s:ByteArray):
    Pur cfg 52 [vS s] (vLin (varL s)):=by
 refine zW Tryz.func52 O Tryz.ntmps52 Tryz.results52 O ?_
 intro z hz
 refine Y O<|zZ O O (qF [none,some 2] O W O) ?_
 rintro _ _ ⟨b1,rfl,rfl⟩
 refine zA<|zH<|Y O<|G O<|qK O ok20 (base_Name _) ⟨zB,O,T⟩<|wG O<|zA<|zE O (fun c1=>?_) (fun c1=>?_)
 ·try simp only [sx] at c1
  refine Y O<|yY [none,some 2] O W pl59<|D 0 sz59 O<|zA<|zG<|fin1 (zY kE O (J 0 O) O) ?_
  rw [varL,c1];rfl
 ·try simp only [sx] at c1
  refine zF<|Y O<|G O<|yF O zEr pl139<|zR O (qS O U zEr O O O O)<|yF O W pl59<|D 0 sz59 O<|zA<|zG<|fin1 (zY kE O (J 0 O) O) ?_
  rw [varL,c1];rfl
theorem zJi (l:List Ix) (c:C) (p:Ix->Bool) (hl:l.length<=6000000000000) (hc:∀x,x∈l->FnPur cfg c [vIndex x] (vB (p x))):
    Pur cfg 303 [vIndices l,.c c] (vI (idxOf p l)):=by
 refine zW Tryz.func303 O Tryz.ntmps303 Tryz.results303 O ?_
 intro z hz
 refine Y O<|G O<|zA<|zH<|Y O<|G O<|qB O el52<|G O<|zA<|zT<|zU ⟨[(8,.c _),(0,.c _),(1,.c _),(7,.c _)],[]⟩ (Weak.mk [] ⟨zB,zB,zB,zB,T⟩ O)<|qJ 1 0 O O (Nat) (fun k=>[(8,vI k)]) (fun k=>[]) (fun k=>k<=l.length/\((l.take k).any p=false)) (fun k=>l.length-k) ⟨0,⟨by omega,O⟩,Weak.mk [] ⟨zB,zB,zB,zB,T⟩ O⟩ ?_
 rintro k ⟨hk,hp⟩
 refine Y O<|yB O<|zA<|zH<|zE O (fun c1=>?_) (fun c1=>?_)
 ·try simp only [sx] at c1
  obtain ⟨x,hx⟩:=yD l k (by omega)
  refine zF<|zH<|zT<|Y O<|G O<|G O<|zA<|Y O<|G O<|G O<|G O<|qD O el52 (by omega) (getm (by assumption))<|zM zLp qH O<|zR O (kP O O (hc _ (qC hx)) ⟨zB,O,T⟩)<|zA<|zE O (fun c2=>?_) (fun c2=>?_)
  ·exact v23
  ·exact n4
 ·exact j4
theorem zAo (l:List Ix) (c:C) (p:Ix->Bool) (hl:l.length<=6000000000000) (hc:∀x,x∈l->FnPur cfg c [vIndex x] (vB (p x))):
    Pur cfg 285 [vIndices l,.c c] (vB (l.any p)):=by
 refine zW Tryz.func285 O Tryz.ntmps285 Tryz.results285 O ?_
 intro z hz
 refine Y O<|G O<|zA<|Y O<|G O<|G O<|qK O ok303 (zJi l c p hl hc) ⟨zB,O,zB,O,T⟩<|zR O (wT O O O)<|G O<|zA<|zG<|zV O ?_
 rw [zKs]
end Go.W
