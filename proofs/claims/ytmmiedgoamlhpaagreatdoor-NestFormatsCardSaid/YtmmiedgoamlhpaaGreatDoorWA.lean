/-
  Walks: what functions of the program compute. Printed by wip/gen/mk2.py.
  Conditions: none.
-/
import Derived.Test.YtmmiedgoamlhpaaGreatDoorFacts
import Derived.Test.YtmmiedgoamlhpaaGreatDoorPlain
set_option linter.unusedSimpArgs false
set_option linter.unusedVariables false
set_option maxRecDepth 10000
namespace Go.W
open Go Go.Eng Go.Proofs Go.L41 Go.Br
attribute [local irreducible] AWP RWP TD finQ
theorem kw_ascii:∀(j:Nat) (b:UInt8),(bs kwBytes).data.toList[j]? =some b->b.toNat<128:=by
  intro j b h
  have:(kwBytes.all fun c=>decide (c.toNat<128))=true:=by decide
  rw [List.all_eq_true] at this
  simpa using this b (List.mem_of_getElem? h)
theorem kw_fields:(Lib.fields kwBytes).map bs=words:=by decide+kernel
theorem nm1 {s:ByteArray} (h:Lz (!decide (s=bs [])&&decide ((s.size:Int)<=16)) true=true):¬s=bs []:=by
  simp only [Lz,cond_true,Bool.and_eq_true,Bool.not_eq_true',decide_eq_false_iff_not] at h
  exact h.1
theorem nm2 {s:ByteArray} {p:Bool} (h:Lz (!decide (s=bs [])&&decide ((s.size:Int)<=16)&&p) true=true):s.size<=1000000:=by
  simp only [Lz,cond_true,Bool.and_eq_true,decide_eq_true_eq] at h
  omega
theorem zTq:aggT Tryz.prog 98=some 2:=by kernel_rfl
theorem zDf:aggT Tryz.prog 104=some 4:=by kernel_rfl
theorem el99:elemT Tryz.prog 99=some (98,2,24):=by kernel_rfl
theorem kO:elemT Tryz.prog 105=some (104,4,72):=by kernel_rfl
theorem zBz:elemT Tryz.prog 123=some (9,1,16):=by kernel_rfl
theorem zEb:fieldT Tryz.prog 98 0=some (0,9):=by kernel_rfl
theorem fd98_1:fieldT Tryz.prog 98 1=some (1,2):=by kernel_rfl
theorem zCt:fieldT Tryz.prog 101 0=some (0,2):=by kernel_rfl
theorem kT:fieldT Tryz.prog 101 1=some (1,99):=by kernel_rfl
theorem fl98:flatK Tryz.prog 98=some [.str,.int]:=by kernel_rfl
theorem ik21:intT Tryz.prog 21=some .i32:=by kernel_rfl
theorem mixed:Tryz.prog.follows .mixedOrders=true:=by kernel_rfl
theorem ok93:callOk Tryz.prog 93=true:=by kernel_rfl
theorem ok141:callOk Tryz.prog 141=true:=by kernel_rfl
theorem ok142:callOk Tryz.prog 142=true:=by kernel_rfl
theorem ok185:callOk Tryz.prog 185=true:=by kernel_rfl
theorem ok186:callOk Tryz.prog 186=true:=by kernel_rfl
theorem ok187:callOk Tryz.prog 187=true:=by kernel_rfl
theorem ok188:callOk Tryz.prog 188=true:=by kernel_rfl
theorem ok250:callOk Tryz.prog 250=true:=by kernel_rfl
theorem ok251:callOk Tryz.prog 251=true:=by kernel_rfl
theorem ok252:callOk Tryz.prog 252=true:=by kernel_rfl
theorem ok309:callOk Tryz.prog 309=true:=by kernel_rfl
theorem ok310:callOk Tryz.prog 310=true:=by kernel_rfl
theorem ok340:callOk Tryz.prog 340=true:=by kernel_rfl
theorem ok365:callOk Tryz.prog 365=true:=by kernel_rfl
theorem ok366:callOk Tryz.prog 366=true:=by kernel_rfl
theorem ok377:callOk Tryz.prog 377=true:=by kernel_rfl
theorem r:oneT Tryz.prog 2=true:=by kernel_rfl
theorem one9:oneT Tryz.prog 9=true:=by kernel_rfl
theorem zBp:oneT Tryz.prog 99=true:=by kernel_rfl
theorem sz98:(Tryz.prog.info? 98).map (·.size)=some 2:=by kernel_rfl
theorem un9:Tryz.prog.underlying 9=some .string:=by kernel_rfl
theorem us5:(Tryz.prog.underlying 5).isSome=true:=by kernel_rfl
theorem zr9:zeroT Tryz.prog 9=some [(Value.string (ByteArray.mk #[]))]:=by kernel_rfl
theorem zr98:zeroT Tryz.prog 98=some [(Value.string (ByteArray.mk #[])),(Value.int IntKind.i64 0)]:=by kernel_rfl
theorem zOj (n:Int):
    Pur cfg 185 [vR n] (vB (letterI n)):=by
 refine zS Tryz.func185 O Tryz.ntmps185 Tryz.results185 O ?_
 intro z hz
 refine A O<|G O<|R<|A O<|G O<|zT O (wO O O O)<|G O<|rL0 O (fun g1_2=>zP O O) O<|rL1 6 O (fun g1_2=>zAa O O O) O<|yZ O (fun h=>h)<|G O<|R<|zF<|zQ O ?_
 exact O
theorem lexer_digit (n:Int):
    Pur cfg 250 [vR n] (vB (digitI n)):=by
 refine zS Tryz.func250 O Tryz.ntmps250 Tryz.results250 O ?_
 intro z hz
 refine A O<|G O<|R<|A O<|G O<|zT O (wO O O O)<|G O<|rL0 O (fun g1_2=>zP O O) O<|rL1 6 O (fun g1_2=>zAa O O O) O<|yZ O (fun h=>h)<|G O<|R<|zF<|zQ O ?_
 exact O
theorem lexer_inWord (n:Int):
    Pur cfg 187 [vR n] (vB (inWordI n)):=by
 refine zS Tryz.func187 O Tryz.ntmps187 Tryz.results187 O ?_
 intro z hz
 refine A O<|G O<|R<|A O<|G O<|qK O ok185 (zOj _) ⟨Y,O,T⟩<|G O<|rL0 O (fun g1_2=>zP O O) O<|rL1 6 O (fun g1_2=>qC O ok250 (lexer_digit _) ⟨Y,O,T⟩) O<|r_or O (fun h=>(lzf h))<|G O<|rL0 O (fun g1_6=>zP O O) O<|rL1 10 O (fun g1_6=>kB O O O) O<|r_or O (fun h=>(lzf h))<|G O<|R<|zF<|zQ O ?_
 exact O
theorem zNm (s:ByteArray) (hs:s.size<=1000000):
    Pur cfg 186 [vS s,.c (.fn (.func 187) [] [])] (vI (spanB inWordB s.data.toList)):=by
 refine zS Tryz.func186 O Tryz.ntmps186 Tryz.results186 O ?_
 intro z hz
 refine A O<|G O<|R<|A O<|G O<|R<|zK<|zR<|zX ⟨[(5,.c _),(0,.c _),(1,.c _)],[]⟩ (Weak.mk [] ⟨Y,Y,Y,T⟩ O)<|qG 1 0 O O (Nat) (fun k=>[(5,vI k)]) (fun k=>[]) (fun k=>k<=s.size/\(s.data.toList.take k).all inWordB=true) (fun k=>s.size-k) ⟨0,⟨by omega,O⟩,Weak.mk [] ⟨Y,Y,Y,T⟩ O⟩ ?_
 rintro k ⟨hk,hp⟩
 refine zK<|A O<|G O<|G O<|zT O (kS O un9 O)<|yJ O<|G O<|rL0 O (fun g2_4=>zP O O) O<|rL0 O (fun g2_4=>zP O O) O<|rL0 O (fun g2_4=>zP O O) O<|rLz [(12,_),(13,_)] O gv1 ⟨O,O,O,O,T⟩ (fun g2_4=>zDn O un9 O O (by omega) (by simp only [Lz,cond_true,decide_eq_true_eq] at g2_4;omega)) O<|rL1 14 O (fun g2_4=>wK O us5 ik21 O) O<|rLz [(11,_),(15,_)] O gv1 ⟨O,O,O,O,T⟩ (fun g2_4=>det_call_fn0 O O ok187 (lexer_inWord _) ⟨Y,O,T⟩) O<|yZ O (fun h=>h)<|R<|zC O (fun c1=>?_) (fun c1=>?_)
 ·try simp only [sx] at c1
  obtain ⟨hlt,hcc⟩:=c1
  have hlt:k<s.size:=by omega
  rw [zKn] at hcc
  refine zI<|zR<|zN O<|G O<|qI O ⟨by omega,by omega⟩<|G O<|R ?_
  have hg:=zDr hlt
  refine ⟨k+1,⟨by omega,by rw [zMw hg,hp];exact hcc⟩,(by omega),Weak.mk [] ⟨Y,Y,Y,T⟩ O⟩
 ·try simp only [sx] at c1
  have hsp:spanB inWordB s.data.toList=k:=span_stop hp (by
    by_cases hlt:k<s.size
    · right;refine ⟨_,zDr hlt,?_⟩;rcases c1 with c1|c1;omega;rw [zKn] at c1;exact c1
    · left;simp;omega)
  refine qP<|A O<|G O<|G O<|R<|zF<|zQ O ?_
  rw [hsp]
theorem zOr (l:List ByteArray) (s:ByteArray) (hl:l.length<=6000000000000):
    Pur cfg 309 [vSs l,vS s] (vI (idxB l s)):=by
 refine zS Tryz.func309 O Tryz.ntmps309 Tryz.results309 O ?_
 intro z hz
 refine A O<|G O<|R<|zK<|A O<|G O<|zZ O zBz<|G O<|R<|zR<|zX ⟨[(8,.c _),(0,.c _),(1,.c _),(7,.c _)],[]⟩ (Weak.mk [] ⟨Y,Y,Y,Y,T⟩ O)<|qG 1 0 O O (Nat) (fun k=>[(8,vI k)]) (fun k=>[]) (fun k=>k<=l.length/\hasB (l.take k) s=false) (fun k=>l.length-k) ⟨0,⟨by omega,O⟩,Weak.mk [] ⟨Y,Y,Y,Y,T⟩ O⟩ ?_
 rintro k ⟨hk,hp⟩
 refine A O<|yJ O<|R<|zK<|zC O (fun c1=>?_) (fun c1=>?_)
 ·try simp only [sx] at c1
  obtain ⟨t,ht⟩:=qY l k (by omega)
  refine zI<|zK<|zR<|A O<|G O<|G O<|R<|A O<|G O<|G O<|G O<|qE O zBz (by omega) (getm ht)<|zM one9 qA O<|wF O<|R<|zC O (fun c2=>?_) (fun c2=>?_)
  ·try simp only [sx] at c2
   refine A O<|G O<|G O<|R<|zF<|zQ O ?_
   rw [idxB_some ht c2 hp]
  ·try simp only [sx] at c2
   refine zI<|zN O<|qI O ⟨by omega,by omega⟩<|G O<|R ?_
   refine ⟨k+1,⟨by omega,zOl ht hp (fun e=>c2 e.symm)⟩,(by omega),Weak.mk [] ⟨Y,Y,Y,Y,T⟩ O⟩
 ·try simp only [sx] at c1
  refine qP<|A O<|G O<|R<|zF<|zQ O ?_
  rw [idxB_none (by rw [yE (by omega)] at hp;exact hp)]
theorem zCp (l:List ByteArray) (s:ByteArray) (hl:l.length<=6000000000000):
    Pur cfg 251 [vSs l,vS s] (vB (hasB l s)):=by
 refine zS Tryz.func251 O Tryz.ntmps251 Tryz.results251 O ?_
 intro z hz
 refine A O<|G O<|R<|A O<|G O<|G O<|qK O ok309 (zOr l s hl) ⟨Y,O,Y,O,T⟩<|zT O (wO O O O)<|G O<|R<|zF<|zQ O ?_
 rw [idxB_has]
theorem lexer_keywords  :
    Pur cfg 252 [] (vSs words):=by
 refine zS Tryz.func252 O Tryz.ntmps252 Tryz.results252 O ?_
 intro z hz
 refine A O<|zT O (kE 1 O O)<|R<|A O<|qK O ok310 (strings_Fields _ (by decide) kw_ascii) ⟨Y,O,T⟩<|G O<|R<|zF<|zQ O ?_
 exact congrArg vSs kw_fields
theorem zSn (s:ByteArray):
    Pur cfg 188 [vS s] (vB (hasB words s)):=by
 refine zS Tryz.func188 O Tryz.ntmps188 Tryz.results188 O ?_
 intro z hz
 refine A O<|G O<|R<|A O<|qK O ok252 (lexer_keywords) T<|G O<|qK O ok251 (zCp _ _ (by decide)) ⟨Y,O,Y,O,T⟩<|G O<|R<|zF<|zQ O ?_
 exact O
theorem zDw (s:ByteArray):
    Pur cfg 129 [vS s] (vB (isNameB s)):=by
 refine zS Tryz.func129 O Tryz.ntmps129 Tryz.results129 O ?_
 intro z hz
 refine A O<|G O<|R<|A O<|G O<|zT O (zAz O O O)<|G O<|rL0 O (fun g1_2=>zP O O) O<|rL1 6 O (fun g1_2=>kS O un9 O) O<|rL1 7 O (fun g1_2=>zAa O O O) O<|yZ O (fun h=>h)<|G O<|rL0 O (fun g1_7=>zP O O) O<|rL1 11 O (fun g1_7=>zDn O un9 O O (by decide) (size_pos (nm1 g1_7))) O<|rL1 12 O (fun g1_7=>wK O us5 ik21 O) O<|rL1 13 O (fun g1_7=>qC O ok185 (zOj _) ⟨Y,O,T⟩) O<|yZ O (fun h=>h)<|G O<|rL0 O (fun g1_13=>zP O O) O<|rL1 17 O (fun g1_13=>qC O ok186 (zNm s (nm2 g1_13)) ⟨Y,O,Y,O,T⟩) O<|rL0 O (fun g1_13=>zP O O) O<|rL1 19 O (fun g1_13=>kS O un9 O) O<|rLz [(18,_),(20,_)] O gv1 ⟨O,O,O,O,T⟩ (fun g1_13=>kB O O O) O<|yZ O (fun h=>h)<|G O<|rL0 O (fun g1_20=>zP O O) O<|rL1 24 O (fun g1_20=>qC O ok188 (zSn _) ⟨Y,O,T⟩) O<|rL1 25 O (fun g1_20=>wL O O) O<|yZ O (fun h=>h)<|G O<|R<|zF<|zQ O ?_
 exact congrArg vB (isName_eq s)
theorem base_Words  :
    Pur cfg 142 [] (vSs words):=by
 refine zS Tryz.func142 O Tryz.ntmps142 Tryz.results142 O ?_
 intro z hz
 refine A O<|zT O (kE 1 O O)<|R<|A O<|zT O (yK O zBz zr9 O O O O)<|G O<|R<|zF<|zQ O ?_
 exact O
theorem base_Has (l:List ByteArray) (s:ByteArray) (hl:l.length<=6000000000000):
    Pur cfg 141 [vSs l,vS s] (vB (hasB l s)):=by
 refine zS Tryz.func141 O Tryz.ntmps141 Tryz.results141 O ?_
 intro z hz
 refine A O<|G O<|R<|zK<|A O<|G O<|R<|zR<|zX ⟨[(5,.c _),(0,.c _),(1,.c _)],[]⟩ (Weak.mk [] ⟨Y,Y,Y,T⟩ O)<|qG 1 0 O O (Nat) (fun k=>[(5,vI k)]) (fun k=>[]) (fun k=>k<=l.length/\hasB (l.take k) s=false) (fun k=>l.length-k) ⟨0,⟨by omega,O⟩,Weak.mk [] ⟨Y,Y,Y,T⟩ O⟩ ?_
 rintro k ⟨hk,hp⟩
 refine zK<|A O<|G O<|G O<|zZ O zBz<|yJ O<|R<|zC O (fun c1=>?_) (fun c1=>?_)
 ·try simp only [sx] at c1
  obtain ⟨t,ht⟩:=qY l k (by omega)
  refine zI<|zK<|zR<|A O<|G O<|G O<|qE O zBz (by omega) (getm ht)<|zM one9 qA O<|G O<|wF O<|R<|zC O (fun c2=>?_) (fun c2=>?_)
  ·try simp only [sx] at c2
   refine A O<|G O<|R<|zF<|zQ O ?_
   rw [kD ht c2]
  ·try simp only [sx] at c2
   refine zI<|zN O<|G O<|qI O ⟨by omega,by omega⟩<|G O<|R ?_
   refine ⟨k+1,⟨by omega,zOl ht hp c2⟩,(by omega),Weak.mk [] ⟨Y,Y,Y,T⟩ O⟩
 ·try simp only [sx] at c1
  refine qP<|A O<|G O<|R<|zF<|zQ O ?_
  rw [show hasB l s=false by rw [yE (by omega)] at hp;exact hp]
theorem zGa (s:ByteArray):
    Pur cfg 93 [vS s] (vB (isNameB s)):=by
 refine zS Tryz.func93 O Tryz.ntmps93 Tryz.results93 O ?_
 intro z hz
 refine A O<|G O<|R<|zK<|A O<|G O<|zT O (kS O un9 O)<|yJ O<|G O<|rL0 O (fun g1_3=>zP O O) O<|rL1 9 O (fun g1_3=>kS O un9 O) O<|rL1 10 O (fun g1_3=>yA O O O) O<|r_or O (fun h=>(lzf h))<|G O<|rL0 O (fun g1_8=>qC O ok142 (base_Words) T) O<|rL0 O (fun g1_8=>zP O O) O<|rLz [(14,_),(15,_)] O gv1 ⟨O,O,O,O,T⟩ (fun g1_8=>qC O ok141 (base_Has _ _ (by decide)) ⟨Y,O,Y,O,T⟩) O<|r_or O (fun h=>(lzf h))<|R<|zC O (fun c1=>?_) (fun c1=>?_)
 ·try simp only [sx] at c1
  have hno:=name_short (s:=s) (by simpa using c1)
  refine A O<|G O<|R<|zF<|zQ O ?_
  rw [hno]
 ·try simp only [sx] at c1
  obtain ⟨⟨n1,n2⟩,n3⟩:=c1
  have n1:1<=s.size:=by omega
  have n2:s.size<=16:=by omega
  have hne:=name_end n1 n2 n3
  refine zI<|zK<|A O<|G O<|R<|zR<|zX ⟨[(3,.c _),(0,.c _)],[]⟩ (Weak.mk [] ⟨Y,Y,T⟩ O)<|qG 1 0 O O (Nat) (fun k=>[(3,vI k)]) (fun k=>[]) (fun k=>k<=s.size/\okTo s k=true) (fun k=>s.size-k) ⟨0,⟨by omega,O⟩,Weak.mk [] ⟨Y,Y,T⟩ O⟩ ?_
  rintro k ⟨hk,hp⟩
  refine zK<|A O<|G O<|G O<|zT O (kS O un9 O)<|yJ O<|R<|zC O (fun c2=>?_) (fun c2=>?_)
  ·try simp only [sx] at c2
   have hlt:k<s.size:=by omega
   refine zI<|zK<|zR<|A O<|G O<|G O<|zT O (zDn O un9 O O (by omega) (by omega))<|G O<|R<|A O<|G O<|zT O (wO O O O)<|G O<|rL0 O (fun g7_2=>zP O O) O<|rL1 30 O (fun g7_2=>zAa O O O) O<|yZ O (fun h=>h)<|G O<|rL0 O (fun g7_6=>zP O O) O<|rL1 34 O (fun g7_6=>yA O O O) O<|rL1 35 O (fun g7_6=>zP O O) O<|rLz [] O N T (fun g7_9=>zP O O) O<|rLz [(37,_)] O N ⟨O,O,T⟩ (fun g7_9=>wO O O O) O<|rLz [(38,_)] O N ⟨O,O,T⟩ (fun g7_9=>zP O O) O<|rLz [] O N T (fun g7_12=>zP O O) O<|rLz [(40,_)] O N ⟨O,O,T⟩ (fun g7_12=>zAa O O O) O<|rLz [(39,_)] O N ⟨O,O,T⟩ (fun g7_9=>zAp O O O (fun h=>kI (by assumption) h) O) O<|rLz [(42,_)] O N ⟨O,O,T⟩ (fun g7_9=>zP O O) O<|rLz [] O N T (fun g7_16=>zP O O) O<|rLz [(44,_)] O N ⟨O,O,T⟩ (fun g7_16=>kB O O O) O<|rLz [(43,_)] O N ⟨O,O,T⟩ (fun g7_9=>zBk O O O O (fun h=>kI (by assumption) (lzf h))) O<|rL1 36 O (fun g7_6=>zAp O O O (fun h=>kI (by assumption) h) O) O<|r_or O (fun h=>(lzf h))<|wA O<|R<|zC O (fun c3=>?_) (fun c3=>?_)
   ·have hbad:okTo s (k+1)=false:=by rw [okTo_next,show nameOk k (s.data.toList.getD k 0)=false from (Bool.not_eq_true' _).mp c3];simp
    refine A O<|G O<|R<|zF<|zQ O ?_
    rw [hne];cases ho:okTo s s.size;rfl;exact absurd (okTo_le (k:=k+1) (by omega) ho) (by rw [hbad];simp)
   ·have hgood:okTo s (k+1)=true:=by rw [okTo_next,hp,show nameOk k (s.data.toList.getD k 0)=true from (Bool.not_eq_false' _).mp c3];rfl
    refine zI<|zN O<|G O<|qI O ⟨by omega,by omega⟩<|G O<|R ?_
    refine ⟨k+1,⟨by omega,hgood⟩,(by omega),Weak.mk [] ⟨Y,Y,T⟩ O⟩
  ·try simp only [sx] at c2
   refine qP<|A O<|G O<|R<|zF<|zQ O ?_
   rw [hne,show s.size=k by omega,hp]
theorem lin_reserved (s:ByteArray):
    Pur cfg 366 [vS s] (vB (hasB words s)):=by
 refine zS Tryz.func366 O Tryz.ntmps366 Tryz.results366 O ?_
 intro z hz
 refine A O<|G O<|R<|zK<|A O<|G O<|R<|zR<|zK<|A O<|wF O<|G O<|R<|zC O (fun c1=>?_) (fun c1=>?_)
 ·try simp only [sx] at c1
  refine zI<|zC O (fun c22=>?_) (fun c22=>?_)
  ·try simp only [sx] at c22
   refine A O<|G O<|R<|zF<|zQ O ?_
   rw [kD (l:=words) (k:=0) rfl c1.symm]
  ·try simp only [sx] at c22
   refine zI<|A O<|G O<|R<|zF<|zQ O ?_
   exact absurd c1 c22
 ·try simp only [sx] at c1
  refine A O<|wF O<|G O<|R<|zC O (fun c2=>?_) (fun c2=>?_)
  ·try simp only [sx] at c2
   refine zI<|zC O (fun c22=>?_) (fun c22=>?_)
   ·try simp only [sx] at c22
    refine A O<|G O<|R<|zF<|zQ O ?_
    rw [kD (l:=words) (k:=1) rfl c2.symm]
   ·try simp only [sx] at c22
    refine zI<|A O<|G O<|R<|zF<|zQ O ?_
    exact absurd c2 c22
  ·try simp only [sx] at c2
   refine A O<|wF O<|G O<|R<|zC O (fun c3=>?_) (fun c3=>?_)
   ·try simp only [sx] at c3
    refine zI<|zC O (fun c22=>?_) (fun c22=>?_)
    ·try simp only [sx] at c22
     refine A O<|G O<|R<|zF<|zQ O ?_
     rw [kD (l:=words) (k:=2) rfl c3.symm]
    ·try simp only [sx] at c22
     refine zI<|A O<|G O<|R<|zF<|zQ O ?_
     exact absurd c3 c22
   ·try simp only [sx] at c3
    refine A O<|wF O<|G O<|R<|zC O (fun c4=>?_) (fun c4=>?_)
    ·try simp only [sx] at c4
     refine zI<|zC O (fun c22=>?_) (fun c22=>?_)
     ·try simp only [sx] at c22
      refine A O<|G O<|R<|zF<|zQ O ?_
      rw [kD (l:=words) (k:=3) rfl c4.symm]
     ·try simp only [sx] at c22
      refine zI<|A O<|G O<|R<|zF<|zQ O ?_
      exact absurd c4 c22
    ·try simp only [sx] at c4
     refine A O<|wF O<|G O<|R<|zC O (fun c5=>?_) (fun c5=>?_)
     ·try simp only [sx] at c5
      refine zI<|zC O (fun c22=>?_) (fun c22=>?_)
      ·try simp only [sx] at c22
       refine A O<|G O<|R<|zF<|zQ O ?_
       rw [kD (l:=words) (k:=4) rfl c5.symm]
      ·try simp only [sx] at c22
       refine zI<|A O<|G O<|R<|zF<|zQ O ?_
       exact absurd c5 c22
     ·try simp only [sx] at c5
      refine A O<|wF O<|G O<|R<|zC O (fun c6=>?_) (fun c6=>?_)
      ·try simp only [sx] at c6
       refine zI<|zC O (fun c22=>?_) (fun c22=>?_)
       ·try simp only [sx] at c22
        refine A O<|G O<|R<|zF<|zQ O ?_
        rw [kD (l:=words) (k:=5) rfl c6.symm]
       ·try simp only [sx] at c22
        refine zI<|A O<|G O<|R<|zF<|zQ O ?_
        exact absurd c6 c22
      ·try simp only [sx] at c6
       refine A O<|wF O<|G O<|R<|zC O (fun c7=>?_) (fun c7=>?_)
       ·try simp only [sx] at c7
        refine zI<|zC O (fun c22=>?_) (fun c22=>?_)
        ·try simp only [sx] at c22
         refine A O<|G O<|R<|zF<|zQ O ?_
         rw [kD (l:=words) (k:=6) rfl c7.symm]
        ·try simp only [sx] at c22
         refine zI<|A O<|G O<|R<|zF<|zQ O ?_
         exact absurd c7 c22
       ·try simp only [sx] at c7
        refine A O<|wF O<|G O<|R<|zC O (fun c8=>?_) (fun c8=>?_)
        ·try simp only [sx] at c8
         refine zI<|zC O (fun c22=>?_) (fun c22=>?_)
         ·try simp only [sx] at c22
          refine A O<|G O<|R<|zF<|zQ O ?_
          rw [kD (l:=words) (k:=7) rfl c8.symm]
         ·try simp only [sx] at c22
          refine zI<|A O<|G O<|R<|zF<|zQ O ?_
          exact absurd c8 c22
        ·try simp only [sx] at c8
         refine A O<|wF O<|G O<|R<|zC O (fun c9=>?_) (fun c9=>?_)
         ·try simp only [sx] at c9
          refine zI<|zC O (fun c22=>?_) (fun c22=>?_)
          ·try simp only [sx] at c22
           refine A O<|G O<|R<|zF<|zQ O ?_
           rw [kD (l:=words) (k:=8) rfl c9.symm]
          ·try simp only [sx] at c22
           refine zI<|A O<|G O<|R<|zF<|zQ O ?_
           exact absurd c9 c22
         ·try simp only [sx] at c9
          refine A O<|wF O<|G O<|R<|zC O (fun c10=>?_) (fun c10=>?_)
          ·try simp only [sx] at c10
           refine zI<|zC O (fun c22=>?_) (fun c22=>?_)
           ·try simp only [sx] at c22
            refine A O<|G O<|R<|zF<|zQ O ?_
            rw [kD (l:=words) (k:=9) rfl c10.symm]
           ·try simp only [sx] at c22
            refine zI<|A O<|G O<|R<|zF<|zQ O ?_
            exact absurd c10 c22
          ·try simp only [sx] at c10
           refine A O<|wF O<|G O<|R<|zC O (fun c11=>?_) (fun c11=>?_)
           ·try simp only [sx] at c11
            refine zI<|zC O (fun c22=>?_) (fun c22=>?_)
            ·try simp only [sx] at c22
             refine A O<|G O<|R<|zF<|zQ O ?_
             rw [kD (l:=words) (k:=10) rfl c11.symm]
            ·try simp only [sx] at c22
             refine zI<|A O<|G O<|R<|zF<|zQ O ?_
             exact absurd c11 c22
           ·try simp only [sx] at c11
            refine A O<|wF O<|G O<|R<|zC O (fun c12=>?_) (fun c12=>?_)
            ·try simp only [sx] at c12
             refine zI<|zC O (fun c22=>?_) (fun c22=>?_)
             ·try simp only [sx] at c22
              refine A O<|G O<|R<|zF<|zQ O ?_
              rw [kD (l:=words) (k:=11) rfl c12.symm]
             ·try simp only [sx] at c22
              refine zI<|A O<|G O<|R<|zF<|zQ O ?_
              exact absurd c12 c22
            ·try simp only [sx] at c12
             refine A O<|wF O<|G O<|R<|zC O (fun c13=>?_) (fun c13=>?_)
             ·try simp only [sx] at c13
              refine zI<|zC O (fun c22=>?_) (fun c22=>?_)
              ·try simp only [sx] at c22
               refine A O<|G O<|R<|zF<|zQ O ?_
               rw [kD (l:=words) (k:=12) rfl c13.symm]
              ·try simp only [sx] at c22
               refine zI<|A O<|G O<|R<|zF<|zQ O ?_
               exact absurd c13 c22
             ·try simp only [sx] at c13
              refine A O<|wF O<|G O<|R<|zC O (fun c14=>?_) (fun c14=>?_)
              ·try simp only [sx] at c14
               refine zI<|zC O (fun c22=>?_) (fun c22=>?_)
               ·try simp only [sx] at c22
                refine A O<|G O<|R<|zF<|zQ O ?_
                rw [kD (l:=words) (k:=13) rfl c14.symm]
               ·try simp only [sx] at c22
                refine zI<|A O<|G O<|R<|zF<|zQ O ?_
                exact absurd c14 c22
              ·try simp only [sx] at c14
               refine A O<|wF O<|G O<|R<|zC O (fun c15=>?_) (fun c15=>?_)
               ·try simp only [sx] at c15
                refine zI<|zC O (fun c22=>?_) (fun c22=>?_)
                ·try simp only [sx] at c22
                 refine A O<|G O<|R<|zF<|zQ O ?_
                 rw [kD (l:=words) (k:=14) rfl c15.symm]
                ·try simp only [sx] at c22
                 refine zI<|A O<|G O<|R<|zF<|zQ O ?_
                 exact absurd c15 c22
               ·try simp only [sx] at c15
                refine A O<|wF O<|G O<|R<|zC O (fun c16=>?_) (fun c16=>?_)
                ·try simp only [sx] at c16
                 refine zI<|zC O (fun c22=>?_) (fun c22=>?_)
                 ·try simp only [sx] at c22
                  refine A O<|G O<|R<|zF<|zQ O ?_
                  rw [kD (l:=words) (k:=15) rfl c16.symm]
                 ·try simp only [sx] at c22
                  refine zI<|A O<|G O<|R<|zF<|zQ O ?_
                  exact absurd c16 c22
                ·try simp only [sx] at c16
                 refine A O<|wF O<|G O<|R<|zC O (fun c17=>?_) (fun c17=>?_)
                 ·try simp only [sx] at c17
                  refine zI<|zC O (fun c22=>?_) (fun c22=>?_)
                  ·try simp only [sx] at c22
                   refine A O<|G O<|R<|zF<|zQ O ?_
                   rw [kD (l:=words) (k:=16) rfl c17.symm]
                  ·try simp only [sx] at c22
                   refine zI<|A O<|G O<|R<|zF<|zQ O ?_
                   exact absurd c17 c22
                 ·try simp only [sx] at c17
                  refine A O<|wF O<|G O<|R<|zC O (fun c18=>?_) (fun c18=>?_)
                  ·try simp only [sx] at c18
                   refine zI<|zC O (fun c22=>?_) (fun c22=>?_)
                   ·try simp only [sx] at c22
                    refine A O<|G O<|R<|zF<|zQ O ?_
                    rw [kD (l:=words) (k:=17) rfl c18.symm]
                   ·try simp only [sx] at c22
                    refine zI<|A O<|G O<|R<|zF<|zQ O ?_
                    exact absurd c18 c22
                  ·try simp only [sx] at c18
                   refine A O<|wF O<|G O<|R<|zC O (fun c19=>?_) (fun c19=>?_)
                   ·try simp only [sx] at c19
                    refine zI<|zC O (fun c22=>?_) (fun c22=>?_)
                    ·try simp only [sx] at c22
                     refine A O<|G O<|R<|zF<|zQ O ?_
                     rw [kD (l:=words) (k:=18) rfl c19.symm]
                    ·try simp only [sx] at c22
                     refine zI<|A O<|G O<|R<|zF<|zQ O ?_
                     exact absurd c19 c22
                   ·try simp only [sx] at c19
                    refine A O<|wF O<|G O<|R<|zC O (fun c20=>?_) (fun c20=>?_)
                    ·try simp only [sx] at c20
                     refine zI<|zC O (fun c22=>?_) (fun c22=>?_)
                     ·try simp only [sx] at c22
                      refine A O<|G O<|R<|zF<|zQ O ?_
                      rw [kD (l:=words) (k:=19) rfl c20.symm]
                     ·try simp only [sx] at c22
                      refine zI<|A O<|G O<|R<|zF<|zQ O ?_
                      exact absurd c20 c22
                    ·try simp only [sx] at c20
                     refine A O<|wF O<|G O<|R<|zC O (fun c21=>?_) (fun c21=>?_)
                     ·try simp only [sx] at c21
                      refine zI<|zC O (fun c22=>?_) (fun c22=>?_)
                      ·try simp only [sx] at c22
                       refine A O<|G O<|R<|zF<|zQ O ?_
                       rw [kD (l:=words) (k:=20) rfl c21.symm]
                      ·try simp only [sx] at c22
                       refine zI<|A O<|G O<|R<|zF<|zQ O ?_
                       exact absurd c21 c22
                     ·try simp only [sx] at c21
                      refine zN O<|wF O<|G O<|R<|zC O (fun c22=>?_) (fun c22=>?_)
                      ·try simp only [sx] at c22
                       refine A O<|G O<|R<|zF<|zQ O ?_
                       rw [kD (l:=words) (k:=21) rfl c22.symm]
                      ·try simp only [sx] at c22
                       refine zI<|A O<|G O<|R<|zF<|zQ O ?_
                       rw [show hasB words s=false by
                         simp only [hasB,words,List.any_cons,List.any_nil,Bool.or_eq_false_iff,decide_eq_false_iff_not]
                         exact ⟨fun h=>c1 h.symm,fun h=>c2 h.symm,fun h=>c3 h.symm,fun h=>c4 h.symm,fun h=>c5 h.symm,fun h=>c6 h.symm,fun h=>c7 h.symm,fun h=>c8 h.symm,fun h=>c9 h.symm,fun h=>c10 h.symm,fun h=>c11 h.symm,fun h=>c12 h.symm,fun h=>c13 h.symm,fun h=>c14 h.symm,fun h=>c15 h.symm,fun h=>c16 h.symm,fun h=>c17 h.symm,fun h=>c18 h.symm,fun h=>c19 h.symm,fun h=>c20 h.symm,fun h=>c21 h.symm,fun h=>c22 h.symm,T⟩]
theorem lin_identifier (s:ByteArray):
    Pur cfg 340 [vS s] (vB (isNameB s)):=by
 refine zS Tryz.func340 O Tryz.ntmps340 Tryz.results340 O ?_
 intro z hz
 refine A O<|G O<|R<|zK<|A O<|G O<|zT O (kS O un9 O)<|yJ O<|G O<|rL0 O (fun g1_3=>zP O O) O<|rL1 9 O (fun g1_3=>kS O un9 O) O<|rL1 10 O (fun g1_3=>yA O O O) O<|r_or O (fun h=>(lzf h))<|G O<|rL0 O (fun g1_8=>zP O O) O<|rL1 14 O (fun g1_8=>qC O ok366 (lin_reserved _) ⟨Y,O,T⟩) O<|r_or O (fun h=>(lzf h))<|G O<|rL0 O (fun g1_12=>zP O O) O<|rL1 18 O (fun g1_12=>zDn O un9 O O (by decide) (by simp only [Lz,cond_true,cond_false,Bool.and_eq_true,Bool.or_eq_true,Bool.not_eq_true',Bool.not_eq_false',Bool.or_eq_false_iff,Bool.and_eq_false_iff,decide_eq_true_eq,decide_eq_false_iff_not,Bool.not_eq_true,Bool.not_eq_false] at g1_12;omega)) O<|rL1 19 O (fun g1_12=>zCh O O O) O<|r_or O (fun h=>(lzf h))<|G O<|rL0 O (fun g1_17=>zP O O) O<|rL1 23 O (fun g1_17=>zDn O un9 O O (by decide) (by simp only [Lz,cond_true,cond_false,Bool.and_eq_true,Bool.or_eq_true,Bool.not_eq_true',Bool.not_eq_false',Bool.or_eq_false_iff,Bool.and_eq_false_iff,decide_eq_true_eq,decide_eq_false_iff_not,Bool.not_eq_true,Bool.not_eq_false] at g1_17;omega)) O<|rL1 24 O (fun g1_17=>yA O O O) O<|r_or O (fun h=>(lzf h))<|R<|zC O (fun c1=>?_) (fun c1=>?_)
 ·have hno:=ident_no c1
  refine A O<|G O<|R<|zF<|zQ O ?_
  rw [hno]
 ·obtain ⟨n1,n2,hne⟩:=ident_yes c1
  refine zI<|zK<|A O<|G O<|zT O (kS O un9 O)<|G O<|R<|zR<|zX ⟨[(29,.c _),(0,.c _),(28,.c _)],[]⟩ (Weak.mk [] ⟨Y,Y,Y,T⟩ O)<|qG 1 0 O O (Nat) (fun k=>[(29,vI k)]) (fun k=>[]) (fun k=>k<=s.size/\(s.data.toList.take k).all inWordB=true) (fun k=>s.size-k) ⟨0,⟨by omega,O⟩,Weak.mk [] ⟨Y,Y,Y,T⟩ O⟩ ?_
  rintro k ⟨hk,hp⟩
  refine A O<|yJ O<|R<|zK<|zC O (fun c2=>?_) (fun c2=>?_)
  ·try simp only [sx] at c2
   have hlt:k<s.size:=by omega
   refine zI<|zK<|zR<|A O<|G O<|G O<|R<|A O<|G O<|G O<|zT O (zDn O un9 O O (by omega) (by omega))<|G O<|R<|A O<|G O<|yJ O<|G O<|rL0 O (fun g7_2=>zP O O) O<|rL1 38 O (fun g7_2=>yA O O O) O<|r_or O (fun h=>(lzf h))<|G O<|rL0 O (fun g7_6=>zP O O) O<|rL1 42 O (fun g7_6=>zCh O O O) O<|rL1 43 O (fun g7_6=>zP O O) O<|rLz [] O N T (fun g7_9=>zP O O) O<|rLz [(45,_)] O N ⟨O,O,T⟩ (fun g7_9=>yA O O O) O<|rL1 44 O (fun g7_6=>zBk O O O O (fun h=>kI (by assumption) (lzf h))) O<|yZ O (fun h=>h)<|G O<|rL0 O (fun g7_14=>zP O O) O<|rL1 50 O (fun g7_14=>wU O O O) O<|yZ O (fun h=>h)<|R<|zC O (fun c3=>?_) (fun c3=>?_)
   ·have hbad:=word_no hlt c3
    refine A O<|G O<|R<|zF<|zQ O ?_
    rw [hne,hbad]
   ·have hgood:=word_yes hlt hp c3
    refine zI<|zN O<|qI O ⟨by omega,by omega⟩<|G O<|R ?_
    refine ⟨k+1,⟨by omega,hgood⟩,(by omega),Weak.mk [] ⟨Y,Y,Y,T⟩ O⟩
  ·try simp only [sx] at c2
   refine qP<|A O<|G O<|R<|zF<|zQ O ?_
   rw [hne,word_all hp (by omega)]
theorem zFb (l:Lf) (hl:l.L.length<=6000000000000):
    Pur cfg 274 [vLin l] (vI (linErr l)):=by
 refine zS Tryz.func274 O Tryz.ntmps274 Tryz.results274 O ?_
 intro z hz
 refine A O<|zU O O (qN O O) ?_
 rintro _ _ ⟨b1,rfl,rfl⟩
 refine G O<|R<|zK<|A O<|zH O kT<|zM zBp (zD 0 O) O<|zZ O el99<|G O<|R<|zR<|zX ⟨[(8,.c _),(1,.c _),(6,.c _),(7,.c _)],[_]⟩ (Weak.mk [true] ⟨Y,Y,Y,Y,T⟩ O)<|qG 1 0 O O (Nat) (fun k=>[(8,vI k)]) (fun k=>[]) (fun k=>k<=l.L.length/\(linOk l=monosOk (prevOf l.L k) (l.L.drop k))) (fun k=>l.L.length-k) ⟨0,⟨by omega,O⟩,Weak.mk [true] ⟨Y,Y,Y,Y,T⟩ O⟩ ?_
 rintro k ⟨hk,hp⟩
 refine A O<|yJ O<|R<|zK<|zC O (fun c1=>?_) (fun c1=>?_)
 ·try simp only [sx] at c1
  obtain ⟨x,hx⟩:=qY l.L k (by omega)
  refine zI<|zK<|zR<|A O<|G O<|qE O el99 (by omega) (getm (by assumption))<|zO zTq qA O<|zU O O (yL O zr98) ?_
  rintro _ _ ⟨b2,rfl,rfl⟩
  refine G O<|rStR 0 sz98 O<|R<|zK<|qU 25 mixed (by kernel_rfl) O O<|J O O (zE O zEb O)<|J O O (zJ O one9 O (zD 0 O) O)<|J O O (qC O ok340 (lin_identifier _) ⟨Y,O,T⟩)<|J O O (wL O O)<|J O O (zP O O)<|qR [] O O O O gv1 T (fun g4_4=>zE O fd98_1 O) O<|qR [(18,_)] O O O O gv1 ⟨O,O,T⟩ (fun g4_4=>zJ O r O (zD 0 O) O) O<|qR [(19,_)] O O O O gv1 ⟨O,O,T⟩ (fun g4_4=>kB O O O) O<|J O O (zBk O O O O (fun h=>(lzf h)))<|J O O (zP O O)<|qR [] O O O O gv1 T (fun g4_9=>zP O O) O<|qR [(23,_)] O O O O gv1 ⟨O,O,T⟩ (fun g4_9=>yA O O O) O<|qR [(24,_)] O O O O gv1 ⟨O,O,T⟩ (fun g4_9=>zP O O) O<|qR [] O O O O N T (fun g4_12=>zE O kT O) O<|qR [(26,_)] O O O O N ⟨O,O,T⟩ (fun g4_12=>zJ O zBp O (zD 1 O) O) O<|qR [] O O O O N T (fun g4_12=>zP O O) O<|qR [(28,_)] O O O O N ⟨O,O,T⟩ (fun g4_12=>yD O O O ⟨by omega,by omega⟩) O<|qR [(27,_),(29,_)] O O O O N ⟨O,O,O,O,T⟩ (fun g4_12=>qO O el99 O O (by simp only [Lz,cond_true,cond_false,Bool.and_eq_true,Bool.or_eq_true,Bool.not_eq_true',Bool.not_eq_false',Bool.or_eq_false_iff,Bool.and_eq_false_iff,decide_eq_true_eq,decide_eq_false_iff_not,Bool.not_eq_true,Bool.not_eq_false] at g4_12;omega) (pv_get (by simp only [Lz,cond_true,cond_false,Bool.and_eq_true,Bool.or_eq_true,Bool.not_eq_true',Bool.not_eq_false',Bool.or_eq_false_iff,Bool.and_eq_false_iff,decide_eq_true_eq,decide_eq_false_iff_not,Bool.not_eq_true,Bool.not_eq_false] at g4_12;omega) (by omega))) O<|qR [(30,_)] O O O O N ⟨O,O,T⟩ (fun g4_12=>qW O zEb O) O<|qR [(31,_)] O O O O N ⟨O,O,T⟩ (fun g4_12=>zJ O one9 O qA O) O<|qR [] O O O O N T (fun g4_12=>zE O zEb O) O<|qR [(33,_)] O O O O N ⟨O,O,T⟩ (fun g4_12=>zJ O one9 O (zD 0 O) O) O<|qR [(32,_),(34,_)] O O O O N ⟨O,O,O,O,T⟩ (fun g4_12=>det_sgeq O O O) O<|qR [(25,_)] O O O O gv1 ⟨O,O,T⟩ (fun g4_9=>zAp O O O (fun h=>kI (by assumption) h) O) O<|J O O (zBk O O O O (fun h=>(lzf h)))<|yO<|R<|zC O (fun c2=>?_) (fun c2=>?_)
  ·refine A O<|G O<|R<|zF<|zQ O ?_
   rw [linErr,hp,zJk hx,show badM l.L k x=true from c2];rfl
  ·refine zI<|zN O<|qI O ⟨by omega,by omega⟩<|G O<|R ?_
   refine ⟨k+1,⟨by omega,by rw [hp,zJk hx,show badM l.L k x=false from c2];rfl⟩,(by omega),Weak.mk [false,true] ⟨Y,Y,Y,Y,T⟩ O⟩
 ·try simp only [sx] at c1
  refine qP<|A O<|G O<|R<|zF<|zQ O ?_
  rw [linErr,hp,monos_end (by omega)];rfl
theorem zCa (l:Lf) (hl:l.L.length<=6000000000000):
    Pur cfg 293 [vLin l] (vB (linOk l)):=by
 refine zS Tryz.func293 O Tryz.ntmps293 Tryz.results293 O ?_
 intro z hz
 refine A O<|zU O O (qN O O) ?_
 rintro _ _ ⟨b1,rfl,rfl⟩
 refine G O<|R<|zK<|A O<|G O<|R<|zR<|zX ⟨[(3,.c _),(1,.c _)],[_]⟩ (Weak.mk [true] ⟨Y,Y,T⟩ O)<|qG 1 0 O O (Nat) (fun k=>[(3,vI k)]) (fun k=>[]) (fun k=>k<=l.L.length/\(linOk l=monosOk (prevOf l.L k) (l.L.drop k))) (fun k=>l.L.length-k) ⟨0,⟨by omega,O⟩,Weak.mk [true] ⟨Y,Y,T⟩ O⟩ ?_
 rintro k ⟨hk,hp⟩
 refine zK<|A O<|G O<|zH O kT<|zM zBp (zD 0 O) O<|zZ O el99<|yJ O<|R<|zC O (fun c1=>?_) (fun c1=>?_)
 ·try simp only [sx] at c1
  obtain ⟨x,hx⟩:=qY l.L k (by omega)
  refine zI<|zK<|zR<|zK<|qU 37 mixed (by kernel_rfl) O O<|J O O (zE O kT O)<|J O O (zJ O zBp O (zD 0 O) O)<|J O O (zP O O)<|J O O (qO O el99 O O (by omega) (getm (by assumption)))<|J O O (qW O zEb O)<|J O O (zJ O one9 O qA O)<|J O O (qC O ok93 (zGa _) ⟨Y,O,T⟩)<|J O O (wL O O)<|J O O (zP O O)<|qR [] O O O O gv1 T (fun g4_8=>zE O kT O) O<|qR [(20,_)] O O O O gv1 ⟨O,O,T⟩ (fun g4_8=>zJ O zBp O (zD 0 O) O) O<|qR [] O O O O gv1 T (fun g4_8=>zP O O) O<|qR [(21,_),(22,_)] O O O O gv1 ⟨O,O,O,O,T⟩ (fun g4_8=>qO O el99 O O (by omega) (getm (by assumption))) O<|qR [(23,_)] O O O O gv1 ⟨O,O,T⟩ (fun g4_8=>qW O fd98_1 O) O<|qR [(24,_)] O O O O gv1 ⟨O,O,T⟩ (fun g4_8=>zJ O r O qA O) O<|qR [(25,_)] O O O O gv1 ⟨O,O,T⟩ (fun g4_8=>kB O O O) O<|J O O (zBk O O O O (fun h=>(lzf h)))<|J O O (zP O O)<|qR [] O O O O gv1 T (fun g4_17=>zP O O) O<|qR [(29,_)] O O O O gv1 ⟨O,O,T⟩ (fun g4_17=>yA O O O) O<|qR [(30,_)] O O O O gv1 ⟨O,O,T⟩ (fun g4_17=>zP O O) O<|qR [] O O O O N T (fun g4_20=>zE O kT O) O<|qR [(32,_)] O O O O N ⟨O,O,T⟩ (fun g4_20=>zJ O zBp O (zD 0 O) O) O<|qR [] O O O O N T (fun g4_20=>zP O O) O<|qR [(34,_)] O O O O N ⟨O,O,T⟩ (fun g4_20=>yD O O O ⟨by omega,by omega⟩) O<|qR [(33,_),(35,_)] O O O O N ⟨O,O,O,O,T⟩ (fun g4_20=>qO O el99 O O (by simp only [Lz,cond_true,cond_false,Bool.and_eq_true,Bool.or_eq_true,Bool.not_eq_true',Bool.not_eq_false',Bool.or_eq_false_iff,Bool.and_eq_false_iff,decide_eq_true_eq,decide_eq_false_iff_not,Bool.not_eq_true,Bool.not_eq_false] at g4_20;omega) (pv_get (by simp only [Lz,cond_true,cond_false,Bool.and_eq_true,Bool.or_eq_true,Bool.not_eq_true',Bool.not_eq_false',Bool.or_eq_false_iff,Bool.and_eq_false_iff,decide_eq_true_eq,decide_eq_false_iff_not,Bool.not_eq_true,Bool.not_eq_false] at g4_20;omega) (by omega))) O<|qR [(36,_)] O O O O N ⟨O,O,T⟩ (fun g4_20=>qW O zEb O) O<|qR [(37,_)] O O O O N ⟨O,O,T⟩ (fun g4_20=>zJ O one9 O qA O) O<|qR [] O O O O N T (fun g4_20=>zE O kT O) O<|qR [(39,_)] O O O O N ⟨O,O,T⟩ (fun g4_20=>zJ O zBp O (zD 0 O) O) O<|qR [] O O O O N T (fun g4_20=>zP O O) O<|qR [(40,_),(41,_)] O O O O N ⟨O,O,O,O,T⟩ (fun g4_20=>qO O el99 O O (by omega) (getm (by assumption))) O<|qR [(42,_)] O O O O N ⟨O,O,T⟩ (fun g4_20=>qW O zEb O) O<|qR [(43,_)] O O O O N ⟨O,O,T⟩ (fun g4_20=>zJ O one9 O qA O) O<|qR [(38,_),(44,_)] O O O O N ⟨O,O,O,O,T⟩ (fun g4_20=>det_sgeq O O O) O<|qR [(31,_)] O O O O gv1 ⟨O,O,T⟩ (fun g4_17=>zAp O O O (fun h=>kI (by assumption) h) O) O<|J O O (zBk O O O O (fun h=>(lzf h)))<|yO<|R<|zC O (fun c2=>?_) (fun c2=>?_)
  ·refine A O<|G O<|R<|zF<|zQ O ?_
   rw [hp,zJk hx,show badM l.L k x=true from c2];rfl
  ·refine zI<|zN O<|G O<|qI O ⟨by omega,by omega⟩<|G O<|R ?_
   refine ⟨k+1,⟨by omega,by rw [hp,zJk hx,show badM l.L k x=false from c2];rfl⟩,(by omega),Weak.mk [true] ⟨Y,Y,T⟩ O⟩
 ·try simp only [sx] at c1
  refine qP<|A O<|G O<|R<|zF<|zQ O ?_
  rw [hp,monos_end (by omega)]
theorem base_Lin (a b:Lf) (ha:a.L.length<=6000000000000):
    Pur cfg 263 [vLin a,vLin b] (vB (decide (a=b))):=by
 refine zS Tryz.func263 O Tryz.ntmps263 Tryz.results263 O ?_
 intro z hz
 refine A O<|zU O O (qN O O) ?_
 rintro _ _ ⟨b1,rfl,rfl⟩
 refine zU O O (qN O O) ?_
 rintro _ _ ⟨b2,rfl,rfl⟩
 refine G O<|R<|zK<|A O<|zH O zCt<|zM r (zD 1 O) O<|zH O zCt<|zM r (zD 0 O) O<|kP O<|G O<|rL0 O (fun g1_5=>zE O kT O) O<|rL1 12 O (fun g1_5=>zJ O zBp O (zD 1 O) O) O<|rL1 13 O (fun g1_5=>yG O el99 O) O<|rL0 O (fun g1_5=>zE O kT O) O<|rL1 15 O (fun g1_5=>zJ O zBp O (zD 0 O) O) O<|rL1 16 O (fun g1_5=>yG O el99 O) O<|rLz [(14,_),(17,_)] O gv1 ⟨O,O,O,O,T⟩ (fun g1_5=>wU O O O) O<|r_or O (fun h=>(lzf h))<|R<|zC O (fun c1=>?_) (fun c1=>?_)
 ·try simp only [sx] at c1
  refine A O<|G O<|R<|zF<|zQ O ?_
  rw [yF (fun h=>by rw [h] at c1;simp at c1)]
 ·try simp only [sx] at c1
  refine zI<|zK<|A O<|G O<|R<|zR<|zX ⟨[(5,.c _),(2,.c _),(3,.c _)],[_,_]⟩ (Weak.mk [true,true] ⟨Y,Y,Y,T⟩ O)<|qG 1 0 O O (Nat) (fun k=>[(5,vI k)]) (fun k=>[]) (fun k=>k<=a.L.length/\(a.L.take k=b.L.take k)) (fun k=>a.L.length-k) ⟨0,⟨by omega,O⟩,Weak.mk [true,true] ⟨Y,Y,Y,T⟩ O⟩ ?_
  rintro k ⟨hk,hp⟩
  refine zK<|A O<|G O<|zH O kT<|zM zBp (zD 1 O) O<|zZ O el99<|yJ O<|R<|zC O (fun c2=>?_) (fun c2=>?_)
  ·try simp only [sx] at c2
   obtain ⟨x,hx⟩:=qY a.L k (by omega)
   obtain ⟨y,hy⟩:=qY b.L k (by omega)
   refine zI<|zK<|zR<|zK<|qU 11 mixed (by kernel_rfl) O O<|J O O (zE O kT O)<|J O O (zJ O zBp O (zD 1 O) O)<|J O O (zP O O)<|J O O (qO O el99 O O (by omega) (getm (by assumption)))<|J O O (zV O zTq O qA O)<|J O O (zE O kT O)<|J O O (zJ O zBp O (zD 0 O) O)<|J O O (zP O O)<|J O O (qO O el99 O O (by omega) (getm (by assumption)))<|J O O (zV O zTq O qA O)<|J O O (zBl O fl98 O O O)<|yO<|R<|zC O (fun c3=>?_) (fun c3=>?_)
   ·have hne:=mono_ne c3
    refine A O<|G O<|R<|zF<|zQ O ?_
    rw [yF (fun h=>zIh hx hy hne (by rw [h]))]
   ·have heq:=mono_eq c3
    refine zI<|zN O<|G O<|qI O ⟨by omega,by omega⟩<|G O<|R ?_
    refine ⟨k+1,⟨by omega,zDs hx hy hp heq⟩,(by omega),Weak.mk [true,true] ⟨Y,Y,Y,T⟩ O⟩
  ·try simp only [sx] at c2
   refine qP<|A O<|G O<|R<|zF<|zQ O ?_
   rw [zAi (lin_mk (by omega) (zFx hp (by omega) (by omega)))]
theorem zKr (l:List Ix) (c:C) (p:Ix->Bool) (hl:l.length<=6000000000000) (hc:∀x,x∈l->FnPur cfg c [vIndex x] (vB (p x))):
    Pur cfg 365 [vIndices l,.c c] (vI (idxOf p l)):=by
 refine zS Tryz.func365 O Tryz.ntmps365 Tryz.results365 O ?_
 intro z hz
 refine A O<|G O<|R<|zK<|A O<|G O<|zZ O kO<|G O<|R<|zR<|zX ⟨[(8,.c _),(0,.c _),(1,.c _),(7,.c _)],[]⟩ (Weak.mk [] ⟨Y,Y,Y,Y,T⟩ O)<|qG 1 0 O O (Nat) (fun k=>[(8,vI k)]) (fun k=>[]) (fun k=>k<=l.length/\((l.take k).any p=false)) (fun k=>l.length-k) ⟨0,⟨by omega,O⟩,Weak.mk [] ⟨Y,Y,Y,Y,T⟩ O⟩ ?_
 rintro k ⟨hk,hp⟩
 refine A O<|yJ O<|R<|zK<|zC O (fun c1=>?_) (fun c1=>?_)
 ·try simp only [sx] at c1
  obtain ⟨x,hx⟩:=qY l k (by omega)
  refine zI<|zK<|zR<|A O<|G O<|G O<|R<|A O<|G O<|G O<|G O<|qE O kO (by omega) (getm (by assumption))<|zO zDf qA O<|zT O (zAx O O (hc _ (zY hx)) ⟨Y,O,T⟩)<|R<|zC O (fun c2=>?_) (fun c2=>?_)
  ·try simp only [sx] at c2
   refine A O<|G O<|G O<|R<|zF<|zQ O ?_
   rw [zPl hx c2 hp]
  ·try simp only [sx] at c2
   refine zI<|zN O<|qI O ⟨by omega,by omega⟩<|G O<|R ?_
   refine ⟨k+1,⟨by omega,zJt hx hp c2⟩,(by omega),Weak.mk [] ⟨Y,Y,Y,Y,T⟩ O⟩
 ·try simp only [sx] at c1
  refine qP<|A O<|G O<|R<|zF<|zQ O ?_
  rw [zJl (by rw [yE (by omega)] at hp;exact hp)]
theorem zBh (l:List Ix) (c:C) (p:Ix->Bool) (hl:l.length<=6000000000000) (hc:∀x,x∈l->FnPur cfg c [vIndex x] (vB (p x))):
    Pur cfg 333 [vIndices l,.c c] (vB (l.any p)):=by
 refine zS Tryz.func333 O Tryz.ntmps333 Tryz.results333 O ?_
 intro z hz
 refine A O<|G O<|R<|A O<|G O<|G O<|qK O ok365 (zKr l c p hl hc) ⟨Y,O,Y,O,T⟩<|zT O (wO O O O)<|G O<|R<|zF<|zQ O ?_
 rw [zMc]
end Go.W
