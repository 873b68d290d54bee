/-
  Walks: what functions of the program compute. Printed by wip/gen/mk2.py.
  Conditions: none.
-/
import Derived.Test.YtlfjpejkoccibaaGreatDoorFacts
import Derived.Test.YtlfjpejkoccibaaGreatDoorPlain
set_option linter.unusedSimpArgs false
set_option linter.unusedVariables false
set_option maxRecDepth 10000
namespace Go.W
open Go Go.Eng Go.Proofs Go.L41 Go.Br
attribute [local irreducible] AWP RWP TD finQ
theorem kw_ascii:∀(j:Nat) (b:UInt8),(bs kwBytes).data.toList[j]? =some b->b.toNat<128:=by
  intro j b h
  have:(kwBytes.all fun c=>decide (c.toNat<128))=true:=by decide
  rw [List.all_eq_true] at this
  simpa using this b (List.mem_of_getElem? h)
theorem kw_fields:(Lib.fields kwBytes).map bs=words:=by decide+kernel
theorem nm1 {s:ByteArray} (h:Lz (!decide (s=bs [])&&decide ((s.size:Int)<=16)) true=true):¬s=bs []:=by
  simp only [Lz,cond_true,Bool.and_eq_true,Bool.not_eq_true',decide_eq_false_iff_not] at h
  exact h.1
theorem nm2 {s:ByteArray} {p:Bool} (h:Lz (!decide (s=bs [])&&decide ((s.size:Int)<=16)&&p) true=true):s.size<=1000000:=by
  simp only [Lz,cond_true,Bool.and_eq_true,decide_eq_true_eq] at h
  omega
theorem yY:aggT Tryz.prog 41=some 2:=by kernel_rfl
theorem zOb:aggT Tryz.prog 69=some 2:=by kernel_rfl
theorem zOa:aggT Tryz.prog 72=some 4:=by kernel_rfl
theorem A:elemT Tryz.prog 34=some (72,4,72):=by kernel_rfl
theorem U:elemT Tryz.prog 39=some (69,2,24):=by kernel_rfl
theorem zCr:elemT Tryz.prog 105=some (9,1,16):=by kernel_rfl
theorem zCw:fieldT Tryz.prog 41 0=some (0,2):=by kernel_rfl
theorem kM:fieldT Tryz.prog 41 1=some (1,39):=by kernel_rfl
theorem zAl:fieldT Tryz.prog 69 0=some (0,9):=by kernel_rfl
theorem zDo:fieldT Tryz.prog 69 1=some (1,2):=by kernel_rfl
theorem fl69:flatK Tryz.prog 69=some [.str,.int]:=by kernel_rfl
theorem ik21:intT Tryz.prog 21=some .i32:=by kernel_rfl
theorem mixed:Tryz.prog.follows .mixedOrders=true:=by kernel_rfl
theorem ok60:callOk Tryz.prog 60=true:=by kernel_rfl
theorem ok97:callOk Tryz.prog 97=true:=by kernel_rfl
theorem ok98:callOk Tryz.prog 98=true:=by kernel_rfl
theorem ok99:callOk Tryz.prog 99=true:=by kernel_rfl
theorem ok100:callOk Tryz.prog 100=true:=by kernel_rfl
theorem ok104:callOk Tryz.prog 104=true:=by kernel_rfl
theorem ok113:callOk Tryz.prog 113=true:=by kernel_rfl
theorem ok114:callOk Tryz.prog 114=true:=by kernel_rfl
theorem ok142:callOk Tryz.prog 142=true:=by kernel_rfl
theorem ok143:callOk Tryz.prog 143=true:=by kernel_rfl
theorem ok144:callOk Tryz.prog 144=true:=by kernel_rfl
theorem ok147:callOk Tryz.prog 147=true:=by kernel_rfl
theorem ok177:callOk Tryz.prog 177=true:=by kernel_rfl
theorem ok178:callOk Tryz.prog 178=true:=by kernel_rfl
theorem ok281:callOk Tryz.prog 281=true:=by kernel_rfl
theorem ok295:callOk Tryz.prog 295=true:=by kernel_rfl
theorem W:oneT Tryz.prog 2=true:=by kernel_rfl
theorem one9:oneT Tryz.prog 9=true:=by kernel_rfl
theorem wX:oneT Tryz.prog 39=true:=by kernel_rfl
theorem pl41:placesT Tryz.prog 41=some [(0,1),(1,1)]:=by kernel_rfl
theorem pl69:placesT Tryz.prog 69=some [(0,1),(1,1)]:=by kernel_rfl
theorem sz41:(Tryz.prog.info? 41).map (·.size)=some 2:=by kernel_rfl
theorem sz69:(Tryz.prog.info? 69).map (·.size)=some 2:=by kernel_rfl
theorem un9:Tryz.prog.underlying 9=some .string:=by kernel_rfl
theorem us5:(Tryz.prog.underlying 5).isSome=true:=by kernel_rfl
theorem zr9:zeroT Tryz.prog 9=some [(Value.string (ByteArray.mk #[]))]:=by kernel_rfl
theorem zr41:zeroT Tryz.prog 41=some [(Value.int IntKind.i64 0),(Value.slice none 0 0)]:=by kernel_rfl
theorem zr69:zeroT Tryz.prog 69=some [(Value.string (ByteArray.mk #[])),(Value.int IntKind.i64 0)]:=by kernel_rfl
theorem zOg (n:Int):
    Pur cfg 97 [vR n] (vB (letterI n)):=by
 refine zR Tryz.func97 O Tryz.ntmps97 Tryz.results97 O ?_
 intro z hz
 refine G O<|F O<|I<|G O<|F O<|zX O (wG O O O)<|F O<|rL0 O (fun g1_2=>zN O O) O<|B 6 O (fun g1_2=>wQ O O O) O<|yQ O (fun h=>h)<|F O<|I<|o<|X O ?_
 exact O
theorem lexer_digit (n:Int):
    Pur cfg 142 [vR n] (vB (digitI n)):=by
 refine zR Tryz.func142 O Tryz.ntmps142 Tryz.results142 O ?_
 intro z hz
 refine G O<|F O<|I<|G O<|F O<|zX O (wG O O O)<|F O<|rL0 O (fun g1_2=>zN O O) O<|B 6 O (fun g1_2=>wQ O O O) O<|yQ O (fun h=>h)<|F O<|I<|o<|X O ?_
 exact O
theorem lexer_inWord (n:Int):
    Pur cfg 99 [vR n] (vB (inWordI n)):=by
 refine zR Tryz.func99 O Tryz.ntmps99 Tryz.results99 O ?_
 intro z hz
 refine G O<|F O<|I<|G O<|F O<|qJ O ok97 (zOg _) ⟨H,O,T⟩<|F O<|rL0 O (fun g1_2=>zN O O) O<|B 6 O (fun g1_2=>qL O ok142 (lexer_digit _) ⟨H,O,T⟩) O<|r_or O (fun h=>(lzf h))<|F O<|rL0 O (fun g1_6=>zN O O) O<|B 10 O (fun g1_6=>yG O O O) O<|r_or O (fun h=>(lzf h))<|F O<|I<|o<|X O ?_
 exact O
theorem zNk (s:ByteArray) (hs:s.size<=1000000):
    Pur cfg 98 [vS s,.c (.fn (.func 99) [] [])] (vI (spanB inWordB s.data.toList)):=by
 refine zR Tryz.func98 O Tryz.ntmps98 Tryz.results98 O ?_
 intro z hz
 refine G O<|F O<|I<|G O<|F O<|I<|zJ<|zQ<|zW ⟨[(5,.c _),(0,.c _),(1,.c _)],[]⟩ (Weak.mk [] ⟨H,H,H,T⟩ O)<|qK 1 0 O O (Nat) (fun k=>[(5,vI k)]) (fun k=>[]) (fun k=>k<=s.size/\(s.data.toList.take k).all inWordB=true) (fun k=>s.size-k) ⟨0,⟨by omega,O⟩,Weak.mk [] ⟨H,H,H,T⟩ O⟩ ?_
 rintro k ⟨hk,hp⟩
 refine zJ<|G O<|F O<|F O<|zX O (zAt O un9 O)<|yH O<|F O<|rL0 O (fun g2_4=>zN O O) O<|rL0 O (fun g2_4=>zN O O) O<|rL0 O (fun g2_4=>zN O O) O<|rLz [(12,_),(13,_)] O gv1 ⟨O,O,O,O,T⟩ (fun g2_4=>zDe O un9 O O (by omega) (by simp only [Lz,cond_true,decide_eq_true_eq] at g2_4;omega)) O<|B 14 O (fun g2_4=>zCu O us5 ik21 O) O<|rLz [(11,_),(15,_)] O gv1 ⟨O,O,O,O,T⟩ (fun g2_4=>det_call_fn0 O O ok99 (lexer_inWord _) ⟨H,O,T⟩) O<|yQ O (fun h=>h)<|I<|zF O (fun c1=>?_) (fun c1=>?_)
 ·try simp only [R] at c1
  obtain ⟨hlt,hcc⟩:=c1
  have hlt:k<s.size:=by omega
  rw [zKd] at hcc
  refine zI<|zQ<|zS O<|F O<|qH O ⟨by omega,by omega⟩<|F O<|I ?_
  have hg:=zDi hlt
  refine ⟨k+1,⟨by omega,by rw [zMn hg,hp];exact hcc⟩,(by omega),Weak.mk [] ⟨H,H,H,T⟩ O⟩
 ·try simp only [R] at c1
  have hsp:spanB inWordB s.data.toList=k:=span_stop hp (by
    by_cases hlt:k<s.size
    · right;refine ⟨_,zDi hlt,?_⟩;rcases c1 with c1|c1;omega;rw [zKd] at c1;exact c1
    · left;simp;omega)
  refine qN<|G O<|F O<|F O<|I<|o<|X O ?_
  rw [hsp]
theorem zOq (l:List ByteArray) (s:ByteArray) (hl:l.length<=1000000):
    Pur cfg 177 [vSs l,vS s] (vI (idxB l s)):=by
 refine zR Tryz.func177 O Tryz.ntmps177 Tryz.results177 O ?_
 intro z hz
 refine G O<|F O<|I<|zJ<|G O<|F O<|qB O zCr<|F O<|I<|zQ<|zW ⟨[(8,.c _),(0,.c _),(1,.c _),(7,.c _)],[]⟩ (Weak.mk [] ⟨H,H,H,H,T⟩ O)<|qK 1 0 O O (Nat) (fun k=>[(8,vI k)]) (fun k=>[]) (fun k=>k<=l.length/\hasB (l.take k) s=false) (fun k=>l.length-k) ⟨0,⟨by omega,O⟩,Weak.mk [] ⟨H,H,H,H,T⟩ O⟩ ?_
 rintro k ⟨hk,hp⟩
 refine G O<|yH O<|I<|zJ<|zF O (fun c1=>?_) (fun c1=>?_)
 ·try simp only [R] at c1
  obtain ⟨t,ht⟩:=qW l k (by omega)
  refine zI<|zJ<|zQ<|G O<|F O<|F O<|I<|G O<|F O<|F O<|F O<|qC O zCr (by omega) (N ht)<|zK one9 qA O<|zX O (yU O O O)<|I<|zF O (fun c2=>?_) (fun c2=>?_)
  ·try simp only [R] at c2
   refine G O<|F O<|F O<|I<|o<|X O ?_
   rw [idxB_some ht c2 hp]
  ·try simp only [R] at c2
   refine zI<|zS O<|qH O ⟨by omega,by omega⟩<|F O<|I ?_
   refine ⟨k+1,⟨by omega,zOi ht hp (fun e=>c2 e.symm)⟩,(by omega),Weak.mk [] ⟨H,H,H,H,T⟩ O⟩
 ·try simp only [R] at c1
  refine qN<|G O<|F O<|I<|o<|X O ?_
  rw [idxB_none (by rw [yL (by omega)] at hp;exact hp)]
theorem zCb (l:List ByteArray) (s:ByteArray) (hl:l.length<=1000000):
    Pur cfg 143 [vSs l,vS s] (vB (hasB l s)):=by
 refine zR Tryz.func143 O Tryz.ntmps143 Tryz.results143 O ?_
 intro z hz
 refine G O<|F O<|I<|G O<|F O<|F O<|qJ O ok177 (zOq l s hl) ⟨H,O,H,O,T⟩<|zX O (wG O O O)<|F O<|I<|o<|X O ?_
 rw [idxB_has]
theorem lexer_keywords  :
    Pur cfg 144 [] (vSs words):=by
 refine zR Tryz.func144 O Tryz.ntmps144 Tryz.results144 O ?_
 intro z hz
 refine G O<|yA 1 O<|I<|G O<|qJ O ok178 (strings_Fields _ (by decide) kw_ascii) ⟨H,O,T⟩<|F O<|I<|o<|X O ?_
 exact congrArg vSs kw_fields
theorem zSh (s:ByteArray):
    Pur cfg 100 [vS s] (vB (hasB words s)):=by
 refine zR Tryz.func100 O Tryz.ntmps100 Tryz.results100 O ?_
 intro z hz
 refine G O<|F O<|I<|G O<|qJ O ok144 (lexer_keywords) T<|F O<|qJ O ok143 (zCb _ _ (by decide)) ⟨H,O,H,O,T⟩<|F O<|I<|o<|X O ?_
 exact O
theorem zAo (s:ByteArray):
    Pur cfg 49 [vS s] (vB (isNameB s)):=by
 refine zR Tryz.func49 O Tryz.ntmps49 Tryz.results49 O ?_
 intro z hz
 refine G O<|F O<|I<|G O<|F O<|zX O (zBb O O O)<|F O<|rL0 O (fun g1_2=>zN O O) O<|B 6 O (fun g1_2=>zAt O un9 O) O<|B 7 O (fun g1_2=>wQ O O O) O<|yQ O (fun h=>h)<|F O<|rL0 O (fun g1_7=>zN O O) O<|B 11 O (fun g1_7=>zDe O un9 O O (by decide) (size_pos (nm1 g1_7))) O<|B 12 O (fun g1_7=>zCu O us5 ik21 O) O<|B 13 O (fun g1_7=>qL O ok97 (zOg _) ⟨H,O,T⟩) O<|yQ O (fun h=>h)<|F O<|rL0 O (fun g1_13=>zN O O) O<|B 17 O (fun g1_13=>qL O ok98 (zNk s (nm2 g1_13)) ⟨H,O,H,O,T⟩) O<|rL0 O (fun g1_13=>zN O O) O<|B 19 O (fun g1_13=>zAt O un9 O) O<|rLz [(18,_),(20,_)] O gv1 ⟨O,O,O,O,T⟩ (fun g1_13=>yG O O O) O<|yQ O (fun h=>h)<|F O<|rL0 O (fun g1_20=>zN O O) O<|B 24 O (fun g1_20=>qL O ok100 (zSh _) ⟨H,O,T⟩) O<|B 25 O (fun g1_20=>kV O O) O<|yQ O (fun h=>h)<|F O<|I<|o<|X O ?_
 exact congrArg vB (isName_eq s)
theorem base_Words  :
    Pur cfg 114 [] (vSs words):=by
 refine zR Tryz.func114 O Tryz.ntmps114 Tryz.results114 O ?_
 intro z hz
 refine G O<|yA 1 O<|I<|G O<|zX O (qS O zCr zr9 O O O O)<|F O<|I<|o<|X O ?_
 exact O
theorem base_Has (l:List ByteArray) (s:ByteArray) (hl:l.length<=6000000000000):
    Pur cfg 113 [vSs l,vS s] (vB (hasB l s)):=by
 refine zR Tryz.func113 O Tryz.ntmps113 Tryz.results113 O ?_
 intro z hz
 refine G O<|F O<|I<|zJ<|G O<|F O<|I<|zQ<|zW ⟨[(5,.c _),(0,.c _),(1,.c _)],[]⟩ (Weak.mk [] ⟨H,H,H,T⟩ O)<|qK 1 0 O O (Nat) (fun k=>[(5,vI k)]) (fun k=>[]) (fun k=>k<=l.length/\hasB (l.take k) s=false) (fun k=>l.length-k) ⟨0,⟨by omega,O⟩,Weak.mk [] ⟨H,H,H,T⟩ O⟩ ?_
 rintro k ⟨hk,hp⟩
 refine zJ<|G O<|F O<|F O<|qB O zCr<|yH O<|I<|zF O (fun c1=>?_) (fun c1=>?_)
 ·try simp only [R] at c1
  obtain ⟨t,ht⟩:=qW l k (by omega)
  refine zI<|zJ<|zQ<|G O<|F O<|F O<|qC O zCr (by omega) (N ht)<|zK one9 qA O<|F O<|zX O (yU O O O)<|I<|zF O (fun c2=>?_) (fun c2=>?_)
  ·try simp only [R] at c2
   refine G O<|F O<|I<|o<|X O ?_
   rw [kD ht c2]
  ·try simp only [R] at c2
   refine zI<|zS O<|F O<|qH O ⟨by omega,by omega⟩<|F O<|I ?_
   refine ⟨k+1,⟨by omega,zOi ht hp c2⟩,(by omega),Weak.mk [] ⟨H,H,H,T⟩ O⟩
 ·try simp only [R] at c1
  refine qN<|G O<|F O<|I<|o<|X O ?_
  rw [show hasB l s=false by rw [yL (by omega)] at hp;exact hp]
theorem zFv (s:ByteArray):
    Pur cfg 60 [vS s] (vB (isNameB s)):=by
 refine zR Tryz.func60 O Tryz.ntmps60 Tryz.results60 O ?_
 intro z hz
 refine G O<|F O<|I<|zJ<|G O<|F O<|zX O (zAt O un9 O)<|yH O<|F O<|rL0 O (fun g1_3=>zN O O) O<|B 9 O (fun g1_3=>zAt O un9 O) O<|B 10 O (fun g1_3=>yC O O O) O<|r_or O (fun h=>(lzf h))<|F O<|rL0 O (fun g1_8=>qL O ok114 (base_Words) T) O<|rL0 O (fun g1_8=>zN O O) O<|rLz [(14,_),(15,_)] O gv1 ⟨O,O,O,O,T⟩ (fun g1_8=>qL O ok113 (base_Has _ _ (by decide)) ⟨H,O,H,O,T⟩) O<|r_or O (fun h=>(lzf h))<|I<|zF O (fun c1=>?_) (fun c1=>?_)
 ·try simp only [R] at c1
  have hno:=name_short (s:=s) (by simpa using c1)
  refine G O<|F O<|I<|o<|X O ?_
  rw [hno]
 ·try simp only [R] at c1
  obtain ⟨⟨n1,n2⟩,n3⟩:=c1
  have n1:1<=s.size:=by omega
  have n2:s.size<=16:=by omega
  have hne:=name_end n1 n2 n3
  refine zI<|zJ<|G O<|F O<|I<|zQ<|zW ⟨[(3,.c _),(0,.c _)],[]⟩ (Weak.mk [] ⟨H,H,T⟩ O)<|qK 1 0 O O (Nat) (fun k=>[(3,vI k)]) (fun k=>[]) (fun k=>k<=s.size/\okTo s k=true) (fun k=>s.size-k) ⟨0,⟨by omega,O⟩,Weak.mk [] ⟨H,H,T⟩ O⟩ ?_
  rintro k ⟨hk,hp⟩
  refine zJ<|G O<|F O<|F O<|zX O (zAt O un9 O)<|yH O<|I<|zF O (fun c2=>?_) (fun c2=>?_)
  ·try simp only [R] at c2
   have hlt:k<s.size:=by omega
   refine zI<|zJ<|zQ<|G O<|F O<|F O<|zX O (zDe O un9 O O (by omega) (by omega))<|F O<|I<|G O<|F O<|zX O (wG O O O)<|F O<|rL0 O (fun g7_2=>zN O O) O<|B 30 O (fun g7_2=>wQ O O O) O<|yQ O (fun h=>h)<|F O<|rL0 O (fun g7_6=>zN O O) O<|B 34 O (fun g7_6=>yC O O O) O<|B 35 O (fun g7_6=>zN O O) O<|rLz [] O P T (fun g7_9=>zN O O) O<|rLz [(37,_)] O P ⟨O,O,T⟩ (fun g7_9=>wG O O O) O<|rLz [(38,_)] O P ⟨O,O,T⟩ (fun g7_9=>zN O O) O<|rLz [] O P T (fun g7_12=>zN O O) O<|rLz [(40,_)] O P ⟨O,O,T⟩ (fun g7_12=>wQ O O O) O<|rLz [(39,_)] O P ⟨O,O,T⟩ (fun g7_9=>kW O O O (fun h=>kA (by assumption) h) O) O<|rLz [(42,_)] O P ⟨O,O,T⟩ (fun g7_9=>zN O O) O<|rLz [] O P T (fun g7_16=>zN O O) O<|rLz [(44,_)] O P ⟨O,O,T⟩ (fun g7_16=>yG O O O) O<|rLz [(43,_)] O P ⟨O,O,T⟩ (fun g7_9=>zAm O O O O (fun h=>kA (by assumption) (lzf h))) O<|B 36 O (fun g7_6=>kW O O O (fun h=>kA (by assumption) h) O) O<|r_or O (fun h=>(lzf h))<|kO O<|I<|zF O (fun c3=>?_) (fun c3=>?_)
   ·have hbad:okTo s (k+1)=false:=by rw [okTo_next,show nameOk k (s.data.toList.getD k 0)=false from (Bool.not_eq_true' _).mp c3];simp
    refine G O<|F O<|I<|o<|X O ?_
    rw [hne];cases ho:okTo s s.size;rfl;exact absurd (okTo_le (k:=k+1) (by omega) ho) (by rw [hbad];simp)
   ·have hgood:okTo s (k+1)=true:=by rw [okTo_next,hp,show nameOk k (s.data.toList.getD k 0)=true from (Bool.not_eq_false' _).mp c3];rfl
    refine zI<|zS O<|F O<|qH O ⟨by omega,by omega⟩<|F O<|I ?_
    refine ⟨k+1,⟨by omega,hgood⟩,(by omega),Weak.mk [] ⟨H,H,T⟩ O⟩
  ·try simp only [R] at c2
   refine qN<|G O<|F O<|I<|o<|X O ?_
   rw [hne,show s.size=k by omega,hp]
theorem lin_reserved (s:ByteArray):
    Pur cfg 147 [vS s] (vB (hasB words s)):=by
 refine zR Tryz.func147 O Tryz.ntmps147 Tryz.results147 O ?_
 intro z hz
 refine G O<|F O<|I<|zJ<|G O<|F O<|I<|zQ<|zJ<|G O<|zX O (yU O O O)<|F O<|I<|zF O (fun c1=>?_) (fun c1=>?_)
 ·try simp only [R] at c1
  refine zI<|zF O (fun c22=>?_) (fun c22=>?_)
  ·try simp only [R] at c22
   refine G O<|F O<|I<|o<|X O ?_
   rw [kD (l:=words) (k:=0) rfl c1.symm]
  ·try simp only [R] at c22
   refine zI<|G O<|F O<|I<|o<|X O ?_
   exact absurd c1 c22
 ·try simp only [R] at c1
  refine G O<|zX O (yU O O O)<|F O<|I<|zF O (fun c2=>?_) (fun c2=>?_)
  ·try simp only [R] at c2
   refine zI<|zF O (fun c22=>?_) (fun c22=>?_)
   ·try simp only [R] at c22
    refine G O<|F O<|I<|o<|X O ?_
    rw [kD (l:=words) (k:=1) rfl c2.symm]
   ·try simp only [R] at c22
    refine zI<|G O<|F O<|I<|o<|X O ?_
    exact absurd c2 c22
  ·try simp only [R] at c2
   refine G O<|zX O (yU O O O)<|F O<|I<|zF O (fun c3=>?_) (fun c3=>?_)
   ·try simp only [R] at c3
    refine zI<|zF O (fun c22=>?_) (fun c22=>?_)
    ·try simp only [R] at c22
     refine G O<|F O<|I<|o<|X O ?_
     rw [kD (l:=words) (k:=2) rfl c3.symm]
    ·try simp only [R] at c22
     refine zI<|G O<|F O<|I<|o<|X O ?_
     exact absurd c3 c22
   ·try simp only [R] at c3
    refine G O<|zX O (yU O O O)<|F O<|I<|zF O (fun c4=>?_) (fun c4=>?_)
    ·try simp only [R] at c4
     refine zI<|zF O (fun c22=>?_) (fun c22=>?_)
     ·try simp only [R] at c22
      refine G O<|F O<|I<|o<|X O ?_
      rw [kD (l:=words) (k:=3) rfl c4.symm]
     ·try simp only [R] at c22
      refine zI<|G O<|F O<|I<|o<|X O ?_
      exact absurd c4 c22
    ·try simp only [R] at c4
     refine G O<|zX O (yU O O O)<|F O<|I<|zF O (fun c5=>?_) (fun c5=>?_)
     ·try simp only [R] at c5
      refine zI<|zF O (fun c22=>?_) (fun c22=>?_)
      ·try simp only [R] at c22
       refine G O<|F O<|I<|o<|X O ?_
       rw [kD (l:=words) (k:=4) rfl c5.symm]
      ·try simp only [R] at c22
       refine zI<|G O<|F O<|I<|o<|X O ?_
       exact absurd c5 c22
     ·try simp only [R] at c5
      refine G O<|zX O (yU O O O)<|F O<|I<|zF O (fun c6=>?_) (fun c6=>?_)
      ·try simp only [R] at c6
       refine zI<|zF O (fun c22=>?_) (fun c22=>?_)
       ·try simp only [R] at c22
        refine G O<|F O<|I<|o<|X O ?_
        rw [kD (l:=words) (k:=5) rfl c6.symm]
       ·try simp only [R] at c22
        refine zI<|G O<|F O<|I<|o<|X O ?_
        exact absurd c6 c22
      ·try simp only [R] at c6
       refine G O<|zX O (yU O O O)<|F O<|I<|zF O (fun c7=>?_) (fun c7=>?_)
       ·try simp only [R] at c7
        refine zI<|zF O (fun c22=>?_) (fun c22=>?_)
        ·try simp only [R] at c22
         refine G O<|F O<|I<|o<|X O ?_
         rw [kD (l:=words) (k:=6) rfl c7.symm]
        ·try simp only [R] at c22
         refine zI<|G O<|F O<|I<|o<|X O ?_
         exact absurd c7 c22
       ·try simp only [R] at c7
        refine G O<|zX O (yU O O O)<|F O<|I<|zF O (fun c8=>?_) (fun c8=>?_)
        ·try simp only [R] at c8
         refine zI<|zF O (fun c22=>?_) (fun c22=>?_)
         ·try simp only [R] at c22
          refine G O<|F O<|I<|o<|X O ?_
          rw [kD (l:=words) (k:=7) rfl c8.symm]
         ·try simp only [R] at c22
          refine zI<|G O<|F O<|I<|o<|X O ?_
          exact absurd c8 c22
        ·try simp only [R] at c8
         refine G O<|zX O (yU O O O)<|F O<|I<|zF O (fun c9=>?_) (fun c9=>?_)
         ·try simp only [R] at c9
          refine zI<|zF O (fun c22=>?_) (fun c22=>?_)
          ·try simp only [R] at c22
           refine G O<|F O<|I<|o<|X O ?_
           rw [kD (l:=words) (k:=8) rfl c9.symm]
          ·try simp only [R] at c22
           refine zI<|G O<|F O<|I<|o<|X O ?_
           exact absurd c9 c22
         ·try simp only [R] at c9
          refine G O<|zX O (yU O O O)<|F O<|I<|zF O (fun c10=>?_) (fun c10=>?_)
          ·try simp only [R] at c10
           refine zI<|zF O (fun c22=>?_) (fun c22=>?_)
           ·try simp only [R] at c22
            refine G O<|F O<|I<|o<|X O ?_
            rw [kD (l:=words) (k:=9) rfl c10.symm]
           ·try simp only [R] at c22
            refine zI<|G O<|F O<|I<|o<|X O ?_
            exact absurd c10 c22
          ·try simp only [R] at c10
           refine G O<|zX O (yU O O O)<|F O<|I<|zF O (fun c11=>?_) (fun c11=>?_)
           ·try simp only [R] at c11
            refine zI<|zF O (fun c22=>?_) (fun c22=>?_)
            ·try simp only [R] at c22
             refine G O<|F O<|I<|o<|X O ?_
             rw [kD (l:=words) (k:=10) rfl c11.symm]
            ·try simp only [R] at c22
             refine zI<|G O<|F O<|I<|o<|X O ?_
             exact absurd c11 c22
           ·try simp only [R] at c11
            refine G O<|zX O (yU O O O)<|F O<|I<|zF O (fun c12=>?_) (fun c12=>?_)
            ·try simp only [R] at c12
             refine zI<|zF O (fun c22=>?_) (fun c22=>?_)
             ·try simp only [R] at c22
              refine G O<|F O<|I<|o<|X O ?_
              rw [kD (l:=words) (k:=11) rfl c12.symm]
             ·try simp only [R] at c22
              refine zI<|G O<|F O<|I<|o<|X O ?_
              exact absurd c12 c22
            ·try simp only [R] at c12
             refine G O<|zX O (yU O O O)<|F O<|I<|zF O (fun c13=>?_) (fun c13=>?_)
             ·try simp only [R] at c13
              refine zI<|zF O (fun c22=>?_) (fun c22=>?_)
              ·try simp only [R] at c22
               refine G O<|F O<|I<|o<|X O ?_
               rw [kD (l:=words) (k:=12) rfl c13.symm]
              ·try simp only [R] at c22
               refine zI<|G O<|F O<|I<|o<|X O ?_
               exact absurd c13 c22
             ·try simp only [R] at c13
              refine G O<|zX O (yU O O O)<|F O<|I<|zF O (fun c14=>?_) (fun c14=>?_)
              ·try simp only [R] at c14
               refine zI<|zF O (fun c22=>?_) (fun c22=>?_)
               ·try simp only [R] at c22
                refine G O<|F O<|I<|o<|X O ?_
                rw [kD (l:=words) (k:=13) rfl c14.symm]
               ·try simp only [R] at c22
                refine zI<|G O<|F O<|I<|o<|X O ?_
                exact absurd c14 c22
              ·try simp only [R] at c14
               refine G O<|zX O (yU O O O)<|F O<|I<|zF O (fun c15=>?_) (fun c15=>?_)
               ·try simp only [R] at c15
                refine zI<|zF O (fun c22=>?_) (fun c22=>?_)
                ·try simp only [R] at c22
                 refine G O<|F O<|I<|o<|X O ?_
                 rw [kD (l:=words) (k:=14) rfl c15.symm]
                ·try simp only [R] at c22
                 refine zI<|G O<|F O<|I<|o<|X O ?_
                 exact absurd c15 c22
               ·try simp only [R] at c15
                refine G O<|zX O (yU O O O)<|F O<|I<|zF O (fun c16=>?_) (fun c16=>?_)
                ·try simp only [R] at c16
                 refine zI<|zF O (fun c22=>?_) (fun c22=>?_)
                 ·try simp only [R] at c22
                  refine G O<|F O<|I<|o<|X O ?_
                  rw [kD (l:=words) (k:=15) rfl c16.symm]
                 ·try simp only [R] at c22
                  refine zI<|G O<|F O<|I<|o<|X O ?_
                  exact absurd c16 c22
                ·try simp only [R] at c16
                 refine G O<|zX O (yU O O O)<|F O<|I<|zF O (fun c17=>?_) (fun c17=>?_)
                 ·try simp only [R] at c17
                  refine zI<|zF O (fun c22=>?_) (fun c22=>?_)
                  ·try simp only [R] at c22
                   refine G O<|F O<|I<|o<|X O ?_
                   rw [kD (l:=words) (k:=16) rfl c17.symm]
                  ·try simp only [R] at c22
                   refine zI<|G O<|F O<|I<|o<|X O ?_
                   exact absurd c17 c22
                 ·try simp only [R] at c17
                  refine G O<|zX O (yU O O O)<|F O<|I<|zF O (fun c18=>?_) (fun c18=>?_)
                  ·try simp only [R] at c18
                   refine zI<|zF O (fun c22=>?_) (fun c22=>?_)
                   ·try simp only [R] at c22
                    refine G O<|F O<|I<|o<|X O ?_
                    rw [kD (l:=words) (k:=17) rfl c18.symm]
                   ·try simp only [R] at c22
                    refine zI<|G O<|F O<|I<|o<|X O ?_
                    exact absurd c18 c22
                  ·try simp only [R] at c18
                   refine G O<|zX O (yU O O O)<|F O<|I<|zF O (fun c19=>?_) (fun c19=>?_)
                   ·try simp only [R] at c19
                    refine zI<|zF O (fun c22=>?_) (fun c22=>?_)
                    ·try simp only [R] at c22
                     refine G O<|F O<|I<|o<|X O ?_
                     rw [kD (l:=words) (k:=18) rfl c19.symm]
                    ·try simp only [R] at c22
                     refine zI<|G O<|F O<|I<|o<|X O ?_
                     exact absurd c19 c22
                   ·try simp only [R] at c19
                    refine G O<|zX O (yU O O O)<|F O<|I<|zF O (fun c20=>?_) (fun c20=>?_)
                    ·try simp only [R] at c20
                     refine zI<|zF O (fun c22=>?_) (fun c22=>?_)
                     ·try simp only [R] at c22
                      refine G O<|F O<|I<|o<|X O ?_
                      rw [kD (l:=words) (k:=19) rfl c20.symm]
                     ·try simp only [R] at c22
                      refine zI<|G O<|F O<|I<|o<|X O ?_
                      exact absurd c20 c22
                    ·try simp only [R] at c20
                     refine G O<|zX O (yU O O O)<|F O<|I<|zF O (fun c21=>?_) (fun c21=>?_)
                     ·try simp only [R] at c21
                      refine zI<|zF O (fun c22=>?_) (fun c22=>?_)
                      ·try simp only [R] at c22
                       refine G O<|F O<|I<|o<|X O ?_
                       rw [kD (l:=words) (k:=20) rfl c21.symm]
                      ·try simp only [R] at c22
                       refine zI<|G O<|F O<|I<|o<|X O ?_
                       exact absurd c21 c22
                     ·try simp only [R] at c21
                      refine zS O<|zX O (yU O O O)<|F O<|I<|zF O (fun c22=>?_) (fun c22=>?_)
                      ·try simp only [R] at c22
                       refine G O<|F O<|I<|o<|X O ?_
                       rw [kD (l:=words) (k:=21) rfl c22.symm]
                      ·try simp only [R] at c22
                       refine zI<|G O<|F O<|I<|o<|X O ?_
                       rw [show hasB words s=false by
                         simp only [hasB,words,List.any_cons,List.any_nil,Bool.or_eq_false_iff,decide_eq_false_iff_not]
                         exact ⟨fun h=>c1 h.symm,fun h=>c2 h.symm,fun h=>c3 h.symm,fun h=>c4 h.symm,fun h=>c5 h.symm,fun h=>c6 h.symm,fun h=>c7 h.symm,fun h=>c8 h.symm,fun h=>c9 h.symm,fun h=>c10 h.symm,fun h=>c11 h.symm,fun h=>c12 h.symm,fun h=>c13 h.symm,fun h=>c14 h.symm,fun h=>c15 h.symm,fun h=>c16 h.symm,fun h=>c17 h.symm,fun h=>c18 h.symm,fun h=>c19 h.symm,fun h=>c20 h.symm,fun h=>c21 h.symm,fun h=>c22 h.symm,T⟩]
theorem zFb (s:ByteArray):
    Pur cfg 104 [vS s] (vB (isNameB s)):=by
 refine zR Tryz.func104 O Tryz.ntmps104 Tryz.results104 O ?_
 intro z hz
 refine G O<|F O<|I<|zJ<|G O<|F O<|zX O (zAt O un9 O)<|yH O<|F O<|rL0 O (fun g1_3=>zN O O) O<|B 9 O (fun g1_3=>zAt O un9 O) O<|B 10 O (fun g1_3=>yC O O O) O<|r_or O (fun h=>(lzf h))<|F O<|rL0 O (fun g1_8=>zN O O) O<|B 14 O (fun g1_8=>qL O ok147 (lin_reserved _) ⟨H,O,T⟩) O<|r_or O (fun h=>(lzf h))<|F O<|rL0 O (fun g1_12=>zN O O) O<|B 18 O (fun g1_12=>zDe O un9 O O (by decide) (by simp only [Lz,cond_true,cond_false,Bool.and_eq_true,Bool.or_eq_true,Bool.not_eq_true',Bool.not_eq_false',Bool.or_eq_false_iff,Bool.and_eq_false_iff,decide_eq_true_eq,decide_eq_false_iff_not,Bool.not_eq_true,Bool.not_eq_false] at g1_12;omega)) O<|B 19 O (fun g1_12=>zCt O O O) O<|r_or O (fun h=>(lzf h))<|F O<|rL0 O (fun g1_17=>zN O O) O<|B 23 O (fun g1_17=>zDe O un9 O O (by decide) (by simp only [Lz,cond_true,cond_false,Bool.and_eq_true,Bool.or_eq_true,Bool.not_eq_true',Bool.not_eq_false',Bool.or_eq_false_iff,Bool.and_eq_false_iff,decide_eq_true_eq,decide_eq_false_iff_not,Bool.not_eq_true,Bool.not_eq_false] at g1_17;omega)) O<|B 24 O (fun g1_17=>yC O O O) O<|r_or O (fun h=>(lzf h))<|I<|zF O (fun c1=>?_) (fun c1=>?_)
 ·have hno:=ident_no c1
  refine G O<|F O<|I<|o<|X O ?_
  rw [hno]
 ·obtain ⟨n1,n2,hne⟩:=ident_yes c1
  refine zI<|zJ<|G O<|F O<|zX O (zAt O un9 O)<|F O<|I<|zQ<|zW ⟨[(29,.c _),(0,.c _),(28,.c _)],[]⟩ (Weak.mk [] ⟨H,H,H,T⟩ O)<|qK 1 0 O O (Nat) (fun k=>[(29,vI k)]) (fun k=>[]) (fun k=>k<=s.size/\(s.data.toList.take k).all inWordB=true) (fun k=>s.size-k) ⟨0,⟨by omega,O⟩,Weak.mk [] ⟨H,H,H,T⟩ O⟩ ?_
  rintro k ⟨hk,hp⟩
  refine G O<|yH O<|I<|zJ<|zF O (fun c2=>?_) (fun c2=>?_)
  ·try simp only [R] at c2
   have hlt:k<s.size:=by omega
   refine zI<|zJ<|zQ<|G O<|F O<|F O<|I<|G O<|F O<|F O<|zX O (zDe O un9 O O (by omega) (by omega))<|F O<|I<|G O<|F O<|yH O<|F O<|rL0 O (fun g7_2=>zN O O) O<|B 38 O (fun g7_2=>yC O O O) O<|r_or O (fun h=>(lzf h))<|F O<|rL0 O (fun g7_6=>zN O O) O<|B 42 O (fun g7_6=>zCt O O O) O<|B 43 O (fun g7_6=>zN O O) O<|rLz [] O P T (fun g7_9=>zN O O) O<|rLz [(45,_)] O P ⟨O,O,T⟩ (fun g7_9=>yC O O O) O<|B 44 O (fun g7_6=>zAm O O O O (fun h=>kA (by assumption) (lzf h))) O<|yQ O (fun h=>h)<|F O<|rL0 O (fun g7_14=>zN O O) O<|B 50 O (fun g7_14=>kH O O O) O<|yQ O (fun h=>h)<|I<|zF O (fun c3=>?_) (fun c3=>?_)
   ·have hbad:=word_no hlt c3
    refine G O<|F O<|I<|o<|X O ?_
    rw [hne,hbad]
   ·have hgood:=word_yes hlt hp c3
    refine zI<|zS O<|qH O ⟨by omega,by omega⟩<|F O<|I ?_
    refine ⟨k+1,⟨by omega,hgood⟩,(by omega),Weak.mk [] ⟨H,H,H,T⟩ O⟩
  ·try simp only [R] at c2
   refine qN<|G O<|F O<|I<|o<|X O ?_
   rw [hne,word_all hp (by omega)]
theorem zCi (l:Lf) (hl:l.L.length<=6000000000000):
    Pur cfg 102 [vLin l] (vI (linErr l)):=by
 refine zR Tryz.func102 O Tryz.ntmps102 Tryz.results102 O ?_
 intro z hz
 refine G O<|zU O O (qM O O) ?_
 rintro _ _ ⟨b1,rfl,rfl⟩
 refine F O<|I<|zJ<|G O<|zH O kM<|zK wX (Y 0 O) O<|qB O U<|F O<|I<|zQ<|zW ⟨[(8,.c _),(1,.c _),(6,.c _),(7,.c _)],[_]⟩ (Weak.mk [true] ⟨H,H,H,H,T⟩ O)<|qK 1 0 O O (Nat) (fun k=>[(8,vI k)]) (fun k=>[]) (fun k=>k<=l.L.length/\(linOk l=monosOk (prevOf l.L k) (l.L.drop k))) (fun k=>l.L.length-k) ⟨0,⟨by omega,O⟩,Weak.mk [true] ⟨H,H,H,H,T⟩ O⟩ ?_
 rintro k ⟨hk,hp⟩
 refine G O<|yH O<|I<|zJ<|zF O (fun c1=>?_) (fun c1=>?_)
 ·try simp only [R] at c1
  obtain ⟨x,hx⟩:=qW l.L k (by omega)
  refine zI<|zJ<|zQ<|G O<|F O<|qC O U (by omega) (N (by assumption))<|zO zOb qA O<|zU O O (yW O zr69) ?_
  rintro _ _ ⟨b2,rfl,rfl⟩
  refine F O<|D 0 sz69 O<|I<|zJ<|qX 25 mixed (by kernel_rfl) O O<|M O O (zD O zAl O)<|M O O (Q O one9 O (Y 0 O) O)<|M O O (qL O ok104 (zFb _) ⟨H,O,T⟩)<|M O O (kV O O)<|M O O (zN O O)<|f [] O O O O gv1 T (fun g4_4=>zD O zDo O) O<|f [(18,_)] O O O O gv1 ⟨O,O,T⟩ (fun g4_4=>Q O W O (Y 0 O) O) O<|f [(19,_)] O O O O gv1 ⟨O,O,T⟩ (fun g4_4=>yG O O O) O<|M O O (zAm O O O O (fun h=>(lzf h)))<|M O O (zN O O)<|f [] O O O O gv1 T (fun g4_9=>zN O O) O<|f [(23,_)] O O O O gv1 ⟨O,O,T⟩ (fun g4_9=>yC O O O) O<|f [(24,_)] O O O O gv1 ⟨O,O,T⟩ (fun g4_9=>zN O O) O<|f [] O O O O P T (fun g4_12=>zD O kM O) O<|f [(26,_)] O O O O P ⟨O,O,T⟩ (fun g4_12=>Q O wX O (Y 1 O) O) O<|f [] O O O O P T (fun g4_12=>zN O O) O<|f [(28,_)] O O O O P ⟨O,O,T⟩ (fun g4_12=>qZ O O O ⟨by omega,by omega⟩) O<|f [(27,_),(29,_)] O O O O P ⟨O,O,O,O,T⟩ (fun g4_12=>qD O U O O (by simp only [Lz,cond_true,cond_false,Bool.and_eq_true,Bool.or_eq_true,Bool.not_eq_true',Bool.not_eq_false',Bool.or_eq_false_iff,Bool.and_eq_false_iff,decide_eq_true_eq,decide_eq_false_iff_not,Bool.not_eq_true,Bool.not_eq_false] at g4_12;omega) (pv_get (by simp only [Lz,cond_true,cond_false,Bool.and_eq_true,Bool.or_eq_true,Bool.not_eq_true',Bool.not_eq_false',Bool.or_eq_false_iff,Bool.and_eq_false_iff,decide_eq_true_eq,decide_eq_false_iff_not,Bool.not_eq_true,Bool.not_eq_false] at g4_12;omega) (by omega))) O<|f [(30,_)] O O O O P ⟨O,O,T⟩ (fun g4_12=>qI O zAl O) O<|f [(31,_)] O O O O P ⟨O,O,T⟩ (fun g4_12=>Q O one9 O qA O) O<|f [] O O O O P T (fun g4_12=>zD O zAl O) O<|f [(33,_)] O O O O P ⟨O,O,T⟩ (fun g4_12=>Q O one9 O (Y 0 O) O) O<|f [(32,_),(34,_)] O O O O P ⟨O,O,O,O,T⟩ (fun g4_12=>det_sgeq O O O) O<|f [(25,_)] O O O O gv1 ⟨O,O,T⟩ (fun g4_9=>kW O O O (fun h=>kA (by assumption) h) O) O<|M O O (zAm O O O O (fun h=>(lzf h)))<|kB<|I<|zF O (fun c2=>?_) (fun c2=>?_)
  ·refine G O<|F O<|I<|o<|X O ?_
   rw [linErr,hp,zJf hx,show badM l.L k x=true from c2];rfl
  ·refine zI<|zS O<|qH O ⟨by omega,by omega⟩<|F O<|I ?_
   refine ⟨k+1,⟨by omega,by rw [hp,zJf hx,show badM l.L k x=false from c2];rfl⟩,(by omega),Weak.mk [false,true] ⟨H,H,H,H,T⟩ O⟩
 ·try simp only [R] at c1
  refine qN<|G O<|F O<|I<|o<|X O ?_
  rw [linErr,hp,monos_end (by omega)];rfl
theorem zDw (l:Lf) (hl:l.L.length<=6000000000000):
    Pur cfg 183 [vLin l] (vB (linOk l)):=by
 refine zR Tryz.func183 O Tryz.ntmps183 Tryz.results183 O ?_
 intro z hz
 refine G O<|zU O O (qM O O) ?_
 rintro _ _ ⟨b1,rfl,rfl⟩
 refine F O<|I<|zJ<|G O<|F O<|I<|zQ<|zW ⟨[(3,.c _),(1,.c _)],[_]⟩ (Weak.mk [true] ⟨H,H,T⟩ O)<|qK 1 0 O O (Nat) (fun k=>[(3,vI k)]) (fun k=>[]) (fun k=>k<=l.L.length/\(linOk l=monosOk (prevOf l.L k) (l.L.drop k))) (fun k=>l.L.length-k) ⟨0,⟨by omega,O⟩,Weak.mk [true] ⟨H,H,T⟩ O⟩ ?_
 rintro k ⟨hk,hp⟩
 refine zJ<|G O<|F O<|zH O kM<|zK wX (Y 0 O) O<|qB O U<|yH O<|I<|zF O (fun c1=>?_) (fun c1=>?_)
 ·try simp only [R] at c1
  obtain ⟨x,hx⟩:=qW l.L k (by omega)
  refine zI<|zJ<|zQ<|zJ<|qX 37 mixed (by kernel_rfl) O O<|M O O (zD O kM O)<|M O O (Q O wX O (Y 0 O) O)<|M O O (zN O O)<|M O O (qD O U O O (by omega) (N (by assumption)))<|M O O (qI O zAl O)<|M O O (Q O one9 O qA O)<|M O O (qL O ok60 (zFv _) ⟨H,O,T⟩)<|M O O (kV O O)<|M O O (zN O O)<|f [] O O O O gv1 T (fun g4_8=>zD O kM O) O<|f [(20,_)] O O O O gv1 ⟨O,O,T⟩ (fun g4_8=>Q O wX O (Y 0 O) O) O<|f [] O O O O gv1 T (fun g4_8=>zN O O) O<|f [(21,_),(22,_)] O O O O gv1 ⟨O,O,O,O,T⟩ (fun g4_8=>qD O U O O (by omega) (N (by assumption))) O<|f [(23,_)] O O O O gv1 ⟨O,O,T⟩ (fun g4_8=>qI O zDo O) O<|f [(24,_)] O O O O gv1 ⟨O,O,T⟩ (fun g4_8=>Q O W O qA O) O<|f [(25,_)] O O O O gv1 ⟨O,O,T⟩ (fun g4_8=>yG O O O) O<|M O O (zAm O O O O (fun h=>(lzf h)))<|M O O (zN O O)<|f [] O O O O gv1 T (fun g4_17=>zN O O) O<|f [(29,_)] O O O O gv1 ⟨O,O,T⟩ (fun g4_17=>yC O O O) O<|f [(30,_)] O O O O gv1 ⟨O,O,T⟩ (fun g4_17=>zN O O) O<|f [] O O O O P T (fun g4_20=>zD O kM O) O<|f [(32,_)] O O O O P ⟨O,O,T⟩ (fun g4_20=>Q O wX O (Y 0 O) O) O<|f [] O O O O P T (fun g4_20=>zN O O) O<|f [(34,_)] O O O O P ⟨O,O,T⟩ (fun g4_20=>qZ O O O ⟨by omega,by omega⟩) O<|f [(33,_),(35,_)] O O O O P ⟨O,O,O,O,T⟩ (fun g4_20=>qD O U O O (by simp only [Lz,cond_true,cond_false,Bool.and_eq_true,Bool.or_eq_true,Bool.not_eq_true',Bool.not_eq_false',Bool.or_eq_false_iff,Bool.and_eq_false_iff,decide_eq_true_eq,decide_eq_false_iff_not,Bool.not_eq_true,Bool.not_eq_false] at g4_20;omega) (pv_get (by simp only [Lz,cond_true,cond_false,Bool.and_eq_true,Bool.or_eq_true,Bool.not_eq_true',Bool.not_eq_false',Bool.or_eq_false_iff,Bool.and_eq_false_iff,decide_eq_true_eq,decide_eq_false_iff_not,Bool.not_eq_true,Bool.not_eq_false] at g4_20;omega) (by omega))) O<|f [(36,_)] O O O O P ⟨O,O,T⟩ (fun g4_20=>qI O zAl O) O<|f [(37,_)] O O O O P ⟨O,O,T⟩ (fun g4_20=>Q O one9 O qA O) O<|f [] O O O O P T (fun g4_20=>zD O kM O) O<|f [(39,_)] O O O O P ⟨O,O,T⟩ (fun g4_20=>Q O wX O (Y 0 O) O) O<|f [] O O O O P T (fun g4_20=>zN O O) O<|f [(40,_),(41,_)] O O O O P ⟨O,O,O,O,T⟩ (fun g4_20=>qD O U O O (by omega) (N (by assumption))) O<|f [(42,_)] O O O O P ⟨O,O,T⟩ (fun g4_20=>qI O zAl O) O<|f [(43,_)] O O O O P ⟨O,O,T⟩ (fun g4_20=>Q O one9 O qA O) O<|f [(38,_),(44,_)] O O O O P ⟨O,O,O,O,T⟩ (fun g4_20=>det_sgeq O O O) O<|f [(31,_)] O O O O gv1 ⟨O,O,T⟩ (fun g4_17=>kW O O O (fun h=>kA (by assumption) h) O) O<|M O O (zAm O O O O (fun h=>(lzf h)))<|kB<|I<|zF O (fun c2=>?_) (fun c2=>?_)
  ·refine G O<|F O<|I<|o<|X O ?_
   rw [hp,zJf hx,show badM l.L k x=true from c2];rfl
  ·refine zI<|zS O<|F O<|qH O ⟨by omega,by omega⟩<|F O<|I ?_
   refine ⟨k+1,⟨by omega,by rw [hp,zJf hx,show badM l.L k x=false from c2];rfl⟩,(by omega),Weak.mk [true] ⟨H,H,T⟩ O⟩
 ·try simp only [R] at c1
  refine qN<|G O<|F O<|I<|o<|X O ?_
  rw [hp,monos_end (by omega)]
theorem lin_Var (s:ByteArray):
    Pur cfg 52 [vS s] (vLin (varL s)):=by
 refine zR Tryz.func52 O Tryz.ntmps52 Tryz.results52 O ?_
 intro z hz
 refine G O<|zU O O (qE [none,some 2] O zr41 O) ?_
 rintro _ _ ⟨b1,rfl,rfl⟩
 refine I<|zJ<|G O<|F O<|qJ O ok104 (zFb _) ⟨H,O,T⟩<|kO O<|I<|zF O (fun c1=>?_) (fun c1=>?_)
 ·try simp only [R] at c1
  refine G O<|qV [none,some 2] O zr41 pl41<|D 0 sz41 O<|I<|o<|fin1 (zV yY O (Y 0 O) O) ?_
  rw [varL,c1];rfl
 ·try simp only [R] at c1
  refine zI<|G O<|F O<|yP O zr69 pl69<|zX O (qS O U zr69 O O O O)<|yP O zr41 pl41<|D 0 sz41 O<|I<|o<|fin1 (zV yY O (Y 0 O) O) ?_
  rw [varL,c1];rfl
theorem zSg (k:Int):
    Pur cfg 56 [vI k] (vLin ⟨k,[]⟩):=by
 refine zR Tryz.func56 O Tryz.ntmps56 Tryz.results56 O ?_
 intro z hz
 refine G O<|zU O O (qE [none,some 2] O zr41 O) ?_
 rintro _ _ ⟨b1,rfl,rfl⟩
 refine I<|G O<|F O<|qV [none,some 2] O zr41 pl41<|D 0 sz41 O<|I<|o<|fin1 (zV yY O (Y 0 O) O) ?_
 exact O
theorem zHf (s:ByteArray):
    Pur cfg 75 [vS s] (vLin (varL s)):=by
 refine zR Tryz.func75 O Tryz.ntmps75 Tryz.results75 O ?_
 intro z hz
 refine G O<|zU O O (qE [none,some 2] O zr41 O) ?_
 rintro _ _ ⟨b1,rfl,rfl⟩
 refine I<|zJ<|G O<|F O<|qJ O ok60 (zFv _) ⟨H,O,T⟩<|kO O<|I<|zF O (fun c1=>?_) (fun c1=>?_)
 ·try simp only [R] at c1
  refine G O<|qV [none,some 2] O zr41 pl41<|D 0 sz41 O<|I<|o<|fin1 (zV yY O (Y 0 O) O) ?_
  rw [varL,c1];rfl
 ·try simp only [R] at c1
  refine zI<|G O<|F O<|yP O zr69 pl69<|zX O (qS O U zr69 O O O O)<|yP O zr41 pl41<|D 0 sz41 O<|I<|o<|fin1 (zV yY O (Y 0 O) O) ?_
  rw [varL,c1];rfl
theorem base_Lin (a b:Lf) (ha:a.L.length<=6000000000000):
    Pur cfg 175 [vLin a,vLin b] (vB (decide (a=b))):=by
 refine zR Tryz.func175 O Tryz.ntmps175 Tryz.results175 O ?_
 intro z hz
 refine G O<|zU O O (qM O O) ?_
 rintro _ _ ⟨b1,rfl,rfl⟩
 refine zU O O (qM O O) ?_
 rintro _ _ ⟨b2,rfl,rfl⟩
 refine F O<|I<|zJ<|G O<|zH O zCw<|zK W (Y 1 O) O<|zH O zCw<|zK W (Y 0 O) O<|yR O<|F O<|rL0 O (fun g1_5=>zD O kM O) O<|B 12 O (fun g1_5=>Q O wX O (Y 1 O) O) O<|B 13 O (fun g1_5=>yB O U O) O<|rL0 O (fun g1_5=>zD O kM O) O<|B 15 O (fun g1_5=>Q O wX O (Y 0 O) O) O<|B 16 O (fun g1_5=>yB O U O) O<|rLz [(14,_),(17,_)] O gv1 ⟨O,O,O,O,T⟩ (fun g1_5=>kH O O O) O<|r_or O (fun h=>(lzf h))<|I<|zF O (fun c1=>?_) (fun c1=>?_)
 ·try simp only [R] at c1
  refine G O<|F O<|I<|o<|X O ?_
  rw [yJ (fun h=>by rw [h] at c1;simp at c1)]
 ·try simp only [R] at c1
  refine zI<|zJ<|G O<|F O<|I<|zQ<|zW ⟨[(5,.c _),(2,.c _),(3,.c _)],[_,_]⟩ (Weak.mk [true,true] ⟨H,H,H,T⟩ O)<|qK 1 0 O O (Nat) (fun k=>[(5,vI k)]) (fun k=>[]) (fun k=>k<=a.L.length/\(a.L.take k=b.L.take k)) (fun k=>a.L.length-k) ⟨0,⟨by omega,O⟩,Weak.mk [true,true] ⟨H,H,H,T⟩ O⟩ ?_
  rintro k ⟨hk,hp⟩
  refine zJ<|G O<|F O<|zH O kM<|zK wX (Y 1 O) O<|qB O U<|yH O<|I<|zF O (fun c2=>?_) (fun c2=>?_)
  ·try simp only [R] at c2
   obtain ⟨x,hx⟩:=qW a.L k (by omega)
   obtain ⟨y,hy⟩:=qW b.L k (by omega)
   refine zI<|zJ<|zQ<|zJ<|qX 11 mixed (by kernel_rfl) O O<|M O O (zD O kM O)<|M O O (Q O wX O (Y 1 O) O)<|M O O (zN O O)<|M O O (qD O U O O (by omega) (N (by assumption)))<|M O O (zY O zOb O qA O)<|M O O (zD O kM O)<|M O O (Q O wX O (Y 0 O) O)<|M O O (zN O O)<|M O O (qD O U O O (by omega) (N (by assumption)))<|M O O (zY O zOb O qA O)<|M O O (zAu O fl69 O O O)<|kB<|I<|zF O (fun c3=>?_) (fun c3=>?_)
   ·have hne:=mono_ne c3
    refine G O<|F O<|I<|o<|X O ?_
    rw [yJ (fun h=>zEh hx hy hne (by rw [h]))]
   ·have heq:=mono_eq c3
    refine zI<|zS O<|F O<|qH O ⟨by omega,by omega⟩<|F O<|I ?_
    refine ⟨k+1,⟨by omega,zBc hx hy hp heq⟩,(by omega),Weak.mk [true,true] ⟨H,H,H,T⟩ O⟩
  ·try simp only [R] at c2
   refine qN<|G O<|F O<|I<|o<|X O ?_
   rw [wM (lin_mk (by omega) (zDd hp (by omega) (by omega)))]
theorem zRo (l:Lf) (s:ByteArray) (hl:l.L.length<=6000000000000):
    Pur cfg 74 [vLin l,vS s] (vI (coeffL l.L s)):=by
 refine zR Tryz.func74 O Tryz.ntmps74 Tryz.results74 O ?_
 intro z hz
 refine G O<|zU O O (qM O O) ?_
 rintro _ _ ⟨b1,rfl,rfl⟩
 refine F O<|I<|zJ<|G O<|F O<|I<|zQ<|zW ⟨[(5,.c _),(1,.c _),(2,.c _)],[_]⟩ (Weak.mk [true] ⟨H,H,H,T⟩ O)<|qK 1 0 O O (Nat) (fun k=>[(5,vI k)]) (fun k=>[]) (fun k=>k<=l.L.length/\(coeffL l.L s=coeffL (l.L.drop k) s)) (fun k=>l.L.length-k) ⟨0,⟨by omega,O⟩,Weak.mk [true] ⟨H,H,H,T⟩ O⟩ ?_
 rintro k ⟨hk,hp⟩
 refine zJ<|G O<|F O<|zH O kM<|zK wX (Y 0 O) O<|qB O U<|yH O<|I<|zF O (fun c1=>?_) (fun c1=>?_)
 ·try simp only [R] at c1
  obtain ⟨x,hx⟩:=qW l.L k (by omega)
  refine zI<|zJ<|zQ<|G O<|zH O kM<|zK wX (Y 0 O) O<|F O<|qC O U (by omega) (N (by assumption))<|qQ O zAl<|zK one9 qA O<|F O<|zX O (yU O O O)<|I<|zF O (fun c2=>?_) (fun c2=>?_)
  ·try simp only [R] at c2
   refine G O<|zH O kM<|zK wX (Y 0 O) O<|F O<|qC O U (by omega) (N (by assumption))<|qQ O zDo<|zK W qA O<|F O<|I<|o<|X O ?_
   rw [hp,qR hx,coeffL,if_pos c2]
  ·try simp only [R] at c2
   refine zI<|zS O<|F O<|qH O ⟨by omega,by omega⟩<|F O<|I ?_
   refine ⟨k+1,⟨by omega,by rw [hp,qR hx,coeffL,if_neg c2]⟩,(by omega),Weak.mk [true] ⟨H,H,H,T⟩ O⟩
 ·try simp only [R] at c1
  refine qN<|G O<|F O<|I<|o<|X O ?_
  rw [hp,kC (by omega)];rfl
theorem zKg (l:List Ix) (c:C) (p:Ix->Bool) (hl:l.length<=6000000000000) (hc:∀x,x∈l->FnPur cfg c [vIndex x] (vB (p x))):
    Pur cfg 295 [vIndices l,.c c] (vI (idxOf p l)):=by
 refine zR Tryz.func295 O Tryz.ntmps295 Tryz.results295 O ?_
 intro z hz
 refine G O<|F O<|I<|zJ<|G O<|F O<|qB O A<|F O<|I<|zQ<|zW ⟨[(8,.c _),(0,.c _),(1,.c _),(7,.c _)],[]⟩ (Weak.mk [] ⟨H,H,H,H,T⟩ O)<|qK 1 0 O O (Nat) (fun k=>[(8,vI k)]) (fun k=>[]) (fun k=>k<=l.length/\((l.take k).any p=false)) (fun k=>l.length-k) ⟨0,⟨by omega,O⟩,Weak.mk [] ⟨H,H,H,H,T⟩ O⟩ ?_
 rintro k ⟨hk,hp⟩
 refine G O<|yH O<|I<|zJ<|zF O (fun c1=>?_) (fun c1=>?_)
 ·try simp only [R] at c1
  obtain ⟨x,hx⟩:=qW l k (by omega)
  refine zI<|zJ<|zQ<|G O<|F O<|F O<|I<|G O<|F O<|F O<|F O<|qC O A (by omega) (N (by assumption))<|zO zOa qA O<|zX O (kR O O (hc _ (zZ hx)) ⟨H,O,T⟩)<|I<|zF O (fun c2=>?_) (fun c2=>?_)
  ·try simp only [R] at c2
   refine G O<|F O<|F O<|I<|o<|X O ?_
   rw [zPr hx c2 hp]
  ·try simp only [R] at c2
   refine zI<|zS O<|qH O ⟨by omega,by omega⟩<|F O<|I ?_
   refine ⟨k+1,⟨by omega,zQf hx hp c2⟩,(by omega),Weak.mk [] ⟨H,H,H,H,T⟩ O⟩
 ·try simp only [R] at c1
  refine qN<|G O<|F O<|I<|o<|X O ?_
  rw [zJg (by rw [yL (by omega)] at hp;exact hp)]
theorem zAy (l:List Ix) (c:C) (p:Ix->Bool) (hl:l.length<=6000000000000) (hc:∀x,x∈l->FnPur cfg c [vIndex x] (vB (p x))):
    Pur cfg 271 [vIndices l,.c c] (vB (l.any p)):=by
 refine zR Tryz.func271 O Tryz.ntmps271 Tryz.results271 O ?_
 intro z hz
 refine G O<|F O<|I<|G O<|F O<|F O<|qJ O ok295 (zKg l c p hl hc) ⟨H,O,H,O,T⟩<|zX O (wG O O O)<|F O<|I<|o<|X O ?_
 rw [zLy]
end Go.W
