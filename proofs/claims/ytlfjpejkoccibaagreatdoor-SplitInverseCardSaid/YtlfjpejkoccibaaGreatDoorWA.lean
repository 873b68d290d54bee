/-
  Walks: what functions of the program compute. Printed by wip/gen/mk2.py.
  Conditions: none.
-/
import Derived.Test.YtlfjpejkoccibaaGreatDoorFacts
import Derived.Test.YtlfjpejkoccibaaGreatDoorPlain
set_option linter.unusedSimpArgs false
set_option linter.unusedVariables false
set_option maxRecDepth 10000
namespace Go.W
open Go Go.Eng Go.Proofs Go.L41 Go.Br
attribute [local irreducible] AWP RWP TD finQ
theorem kw_ascii:∀(j:Nat) (b:UInt8),(bs kwBytes).data.toList[j]? =some b->b.toNat<128:=by
  intro j b h
  have:(kwBytes.all fun c=>decide (c.toNat<128))=true:=by decide
  rw [List.all_eq_true] at this
  simpa using this b (List.mem_of_getElem? h)
theorem kw_fields:(Lib.fields kwBytes).map bs=words:=by decide+kernel
theorem nm1 {s:ByteArray} (h:Lz (!decide (s=bs [])&&decide ((s.size:Int)<=16)) true=true):¬s=bs []:=by
  simp only [Lz,cond_true,Bool.and_eq_true,Bool.not_eq_true',decide_eq_false_iff_not] at h
  exact h.1
theorem nm2 {s:ByteArray} {p:Bool} (h:Lz (!decide (s=bs [])&&decide ((s.size:Int)<=16)&&p) true=true):s.size<=1000000:=by
  simp only [Lz,cond_true,Bool.and_eq_true,decide_eq_true_eq] at h
  omega
theorem kE:aggT Tryz.prog 41=some 2:=by kernel_rfl
theorem zMq:aggT Tryz.prog 69=some 2:=by kernel_rfl
theorem zNl:aggT Tryz.prog 72=some 4:=by kernel_rfl
theorem g:elemT Tryz.prog 34=some (72,4,72):=by kernel_rfl
theorem P:elemT Tryz.prog 39=some (69,2,24):=by kernel_rfl
theorem zNk:elemT Tryz.prog 105=some (9,1,16):=by kernel_rfl
theorem zGd:fieldT Tryz.prog 41 0=some (0,2):=by kernel_rfl
theorem wU:fieldT Tryz.prog 41 1=some (1,39):=by kernel_rfl
theorem zCe:fieldT Tryz.prog 69 0=some (0,9):=by kernel_rfl
theorem zGc:fieldT Tryz.prog 69 1=some (1,2):=by kernel_rfl
theorem fl69:flatK Tryz.prog 69=some [.str,.int]:=by kernel_rfl
theorem ik21:intT Tryz.prog 21=some .i32:=by kernel_rfl
theorem mixed:Tryz.prog.follows .mixedOrders=true:=by kernel_rfl
theorem ok60:callOk Tryz.prog 60=true:=by kernel_rfl
theorem ok97:callOk Tryz.prog 97=true:=by kernel_rfl
theorem ok98:callOk Tryz.prog 98=true:=by kernel_rfl
theorem ok99:callOk Tryz.prog 99=true:=by kernel_rfl
theorem ok100:callOk Tryz.prog 100=true:=by kernel_rfl
theorem ok104:callOk Tryz.prog 104=true:=by kernel_rfl
theorem ok113:callOk Tryz.prog 113=true:=by kernel_rfl
theorem ok114:callOk Tryz.prog 114=true:=by kernel_rfl
theorem ok142:callOk Tryz.prog 142=true:=by kernel_rfl
theorem ok143:callOk Tryz.prog 143=true:=by kernel_rfl
theorem ok144:callOk Tryz.prog 144=true:=by kernel_rfl
theorem ok147:callOk Tryz.prog 147=true:=by kernel_rfl
theorem ok177:callOk Tryz.prog 177=true:=by kernel_rfl
theorem ok178:callOk Tryz.prog 178=true:=by kernel_rfl
theorem ok281:callOk Tryz.prog 281=true:=by kernel_rfl
theorem ok295:callOk Tryz.prog 295=true:=by kernel_rfl
theorem n:oneT Tryz.prog 2=true:=by kernel_rfl
theorem one9:oneT Tryz.prog 9=true:=by kernel_rfl
theorem zDl:oneT Tryz.prog 39=true:=by kernel_rfl
theorem pl41:placesT Tryz.prog 41=some [(0,1),(1,1)]:=by kernel_rfl
theorem pl69:placesT Tryz.prog 69=some [(0,1),(1,1)]:=by kernel_rfl
theorem sz41:(Tryz.prog.info? 41).map (·.size)=some 2:=by kernel_rfl
theorem sz69:(Tryz.prog.info? 69).map (·.size)=some 2:=by kernel_rfl
theorem un9:Tryz.prog.underlying 9=some .string:=by kernel_rfl
theorem us5:(Tryz.prog.underlying 5).isSome=true:=by kernel_rfl
theorem zr9:zeroT Tryz.prog 9=some [(Value.string (ByteArray.mk #[]))]:=by kernel_rfl
theorem zr41:zeroT Tryz.prog 41=some [(Value.int IntKind.i64 0),(Value.slice none 0 0)]:=by kernel_rfl
theorem zr69:zeroT Tryz.prog 69=some [(Value.string (ByteArray.mk #[])),(Value.int IntKind.i64 0)]:=by kernel_rfl
theorem zMv (n:Int):
    Pur cfg 97 [vR n] (vB (letterI n)):=by
 refine zQ Tryz.func97 O Tryz.ntmps97 Tryz.results97 O ?_
 intro z hz
 refine F O<|A O<|H<|F O<|A O<|zR O (wK O O O)<|A O<|M O (fun g1_2=>w O O) O<|B 6 O (fun g1_2=>wV O O O) O<|kD O (fun h=>h)<|A O<|H<|o<|X O ?_
 exact O
theorem lexer_digit (n:Int):
    Pur cfg 142 [vR n] (vB (digitI n)):=by
 refine zQ Tryz.func142 O Tryz.ntmps142 Tryz.results142 O ?_
 intro z hz
 refine F O<|A O<|H<|F O<|A O<|zR O (wK O O O)<|A O<|M O (fun g1_2=>w O O) O<|B 6 O (fun g1_2=>wV O O O) O<|kD O (fun h=>h)<|A O<|H<|o<|X O ?_
 exact O
theorem lexer_inWord (n:Int):
    Pur cfg 99 [vR n] (vB (inWordI n)):=by
 refine zQ Tryz.func99 O Tryz.ntmps99 Tryz.results99 O ?_
 intro z hz
 refine F O<|A O<|H<|F O<|A O<|qG O ok97 (zMv _) ⟨G,O,T⟩<|A O<|M O (fun g1_2=>w O O) O<|B 6 O (fun g1_2=>qI O ok142 (lexer_digit _) ⟨G,O,T⟩) O<|j O (fun h=>(lzf h))<|A O<|M O (fun g1_6=>w O O) O<|B 10 O (fun g1_6=>yX O O O) O<|j O (fun h=>(lzf h))<|A O<|H<|o<|X O ?_
 exact O
theorem zMf (s:ByteArray) (hs:s.size<=1000000):
    Pur cfg 98 [vS s,.c (.fn (.func 99) [] [])] (vI (spanB inWordB s.data.toList)):=by
 refine zQ Tryz.func98 O Tryz.ntmps98 Tryz.results98 O ?_
 intro z hz
 refine F O<|A O<|H<|F O<|A O<|H<|zI<|zS<|zV ⟨[(5,.c _),(0,.c _),(1,.c _)],[]⟩ (Weak.mk [] ⟨G,G,G,T⟩ O)<|qO 1 0 O O (Nat) (fun k=>[(5,vI k)]) (fun k=>[]) (fun k=>k<=s.size/\(s.data.toList.take k).all inWordB=true) (fun k=>s.size-k) ⟨0,⟨by omega,O⟩,Weak.mk [] ⟨G,G,G,T⟩ O⟩ ?_
 rintro k ⟨hk,hp⟩
 refine zI<|F O<|A O<|A O<|zR O (zAg O un9 O)<|yN O<|A O<|M O (fun g2_4=>w O O) O<|M O (fun g2_4=>w O O) O<|M O (fun g2_4=>w O O) O<|rLz [(12,_),(13,_)] O gv1 ⟨O,O,O,O,T⟩ (fun g2_4=>zCs O un9 O O (by omega) (by simp only [Lz,cond_true,decide_eq_true_eq] at g2_4;omega)) O<|B 14 O (fun g2_4=>zCh O us5 ik21 O) O<|rLz [(11,_),(15,_)] O gv1 ⟨O,O,O,O,T⟩ (fun g2_4=>det_call_fn0 O O ok99 (lexer_inWord _) ⟨G,O,T⟩) O<|kD O (fun h=>h)<|H<|zD O (fun c1=>?_) (fun c1=>?_)
 ·try simp only [I] at c1
  obtain ⟨hlt,hcc⟩:=c1
  have hlt:k<s.size:=by omega
  rw [zIt] at hcc
  refine zH<|zS<|zT O<|A O<|qK O ⟨by omega,by omega⟩<|A O<|H ?_
  have hg:=zCv hlt
  refine ⟨k+1,⟨by omega,by rw [zLj hg,hp];exact hcc⟩,(by omega),Weak.mk [] ⟨G,G,G,T⟩ O⟩
 ·try simp only [I] at c1
  have hsp:spanB inWordB s.data.toList=k:=span_stop hp (by
    by_cases hlt:k<s.size
    · right;refine ⟨_,zCv hlt,?_⟩;rcases c1 with c1|c1;omega;rw [zIt] at c1;exact c1
    · left;simp;omega)
  refine qQ<|F O<|A O<|A O<|H<|o<|X O ?_
  rw [hsp]
theorem zNe (l:List ByteArray) (s:ByteArray) (hl:l.length<=1000000):
    Pur cfg 177 [vSs l,vS s] (vI (idxB l s)):=by
 refine zQ Tryz.func177 O Tryz.ntmps177 Tryz.results177 O ?_
 intro z hz
 refine F O<|A O<|H<|zI<|F O<|A O<|qB O zNk<|A O<|H<|zS<|zV ⟨[(8,.c _),(0,.c _),(1,.c _),(7,.c _)],[]⟩ (Weak.mk [] ⟨G,G,G,G,T⟩ O)<|qO 1 0 O O (Nat) (fun k=>[(8,vI k)]) (fun k=>[]) (fun k=>k<=l.length/\hasB (l.take k) s=false) (fun k=>l.length-k) ⟨0,⟨by omega,O⟩,Weak.mk [] ⟨G,G,G,G,T⟩ O⟩ ?_
 rintro k ⟨hk,hp⟩
 refine F O<|yN O<|H<|zI<|zD O (fun c1=>?_) (fun c1=>?_)
 ·try simp only [I] at c1
  obtain ⟨t,ht⟩:=qZ l k (by omega)
  refine zH<|zI<|zS<|F O<|A O<|A O<|H<|F O<|A O<|A O<|A O<|qD O zNk (by omega) (v ht)<|zK one9 qA O<|zR O (yM O O O)<|H<|zD O (fun c2=>?_) (fun c2=>?_)
  ·try simp only [I] at c2
   refine F O<|A O<|A O<|H<|o<|X O ?_
   rw [idxB_some ht c2 hp]
  ·try simp only [I] at c2
   refine zH<|zT O<|qK O ⟨by omega,by omega⟩<|A O<|H ?_
   refine ⟨k+1,⟨by omega,zMx ht hp (fun e=>c2 e.symm)⟩,(by omega),Weak.mk [] ⟨G,G,G,G,T⟩ O⟩
 ·try simp only [I] at c1
  refine qQ<|F O<|A O<|H<|o<|X O ?_
  rw [idxB_none (by rw [kG (by omega)] at hp;exact hp)]
theorem zBm (l:List ByteArray) (s:ByteArray) (hl:l.length<=1000000):
    Pur cfg 143 [vSs l,vS s] (vB (hasB l s)):=by
 refine zQ Tryz.func143 O Tryz.ntmps143 Tryz.results143 O ?_
 intro z hz
 refine F O<|A O<|H<|F O<|A O<|A O<|qG O ok177 (zNe l s hl) ⟨G,O,G,O,T⟩<|zR O (wK O O O)<|A O<|H<|o<|X O ?_
 rw [idxB_has]
theorem lexer_keywords  :
    Pur cfg 144 [] (vSs words):=by
 refine zQ Tryz.func144 O Tryz.ntmps144 Tryz.results144 O ?_
 intro z hz
 refine F O<|qX 1 O<|H<|F O<|qG O ok178 (strings_Fields _ (by decide) kw_ascii) ⟨G,O,T⟩<|A O<|H<|o<|X O ?_
 exact congrArg vSs kw_fields
theorem zQa (s:ByteArray):
    Pur cfg 100 [vS s] (vB (hasB words s)):=by
 refine zQ Tryz.func100 O Tryz.ntmps100 Tryz.results100 O ?_
 intro z hz
 refine F O<|A O<|H<|F O<|qG O ok144 (lexer_keywords) T<|A O<|qG O ok143 (zBm _ _ (by decide)) ⟨G,O,G,O,T⟩<|A O<|H<|o<|X O ?_
 exact O
theorem zAa (s:ByteArray):
    Pur cfg 49 [vS s] (vB (isNameB s)):=by
 refine zQ Tryz.func49 O Tryz.ntmps49 Tryz.results49 O ?_
 intro z hz
 refine F O<|A O<|H<|F O<|A O<|zR O (zCw O O O)<|A O<|M O (fun g1_2=>w O O) O<|B 6 O (fun g1_2=>zAg O un9 O) O<|B 7 O (fun g1_2=>wV O O O) O<|kD O (fun h=>h)<|A O<|M O (fun g1_7=>w O O) O<|B 11 O (fun g1_7=>zCs O un9 O O (by decide) (size_pos (nm1 g1_7))) O<|B 12 O (fun g1_7=>zCh O us5 ik21 O) O<|B 13 O (fun g1_7=>qI O ok97 (zMv _) ⟨G,O,T⟩) O<|kD O (fun h=>h)<|A O<|M O (fun g1_13=>w O O) O<|B 17 O (fun g1_13=>qI O ok98 (zMf s (nm2 g1_13)) ⟨G,O,G,O,T⟩) O<|M O (fun g1_13=>w O O) O<|B 19 O (fun g1_13=>zAg O un9 O) O<|rLz [(18,_),(20,_)] O gv1 ⟨O,O,O,O,T⟩ (fun g1_13=>yX O O O) O<|kD O (fun h=>h)<|A O<|M O (fun g1_20=>w O O) O<|B 24 O (fun g1_20=>qI O ok100 (zQa _) ⟨G,O,T⟩) O<|B 25 O (fun g1_20=>wC O O) O<|kD O (fun h=>h)<|A O<|H<|o<|X O ?_
 exact congrArg vB (isName_eq s)
theorem base_Words  :
    Pur cfg 114 [] (vSs words):=by
 refine zQ Tryz.func114 O Tryz.ntmps114 Tryz.results114 O ?_
 intro z hz
 refine F O<|qX 1 O<|H<|F O<|zR O (qW O zNk zr9 O O O O)<|A O<|H<|o<|X O ?_
 exact O
theorem base_Has (l:List ByteArray) (s:ByteArray) (hl:l.length<=6000000000000):
    Pur cfg 113 [vSs l,vS s] (vB (hasB l s)):=by
 refine zQ Tryz.func113 O Tryz.ntmps113 Tryz.results113 O ?_
 intro z hz
 refine F O<|A O<|H<|zI<|F O<|A O<|H<|zS<|zV ⟨[(5,.c _),(0,.c _),(1,.c _)],[]⟩ (Weak.mk [] ⟨G,G,G,T⟩ O)<|qO 1 0 O O (Nat) (fun k=>[(5,vI k)]) (fun k=>[]) (fun k=>k<=l.length/\hasB (l.take k) s=false) (fun k=>l.length-k) ⟨0,⟨by omega,O⟩,Weak.mk [] ⟨G,G,G,T⟩ O⟩ ?_
 rintro k ⟨hk,hp⟩
 refine zI<|F O<|A O<|A O<|qB O zNk<|yN O<|H<|zD O (fun c1=>?_) (fun c1=>?_)
 ·try simp only [I] at c1
  obtain ⟨t,ht⟩:=qZ l k (by omega)
  refine zH<|zI<|zS<|F O<|A O<|A O<|qD O zNk (by omega) (v ht)<|zK one9 qA O<|A O<|zR O (yM O O O)<|H<|zD O (fun c2=>?_) (fun c2=>?_)
  ·try simp only [I] at c2
   refine F O<|A O<|H<|o<|X O ?_
   rw [yI ht c2]
  ·try simp only [I] at c2
   refine zH<|zT O<|A O<|qK O ⟨by omega,by omega⟩<|A O<|H ?_
   refine ⟨k+1,⟨by omega,zMx ht hp c2⟩,(by omega),Weak.mk [] ⟨G,G,G,T⟩ O⟩
 ·try simp only [I] at c1
  refine qQ<|F O<|A O<|H<|o<|X O ?_
  rw [show hasB l s=false by rw [kG (by omega)] at hp;exact hp]
theorem base_Name (s:ByteArray):
    Pur cfg 60 [vS s] (vB (isNameB s)):=by
 refine zQ Tryz.func60 O Tryz.ntmps60 Tryz.results60 O ?_
 intro z hz
 refine F O<|A O<|H<|zI<|F O<|A O<|zR O (zAg O un9 O)<|yN O<|A O<|M O (fun g1_3=>w O O) O<|B 9 O (fun g1_3=>zAg O un9 O) O<|B 10 O (fun g1_3=>yW O O O) O<|j O (fun h=>(lzf h))<|A O<|M O (fun g1_8=>qI O ok114 (base_Words) T) O<|M O (fun g1_8=>w O O) O<|rLz [(14,_),(15,_)] O gv1 ⟨O,O,O,O,T⟩ (fun g1_8=>qI O ok113 (base_Has _ _ (by decide)) ⟨G,O,G,O,T⟩) O<|j O (fun h=>(lzf h))<|H<|zD O (fun c1=>?_) (fun c1=>?_)
 ·try simp only [I] at c1
  have hno:=name_short (s:=s) (by simpa using c1)
  refine F O<|A O<|H<|o<|X O ?_
  rw [hno]
 ·try simp only [I] at c1
  obtain ⟨⟨n1,n2⟩,n3⟩:=c1
  have n1:1<=s.size:=by omega
  have n2:s.size<=16:=by omega
  have hne:=name_end n1 n2 n3
  refine zH<|zI<|F O<|A O<|H<|zS<|zV ⟨[(3,.c _),(0,.c _)],[]⟩ (Weak.mk [] ⟨G,G,T⟩ O)<|qO 1 0 O O (Nat) (fun k=>[(3,vI k)]) (fun k=>[]) (fun k=>k<=s.size/\okTo s k=true) (fun k=>s.size-k) ⟨0,⟨by omega,O⟩,Weak.mk [] ⟨G,G,T⟩ O⟩ ?_
  rintro k ⟨hk,hp⟩
  refine zI<|F O<|A O<|A O<|zR O (zAg O un9 O)<|yN O<|H<|zD O (fun c2=>?_) (fun c2=>?_)
  ·try simp only [I] at c2
   have hlt:k<s.size:=by omega
   refine zH<|zI<|zS<|F O<|A O<|A O<|zR O (zCs O un9 O O (by omega) (by omega))<|A O<|H<|F O<|A O<|zR O (wK O O O)<|A O<|M O (fun g7_2=>w O O) O<|B 30 O (fun g7_2=>wV O O O) O<|kD O (fun h=>h)<|A O<|M O (fun g7_6=>w O O) O<|B 34 O (fun g7_6=>yW O O O) O<|B 35 O (fun g7_6=>w O O) O<|rLz [] O gv2 T (fun g7_9=>w O O) O<|rLz [(37,_)] O gv2 ⟨O,O,T⟩ (fun g7_9=>wK O O O) O<|rLz [(38,_)] O gv2 ⟨O,O,T⟩ (fun g7_9=>w O O) O<|rLz [] O gv2 T (fun g7_12=>w O O) O<|rLz [(40,_)] O gv2 ⟨O,O,T⟩ (fun g7_12=>wV O O O) O<|rLz [(39,_)] O gv2 ⟨O,O,T⟩ (fun g7_9=>wX O O O (fun h=>kK (by assumption) h) O) O<|rLz [(42,_)] O gv2 ⟨O,O,T⟩ (fun g7_9=>w O O) O<|rLz [] O gv2 T (fun g7_16=>w O O) O<|rLz [(44,_)] O gv2 ⟨O,O,T⟩ (fun g7_16=>yX O O O) O<|rLz [(43,_)] O gv2 ⟨O,O,T⟩ (fun g7_9=>zDh O O O O (fun h=>kK (by assumption) (lzf h))) O<|B 36 O (fun g7_6=>wX O O O (fun h=>kK (by assumption) h) O) O<|j O (fun h=>(lzf h))<|kY O<|H<|zD O (fun c3=>?_) (fun c3=>?_)
   ·have hbad:okTo s (k+1)=false:=by rw [okTo_next,show nameOk k (s.data.toList.getD k 0)=false from (Bool.not_eq_true' _).mp c3];simp
    refine F O<|A O<|H<|o<|X O ?_
    rw [hne];cases ho:okTo s s.size;rfl;exact absurd (okTo_le (k:=k+1) (by omega) ho) (by rw [hbad];simp)
   ·have hgood:okTo s (k+1)=true:=by rw [okTo_next,hp,show nameOk k (s.data.toList.getD k 0)=true from (Bool.not_eq_false' _).mp c3];rfl
    refine zH<|zT O<|A O<|qK O ⟨by omega,by omega⟩<|A O<|H ?_
    refine ⟨k+1,⟨by omega,hgood⟩,(by omega),Weak.mk [] ⟨G,G,T⟩ O⟩
  ·try simp only [I] at c2
   refine qQ<|F O<|A O<|H<|o<|X O ?_
   rw [hne,show s.size=k by omega,hp]
theorem lin_reserved (s:ByteArray):
    Pur cfg 147 [vS s] (vB (hasB words s)):=by
 refine zQ Tryz.func147 O Tryz.ntmps147 Tryz.results147 O ?_
 intro z hz
 refine F O<|A O<|H<|zI<|F O<|A O<|H<|zS<|zI<|F O<|zR O (yM O O O)<|A O<|H<|zD O (fun c1=>?_) (fun c1=>?_)
 ·try simp only [I] at c1
  refine zH<|zD O (fun c22=>?_) (fun c22=>?_)
  ·try simp only [I] at c22
   refine F O<|A O<|H<|o<|X O ?_
   rw [yI (l:=words) (k:=0) rfl c1.symm]
  ·try simp only [I] at c22
   refine zH<|F O<|A O<|H<|o<|X O ?_
   exact absurd c1 c22
 ·try simp only [I] at c1
  refine F O<|zR O (yM O O O)<|A O<|H<|zD O (fun c2=>?_) (fun c2=>?_)
  ·try simp only [I] at c2
   refine zH<|zD O (fun c22=>?_) (fun c22=>?_)
   ·try simp only [I] at c22
    refine F O<|A O<|H<|o<|X O ?_
    rw [yI (l:=words) (k:=1) rfl c2.symm]
   ·try simp only [I] at c22
    refine zH<|F O<|A O<|H<|o<|X O ?_
    exact absurd c2 c22
  ·try simp only [I] at c2
   refine F O<|zR O (yM O O O)<|A O<|H<|zD O (fun c3=>?_) (fun c3=>?_)
   ·try simp only [I] at c3
    refine zH<|zD O (fun c22=>?_) (fun c22=>?_)
    ·try simp only [I] at c22
     refine F O<|A O<|H<|o<|X O ?_
     rw [yI (l:=words) (k:=2) rfl c3.symm]
    ·try simp only [I] at c22
     refine zH<|F O<|A O<|H<|o<|X O ?_
     exact absurd c3 c22
   ·try simp only [I] at c3
    refine F O<|zR O (yM O O O)<|A O<|H<|zD O (fun c4=>?_) (fun c4=>?_)
    ·try simp only [I] at c4
     refine zH<|zD O (fun c22=>?_) (fun c22=>?_)
     ·try simp only [I] at c22
      refine F O<|A O<|H<|o<|X O ?_
      rw [yI (l:=words) (k:=3) rfl c4.symm]
     ·try simp only [I] at c22
      refine zH<|F O<|A O<|H<|o<|X O ?_
      exact absurd c4 c22
    ·try simp only [I] at c4
     refine F O<|zR O (yM O O O)<|A O<|H<|zD O (fun c5=>?_) (fun c5=>?_)
     ·try simp only [I] at c5
      refine zH<|zD O (fun c22=>?_) (fun c22=>?_)
      ·try simp only [I] at c22
       refine F O<|A O<|H<|o<|X O ?_
       rw [yI (l:=words) (k:=4) rfl c5.symm]
      ·try simp only [I] at c22
       refine zH<|F O<|A O<|H<|o<|X O ?_
       exact absurd c5 c22
     ·try simp only [I] at c5
      refine F O<|zR O (yM O O O)<|A O<|H<|zD O (fun c6=>?_) (fun c6=>?_)
      ·try simp only [I] at c6
       refine zH<|zD O (fun c22=>?_) (fun c22=>?_)
       ·try simp only [I] at c22
        refine F O<|A O<|H<|o<|X O ?_
        rw [yI (l:=words) (k:=5) rfl c6.symm]
       ·try simp only [I] at c22
        refine zH<|F O<|A O<|H<|o<|X O ?_
        exact absurd c6 c22
      ·try simp only [I] at c6
       refine F O<|zR O (yM O O O)<|A O<|H<|zD O (fun c7=>?_) (fun c7=>?_)
       ·try simp only [I] at c7
        refine zH<|zD O (fun c22=>?_) (fun c22=>?_)
        ·try simp only [I] at c22
         refine F O<|A O<|H<|o<|X O ?_
         rw [yI (l:=words) (k:=6) rfl c7.symm]
        ·try simp only [I] at c22
         refine zH<|F O<|A O<|H<|o<|X O ?_
         exact absurd c7 c22
       ·try simp only [I] at c7
        refine F O<|zR O (yM O O O)<|A O<|H<|zD O (fun c8=>?_) (fun c8=>?_)
        ·try simp only [I] at c8
         refine zH<|zD O (fun c22=>?_) (fun c22=>?_)
         ·try simp only [I] at c22
          refine F O<|A O<|H<|o<|X O ?_
          rw [yI (l:=words) (k:=7) rfl c8.symm]
         ·try simp only [I] at c22
          refine zH<|F O<|A O<|H<|o<|X O ?_
          exact absurd c8 c22
        ·try simp only [I] at c8
         refine F O<|zR O (yM O O O)<|A O<|H<|zD O (fun c9=>?_) (fun c9=>?_)
         ·try simp only [I] at c9
          refine zH<|zD O (fun c22=>?_) (fun c22=>?_)
          ·try simp only [I] at c22
           refine F O<|A O<|H<|o<|X O ?_
           rw [yI (l:=words) (k:=8) rfl c9.symm]
          ·try simp only [I] at c22
           refine zH<|F O<|A O<|H<|o<|X O ?_
           exact absurd c9 c22
         ·try simp only [I] at c9
          refine F O<|zR O (yM O O O)<|A O<|H<|zD O (fun c10=>?_) (fun c10=>?_)
          ·try simp only [I] at c10
           refine zH<|zD O (fun c22=>?_) (fun c22=>?_)
           ·try simp only [I] at c22
            refine F O<|A O<|H<|o<|X O ?_
            rw [yI (l:=words) (k:=9) rfl c10.symm]
           ·try simp only [I] at c22
            refine zH<|F O<|A O<|H<|o<|X O ?_
            exact absurd c10 c22
          ·try simp only [I] at c10
           refine F O<|zR O (yM O O O)<|A O<|H<|zD O (fun c11=>?_) (fun c11=>?_)
           ·try simp only [I] at c11
            refine zH<|zD O (fun c22=>?_) (fun c22=>?_)
            ·try simp only [I] at c22
             refine F O<|A O<|H<|o<|X O ?_
             rw [yI (l:=words) (k:=10) rfl c11.symm]
            ·try simp only [I] at c22
             refine zH<|F O<|A O<|H<|o<|X O ?_
             exact absurd c11 c22
           ·try simp only [I] at c11
            refine F O<|zR O (yM O O O)<|A O<|H<|zD O (fun c12=>?_) (fun c12=>?_)
            ·try simp only [I] at c12
             refine zH<|zD O (fun c22=>?_) (fun c22=>?_)
             ·try simp only [I] at c22
              refine F O<|A O<|H<|o<|X O ?_
              rw [yI (l:=words) (k:=11) rfl c12.symm]
             ·try simp only [I] at c22
              refine zH<|F O<|A O<|H<|o<|X O ?_
              exact absurd c12 c22
            ·try simp only [I] at c12
             refine F O<|zR O (yM O O O)<|A O<|H<|zD O (fun c13=>?_) (fun c13=>?_)
             ·try simp only [I] at c13
              refine zH<|zD O (fun c22=>?_) (fun c22=>?_)
              ·try simp only [I] at c22
               refine F O<|A O<|H<|o<|X O ?_
               rw [yI (l:=words) (k:=12) rfl c13.symm]
              ·try simp only [I] at c22
               refine zH<|F O<|A O<|H<|o<|X O ?_
               exact absurd c13 c22
             ·try simp only [I] at c13
              refine F O<|zR O (yM O O O)<|A O<|H<|zD O (fun c14=>?_) (fun c14=>?_)
              ·try simp only [I] at c14
               refine zH<|zD O (fun c22=>?_) (fun c22=>?_)
               ·try simp only [I] at c22
                refine F O<|A O<|H<|o<|X O ?_
                rw [yI (l:=words) (k:=13) rfl c14.symm]
               ·try simp only [I] at c22
                refine zH<|F O<|A O<|H<|o<|X O ?_
                exact absurd c14 c22
              ·try simp only [I] at c14
               refine F O<|zR O (yM O O O)<|A O<|H<|zD O (fun c15=>?_) (fun c15=>?_)
               ·try simp only [I] at c15
                refine zH<|zD O (fun c22=>?_) (fun c22=>?_)
                ·try simp only [I] at c22
                 refine F O<|A O<|H<|o<|X O ?_
                 rw [yI (l:=words) (k:=14) rfl c15.symm]
                ·try simp only [I] at c22
                 refine zH<|F O<|A O<|H<|o<|X O ?_
                 exact absurd c15 c22
               ·try simp only [I] at c15
                refine F O<|zR O (yM O O O)<|A O<|H<|zD O (fun c16=>?_) (fun c16=>?_)
                ·try simp only [I] at c16
                 refine zH<|zD O (fun c22=>?_) (fun c22=>?_)
                 ·try simp only [I] at c22
                  refine F O<|A O<|H<|o<|X O ?_
                  rw [yI (l:=words) (k:=15) rfl c16.symm]
                 ·try simp only [I] at c22
                  refine zH<|F O<|A O<|H<|o<|X O ?_
                  exact absurd c16 c22
                ·try simp only [I] at c16
                 refine F O<|zR O (yM O O O)<|A O<|H<|zD O (fun c17=>?_) (fun c17=>?_)
                 ·try simp only [I] at c17
                  refine zH<|zD O (fun c22=>?_) (fun c22=>?_)
                  ·try simp only [I] at c22
                   refine F O<|A O<|H<|o<|X O ?_
                   rw [yI (l:=words) (k:=16) rfl c17.symm]
                  ·try simp only [I] at c22
                   refine zH<|F O<|A O<|H<|o<|X O ?_
                   exact absurd c17 c22
                 ·try simp only [I] at c17
                  refine F O<|zR O (yM O O O)<|A O<|H<|zD O (fun c18=>?_) (fun c18=>?_)
                  ·try simp only [I] at c18
                   refine zH<|zD O (fun c22=>?_) (fun c22=>?_)
                   ·try simp only [I] at c22
                    refine F O<|A O<|H<|o<|X O ?_
                    rw [yI (l:=words) (k:=17) rfl c18.symm]
                   ·try simp only [I] at c22
                    refine zH<|F O<|A O<|H<|o<|X O ?_
                    exact absurd c18 c22
                  ·try simp only [I] at c18
                   refine F O<|zR O (yM O O O)<|A O<|H<|zD O (fun c19=>?_) (fun c19=>?_)
                   ·try simp only [I] at c19
                    refine zH<|zD O (fun c22=>?_) (fun c22=>?_)
                    ·try simp only [I] at c22
                     refine F O<|A O<|H<|o<|X O ?_
                     rw [yI (l:=words) (k:=18) rfl c19.symm]
                    ·try simp only [I] at c22
                     refine zH<|F O<|A O<|H<|o<|X O ?_
                     exact absurd c19 c22
                   ·try simp only [I] at c19
                    refine F O<|zR O (yM O O O)<|A O<|H<|zD O (fun c20=>?_) (fun c20=>?_)
                    ·try simp only [I] at c20
                     refine zH<|zD O (fun c22=>?_) (fun c22=>?_)
                     ·try simp only [I] at c22
                      refine F O<|A O<|H<|o<|X O ?_
                      rw [yI (l:=words) (k:=19) rfl c20.symm]
                     ·try simp only [I] at c22
                      refine zH<|F O<|A O<|H<|o<|X O ?_
                      exact absurd c20 c22
                    ·try simp only [I] at c20
                     refine F O<|zR O (yM O O O)<|A O<|H<|zD O (fun c21=>?_) (fun c21=>?_)
                     ·try simp only [I] at c21
                      refine zH<|zD O (fun c22=>?_) (fun c22=>?_)
                      ·try simp only [I] at c22
                       refine F O<|A O<|H<|o<|X O ?_
                       rw [yI (l:=words) (k:=20) rfl c21.symm]
                      ·try simp only [I] at c22
                       refine zH<|F O<|A O<|H<|o<|X O ?_
                       exact absurd c21 c22
                     ·try simp only [I] at c21
                      refine zT O<|zR O (yM O O O)<|A O<|H<|zD O (fun c22=>?_) (fun c22=>?_)
                      ·try simp only [I] at c22
                       refine F O<|A O<|H<|o<|X O ?_
                       rw [yI (l:=words) (k:=21) rfl c22.symm]
                      ·try simp only [I] at c22
                       refine zH<|F O<|A O<|H<|o<|X O ?_
                       rw [show hasB words s=false by
                         simp only [hasB,words,List.any_cons,List.any_nil,Bool.or_eq_false_iff,decide_eq_false_iff_not]
                         exact ⟨fun h=>c1 h.symm,fun h=>c2 h.symm,fun h=>c3 h.symm,fun h=>c4 h.symm,fun h=>c5 h.symm,fun h=>c6 h.symm,fun h=>c7 h.symm,fun h=>c8 h.symm,fun h=>c9 h.symm,fun h=>c10 h.symm,fun h=>c11 h.symm,fun h=>c12 h.symm,fun h=>c13 h.symm,fun h=>c14 h.symm,fun h=>c15 h.symm,fun h=>c16 h.symm,fun h=>c17 h.symm,fun h=>c18 h.symm,fun h=>c19 h.symm,fun h=>c20 h.symm,fun h=>c21 h.symm,fun h=>c22 h.symm,T⟩]
theorem zEj (s:ByteArray):
    Pur cfg 104 [vS s] (vB (isNameB s)):=by
 refine zQ Tryz.func104 O Tryz.ntmps104 Tryz.results104 O ?_
 intro z hz
 refine F O<|A O<|H<|zI<|F O<|A O<|zR O (zAg O un9 O)<|yN O<|A O<|M O (fun g1_3=>w O O) O<|B 9 O (fun g1_3=>zAg O un9 O) O<|B 10 O (fun g1_3=>yW O O O) O<|j O (fun h=>(lzf h))<|A O<|M O (fun g1_8=>w O O) O<|B 14 O (fun g1_8=>qI O ok147 (lin_reserved _) ⟨G,O,T⟩) O<|j O (fun h=>(lzf h))<|A O<|M O (fun g1_12=>w O O) O<|B 18 O (fun g1_12=>zCs O un9 O O (by decide) (by simp only [Lz,cond_true,cond_false,Bool.and_eq_true,Bool.or_eq_true,Bool.not_eq_true',Bool.not_eq_false',Bool.or_eq_false_iff,Bool.and_eq_false_iff,decide_eq_true_eq,decide_eq_false_iff_not,Bool.not_eq_true,Bool.not_eq_false] at g1_12;omega)) O<|B 19 O (fun g1_12=>zHk O O O) O<|j O (fun h=>(lzf h))<|A O<|M O (fun g1_17=>w O O) O<|B 23 O (fun g1_17=>zCs O un9 O O (by decide) (by simp only [Lz,cond_true,cond_false,Bool.and_eq_true,Bool.or_eq_true,Bool.not_eq_true',Bool.not_eq_false',Bool.or_eq_false_iff,Bool.and_eq_false_iff,decide_eq_true_eq,decide_eq_false_iff_not,Bool.not_eq_true,Bool.not_eq_false] at g1_17;omega)) O<|B 24 O (fun g1_17=>yW O O O) O<|j O (fun h=>(lzf h))<|H<|zD O (fun c1=>?_) (fun c1=>?_)
 ·have hno:=ident_no c1
  refine F O<|A O<|H<|o<|X O ?_
  rw [hno]
 ·obtain ⟨n1,n2,hne⟩:=ident_yes c1
  refine zH<|zI<|F O<|A O<|zR O (zAg O un9 O)<|A O<|H<|zS<|zV ⟨[(29,.c _),(0,.c _),(28,.c _)],[]⟩ (Weak.mk [] ⟨G,G,G,T⟩ O)<|qO 1 0 O O (Nat) (fun k=>[(29,vI k)]) (fun k=>[]) (fun k=>k<=s.size/\(s.data.toList.take k).all inWordB=true) (fun k=>s.size-k) ⟨0,⟨by omega,O⟩,Weak.mk [] ⟨G,G,G,T⟩ O⟩ ?_
  rintro k ⟨hk,hp⟩
  refine F O<|yN O<|H<|zI<|zD O (fun c2=>?_) (fun c2=>?_)
  ·try simp only [I] at c2
   have hlt:k<s.size:=by omega
   refine zH<|zI<|zS<|F O<|A O<|A O<|H<|F O<|A O<|A O<|zR O (zCs O un9 O O (by omega) (by omega))<|A O<|H<|F O<|A O<|yN O<|A O<|M O (fun g7_2=>w O O) O<|B 38 O (fun g7_2=>yW O O O) O<|j O (fun h=>(lzf h))<|A O<|M O (fun g7_6=>w O O) O<|B 42 O (fun g7_6=>zHk O O O) O<|B 43 O (fun g7_6=>w O O) O<|rLz [] O gv2 T (fun g7_9=>w O O) O<|rLz [(45,_)] O gv2 ⟨O,O,T⟩ (fun g7_9=>yW O O O) O<|B 44 O (fun g7_6=>zDh O O O O (fun h=>kK (by assumption) (lzf h))) O<|kD O (fun h=>h)<|A O<|M O (fun g7_14=>w O O) O<|B 50 O (fun g7_14=>kT O O O) O<|kD O (fun h=>h)<|H<|zD O (fun c3=>?_) (fun c3=>?_)
   ·have hbad:=word_no hlt c3
    refine F O<|A O<|H<|o<|X O ?_
    rw [hne,hbad]
   ·have hgood:=word_yes hlt hp c3
    refine zH<|zT O<|qK O ⟨by omega,by omega⟩<|A O<|H ?_
    refine ⟨k+1,⟨by omega,hgood⟩,(by omega),Weak.mk [] ⟨G,G,G,T⟩ O⟩
  ·try simp only [I] at c2
   refine qQ<|F O<|A O<|H<|o<|X O ?_
   rw [hne,word_all hp (by omega)]
theorem zBs (l:Lf) (hl:l.L.length<=6000000000000):
    Pur cfg 102 [vLin l] (vI (linErr l)):=by
 refine zQ Tryz.func102 O Tryz.ntmps102 Tryz.results102 O ?_
 intro z hz
 refine F O<|zU O O (qL O O) ?_
 rintro _ _ ⟨b1,rfl,rfl⟩
 refine A O<|H<|zI<|F O<|zJ O wU<|zK zDl (R 0 O) O<|qB O P<|A O<|H<|zS<|zV ⟨[(8,.c _),(1,.c _),(6,.c _),(7,.c _)],[_]⟩ (Weak.mk [true] ⟨G,G,G,G,T⟩ O)<|qO 1 0 O O (Nat) (fun k=>[(8,vI k)]) (fun k=>[]) (fun k=>k<=l.L.length/\(linOk l=monosOk (prevOf l.L k) (l.L.drop k))) (fun k=>l.L.length-k) ⟨0,⟨by omega,O⟩,Weak.mk [true] ⟨G,G,G,G,T⟩ O⟩ ?_
 rintro k ⟨hk,hp⟩
 refine F O<|yN O<|H<|zI<|zD O (fun c1=>?_) (fun c1=>?_)
 ·try simp only [I] at c1
  obtain ⟨x,hx⟩:=qZ l.L k (by omega)
  refine zH<|zI<|zS<|F O<|A O<|qD O P (by omega) (v (by assumption))<|zO zMq qA O<|zU O O (yV O zr69) ?_
  rintro _ _ ⟨b2,rfl,rfl⟩
  refine A O<|D 0 sz69 O<|H<|zI<|qY 25 mixed (by kernel_rfl) O O<|Y O O (zE O zCe O)<|Y O O (Q O one9 O (R 0 O) O)<|Y O O (qI O ok104 (zEj _) ⟨G,O,T⟩)<|Y O O (wC O O)<|Y O O (w O O)<|i [] O O O O gv1 T (fun g4_4=>zE O zGc O) O<|i [(18,_)] O O O O gv1 ⟨O,O,T⟩ (fun g4_4=>Q O n O (R 0 O) O) O<|i [(19,_)] O O O O gv1 ⟨O,O,T⟩ (fun g4_4=>yX O O O) O<|Y O O (zDh O O O O (fun h=>(lzf h)))<|Y O O (w O O)<|i [] O O O O gv1 T (fun g4_9=>w O O) O<|i [(23,_)] O O O O gv1 ⟨O,O,T⟩ (fun g4_9=>yW O O O) O<|i [(24,_)] O O O O gv1 ⟨O,O,T⟩ (fun g4_9=>w O O) O<|i [] O O O O gv2 T (fun g4_12=>zE O wU O) O<|i [(26,_)] O O O O gv2 ⟨O,O,T⟩ (fun g4_12=>Q O zDl O (R 1 O) O) O<|i [] O O O O gv2 T (fun g4_12=>w O O) O<|i [(28,_)] O O O O gv2 ⟨O,O,T⟩ (fun g4_12=>yB O O O ⟨by omega,by omega⟩) O<|i [(27,_),(29,_)] O O O O gv2 ⟨O,O,O,O,T⟩ (fun g4_12=>qE O P O O (by simp only [Lz,cond_true,cond_false,Bool.and_eq_true,Bool.or_eq_true,Bool.not_eq_true',Bool.not_eq_false',Bool.or_eq_false_iff,Bool.and_eq_false_iff,decide_eq_true_eq,decide_eq_false_iff_not,Bool.not_eq_true,Bool.not_eq_false] at g4_12;omega) (pv_get (by simp only [Lz,cond_true,cond_false,Bool.and_eq_true,Bool.or_eq_true,Bool.not_eq_true',Bool.not_eq_false',Bool.or_eq_false_iff,Bool.and_eq_false_iff,decide_eq_true_eq,decide_eq_false_iff_not,Bool.not_eq_true,Bool.not_eq_false] at g4_12;omega) (by omega))) O<|i [(30,_)] O O O O gv2 ⟨O,O,T⟩ (fun g4_12=>qJ O zCe O) O<|i [(31,_)] O O O O gv2 ⟨O,O,T⟩ (fun g4_12=>Q O one9 O qA O) O<|i [] O O O O gv2 T (fun g4_12=>zE O zCe O) O<|i [(33,_)] O O O O gv2 ⟨O,O,T⟩ (fun g4_12=>Q O one9 O (R 0 O) O) O<|i [(32,_),(34,_)] O O O O gv2 ⟨O,O,O,O,T⟩ (fun g4_12=>det_sgeq O O O) O<|i [(25,_)] O O O O gv1 ⟨O,O,T⟩ (fun g4_9=>wX O O O (fun h=>kK (by assumption) h) O) O<|Y O O (zDh O O O O (fun h=>(lzf h)))<|kH<|H<|zD O (fun c2=>?_) (fun c2=>?_)
  ·refine F O<|A O<|H<|o<|X O ?_
   rw [linErr,hp,monos_step hx,show badM l.L k x=true from c2];rfl
  ·refine zH<|zT O<|qK O ⟨by omega,by omega⟩<|A O<|H ?_
   refine ⟨k+1,⟨by omega,by rw [hp,monos_step hx,show badM l.L k x=false from c2];rfl⟩,(by omega),Weak.mk [false,true] ⟨G,G,G,G,T⟩ O⟩
 ·try simp only [I] at c1
  refine qQ<|F O<|A O<|H<|o<|X O ?_
  rw [linErr,hp,monos_end (by omega)];rfl
theorem lin_Var (s:ByteArray):
    Pur cfg 52 [vS s] (vLin (varL s)):=by
 refine zQ Tryz.func52 O Tryz.ntmps52 Tryz.results52 O ?_
 intro z hz
 refine F O<|zU O O (qC [none,some 2] O zr41 O) ?_
 rintro _ _ ⟨b1,rfl,rfl⟩
 refine H<|zI<|F O<|A O<|qG O ok104 (zEj _) ⟨G,O,T⟩<|kY O<|H<|zD O (fun c1=>?_) (fun c1=>?_)
 ·try simp only [I] at c1
  refine F O<|qV [none,some 2] O zr41 pl41<|D 0 sz41 O<|H<|o<|fin1 (y kE O (R 0 O) O) ?_
  rw [varL,c1];rfl
 ·try simp only [I] at c1
  refine zH<|F O<|A O<|yS O zr69 pl69<|zR O (qW O P zr69 O O O O)<|yS O zr41 pl41<|D 0 sz41 O<|H<|o<|fin1 (y kE O (R 0 O) O) ?_
  rw [varL,c1];rfl
theorem zPz (k:Int):
    Pur cfg 56 [vI k] (vLin ⟨k,[]⟩):=by
 refine zQ Tryz.func56 O Tryz.ntmps56 Tryz.results56 O ?_
 intro z hz
 refine F O<|zU O O (qC [none,some 2] O zr41 O) ?_
 rintro _ _ ⟨b1,rfl,rfl⟩
 refine H<|F O<|A O<|qV [none,some 2] O zr41 pl41<|D 0 sz41 O<|H<|o<|fin1 (y kE O (R 0 O) O) ?_
 exact O
theorem zGe (s:ByteArray):
    Pur cfg 75 [vS s] (vLin (varL s)):=by
 refine zQ Tryz.func75 O Tryz.ntmps75 Tryz.results75 O ?_
 intro z hz
 refine F O<|zU O O (qC [none,some 2] O zr41 O) ?_
 rintro _ _ ⟨b1,rfl,rfl⟩
 refine H<|zI<|F O<|A O<|qG O ok60 (base_Name _) ⟨G,O,T⟩<|kY O<|H<|zD O (fun c1=>?_) (fun c1=>?_)
 ·try simp only [I] at c1
  refine F O<|qV [none,some 2] O zr41 pl41<|D 0 sz41 O<|H<|o<|fin1 (y kE O (R 0 O) O) ?_
  rw [varL,c1];rfl
 ·try simp only [I] at c1
  refine zH<|F O<|A O<|yS O zr69 pl69<|zR O (qW O P zr69 O O O O)<|yS O zr41 pl41<|D 0 sz41 O<|H<|o<|fin1 (y kE O (R 0 O) O) ?_
  rw [varL,c1];rfl
theorem base_Lin (a b:Lf) (ha:a.L.length<=6000000000000):
    Pur cfg 175 [vLin a,vLin b] (vB (decide (a=b))):=by
 refine zQ Tryz.func175 O Tryz.ntmps175 Tryz.results175 O ?_
 intro z hz
 refine F O<|zU O O (qL O O) ?_
 rintro _ _ ⟨b1,rfl,rfl⟩
 refine zU O O (qL O O) ?_
 rintro _ _ ⟨b2,rfl,rfl⟩
 refine A O<|H<|zI<|F O<|zJ O zGd<|zK n (R 1 O) O<|zJ O zGd<|zK n (R 0 O) O<|yP O<|A O<|M O (fun g1_5=>zE O wU O) O<|B 12 O (fun g1_5=>Q O zDl O (R 1 O) O) O<|B 13 O (fun g1_5=>yE O P O) O<|M O (fun g1_5=>zE O wU O) O<|B 15 O (fun g1_5=>Q O zDl O (R 0 O) O) O<|B 16 O (fun g1_5=>yE O P O) O<|rLz [(14,_),(17,_)] O gv1 ⟨O,O,O,O,T⟩ (fun g1_5=>kT O O O) O<|j O (fun h=>(lzf h))<|H<|zD O (fun c1=>?_) (fun c1=>?_)
 ·try simp only [I] at c1
  refine F O<|A O<|H<|o<|X O ?_
  rw [yL (fun h=>by rw [h] at c1;simp at c1)]
 ·try simp only [I] at c1
  refine zH<|zI<|F O<|A O<|H<|zS<|zV ⟨[(5,.c _),(2,.c _),(3,.c _)],[_,_]⟩ (Weak.mk [true,true] ⟨G,G,G,T⟩ O)<|qO 1 0 O O (Nat) (fun k=>[(5,vI k)]) (fun k=>[]) (fun k=>k<=a.L.length/\(a.L.take k=b.L.take k)) (fun k=>a.L.length-k) ⟨0,⟨by omega,O⟩,Weak.mk [true,true] ⟨G,G,G,T⟩ O⟩ ?_
  rintro k ⟨hk,hp⟩
  refine zI<|F O<|A O<|zJ O wU<|zK zDl (R 1 O) O<|qB O P<|yN O<|H<|zD O (fun c2=>?_) (fun c2=>?_)
  ·try simp only [I] at c2
   obtain ⟨x,hx⟩:=qZ a.L k (by omega)
   obtain ⟨y,hy⟩:=qZ b.L k (by omega)
   refine zH<|zI<|zS<|zI<|qY 11 mixed (by kernel_rfl) O O<|Y O O (zE O wU O)<|Y O O (Q O zDl O (R 1 O) O)<|Y O O (w O O)<|Y O O (qE O P O O (by omega) (v (by assumption)))<|Y O O (zX O zMq O qA O)<|Y O O (zE O wU O)<|Y O O (Q O zDl O (R 0 O) O)<|Y O O (w O O)<|Y O O (qE O P O O (by omega) (v (by assumption)))<|Y O O (zX O zMq O qA O)<|Y O O (zCi O fl69 O O O)<|kH<|H<|zD O (fun c3=>?_) (fun c3=>?_)
   ·have hne:=mono_ne c3
    refine F O<|A O<|H<|o<|X O ?_
    rw [yL (fun h=>zDs hx hy hne (by rw [h]))]
   ·have heq:=mono_eq c3
    refine zH<|zT O<|A O<|qK O ⟨by omega,by omega⟩<|A O<|H ?_
    refine ⟨k+1,⟨by omega,zAl hx hy hp heq⟩,(by omega),Weak.mk [true,true] ⟨G,G,G,T⟩ O⟩
  ·try simp only [I] at c2
   refine qQ<|F O<|A O<|H<|o<|X O ?_
   rw [wQ (lin_mk (by omega) (zCr hp (by omega) (by omega)))]
theorem zIx (l:List Ix) (c:C) (p:Ix->Bool) (hl:l.length<=6000000000000) (hc:∀x,x∈l->FnPur cfg c [vIndex x] (vB (p x))):
    Pur cfg 295 [vIndices l,.c c] (vI (idxOf p l)):=by
 refine zQ Tryz.func295 O Tryz.ntmps295 Tryz.results295 O ?_
 intro z hz
 refine F O<|A O<|H<|zI<|F O<|A O<|qB O g<|A O<|H<|zS<|zV ⟨[(8,.c _),(0,.c _),(1,.c _),(7,.c _)],[]⟩ (Weak.mk [] ⟨G,G,G,G,T⟩ O)<|qO 1 0 O O (Nat) (fun k=>[(8,vI k)]) (fun k=>[]) (fun k=>k<=l.length/\((l.take k).any p=false)) (fun k=>l.length-k) ⟨0,⟨by omega,O⟩,Weak.mk [] ⟨G,G,G,G,T⟩ O⟩ ?_
 rintro k ⟨hk,hp⟩
 refine F O<|yN O<|H<|zI<|zD O (fun c1=>?_) (fun c1=>?_)
 ·try simp only [I] at c1
  obtain ⟨x,hx⟩:=qZ l k (by omega)
  refine zH<|zI<|zS<|F O<|A O<|A O<|H<|F O<|A O<|A O<|A O<|qD O g (by omega) (v (by assumption))<|zO zNl qA O<|zR O (kC O O (hc _ (zZ hx)) ⟨G,O,T⟩)<|H<|zD O (fun c2=>?_) (fun c2=>?_)
  ·try simp only [I] at c2
   refine F O<|A O<|A O<|H<|o<|X O ?_
   rw [zOa hx c2 hp]
  ·try simp only [I] at c2
   refine zH<|zT O<|qK O ⟨by omega,by omega⟩<|A O<|H ?_
   refine ⟨k+1,⟨by omega,zOi hx hp c2⟩,(by omega),Weak.mk [] ⟨G,G,G,G,T⟩ O⟩
 ·try simp only [I] at c1
  refine qQ<|F O<|A O<|H<|o<|X O ?_
  rw [zHx (by rw [kG (by omega)] at hp;exact hp)]
theorem zAj (l:List Ix) (c:C) (p:Ix->Bool) (hl:l.length<=6000000000000) (hc:∀x,x∈l->FnPur cfg c [vIndex x] (vB (p x))):
    Pur cfg 271 [vIndices l,.c c] (vB (l.any p)):=by
 refine zQ Tryz.func271 O Tryz.ntmps271 Tryz.results271 O ?_
 intro z hz
 refine F O<|A O<|H<|F O<|A O<|A O<|qG O ok295 (zIx l c p hl hc) ⟨G,O,G,O,T⟩<|zR O (wK O O O)<|A O<|H<|o<|X O ?_
 rw [zKo]
end Go.W
