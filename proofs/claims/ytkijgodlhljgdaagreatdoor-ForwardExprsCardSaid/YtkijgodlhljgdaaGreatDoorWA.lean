/-
  Walks: what functions of the program compute. Printed by wip/gen/mk2.py.
  Conditions: none.
-/
import Derived.Test.YtkijgodlhljgdaaGreatDoorFacts
import Derived.Test.YtkijgodlhljgdaaGreatDoorPlain
set_option linter.unusedSimpArgs false
set_option linter.unusedVariables false
set_option maxRecDepth 10000
namespace Go.W
open Go Go.Eng Go.Proofs Go.L41 Go.Br
attribute [local irreducible] AWP RWP TD finQ
theorem kw_ascii:∀(j:Nat) (b:UInt8),(bs kwBytes).data.toList[j]? =some b->b.toNat<128:=by
  intro j b h
  have:(kwBytes.all fun c=>decide (c.toNat<128))=true:=by decide
  rw [List.all_eq_true] at this
  simpa using this b (List.mem_of_getElem? h)
theorem kw_fields:(Lib.fields kwBytes).map bs=words:=by decide+kernel
theorem nm1 {s:ByteArray} (h:Lz (!decide (s=bs [])&&decide ((s.size:Int)<=16)) true=true):¬s=bs []:=by
  simp only [Lz,cond_true,Bool.and_eq_true,Bool.not_eq_true',decide_eq_false_iff_not] at h
  exact h.1
theorem nm2 {s:ByteArray} {p:Bool} (h:Lz (!decide (s=bs [])&&decide ((s.size:Int)<=16)&&p) true=true):s.size<=1000000:=by
  simp only [Lz,cond_true,Bool.and_eq_true,decide_eq_true_eq] at h
  omega
theorem kQ:aggT Tryz.prog 34=some 2:=by kernel_rfl
theorem zJn:aggT Tryz.prog 67=some 4:=by kernel_rfl
theorem zHj:aggT Tryz.prog 101=some 2:=by kernel_rfl
theorem el22:elemT Tryz.prog 22=some (9,1,16):=by kernel_rfl
theorem q:elemT Tryz.prog 32=some (101,2,24):=by kernel_rfl
theorem s:elemT Tryz.prog 35=some (67,4,72):=by kernel_rfl
theorem zIx:fieldT Tryz.prog 34 0=some (0,2):=by kernel_rfl
theorem wN:fieldT Tryz.prog 34 1=some (1,32):=by kernel_rfl
theorem zAt:fieldT Tryz.prog 101 0=some (0,9):=by kernel_rfl
theorem fd101_1:fieldT Tryz.prog 101 1=some (1,2):=by kernel_rfl
theorem fl101:flatK Tryz.prog 101=some [.str,.int]:=by kernel_rfl
theorem ik21:intT Tryz.prog 21=some .i32:=by kernel_rfl
theorem mixed:Tryz.prog.follows .mixedOrders=true:=by kernel_rfl
theorem ok46:callOk Tryz.prog 46=true:=by kernel_rfl
theorem ok50:callOk Tryz.prog 50=true:=by kernel_rfl
theorem ok111:callOk Tryz.prog 111=true:=by kernel_rfl
theorem ok146:callOk Tryz.prog 146=true:=by kernel_rfl
theorem ok183:callOk Tryz.prog 183=true:=by kernel_rfl
theorem ok201:callOk Tryz.prog 201=true:=by kernel_rfl
theorem ok222:callOk Tryz.prog 222=true:=by kernel_rfl
theorem ok223:callOk Tryz.prog 223=true:=by kernel_rfl
theorem ok224:callOk Tryz.prog 224=true:=by kernel_rfl
theorem ok225:callOk Tryz.prog 225=true:=by kernel_rfl
theorem ok228:callOk Tryz.prog 228=true:=by kernel_rfl
theorem ok257:callOk Tryz.prog 257=true:=by kernel_rfl
theorem ok266:callOk Tryz.prog 266=true:=by kernel_rfl
theorem ok267:callOk Tryz.prog 267=true:=by kernel_rfl
theorem ok293:callOk Tryz.prog 293=true:=by kernel_rfl
theorem one2:oneT Tryz.prog 2=true:=by kernel_rfl
theorem i:oneT Tryz.prog 9=true:=by kernel_rfl
theorem zBn:oneT Tryz.prog 32=true:=by kernel_rfl
theorem pl34:placesT Tryz.prog 34=some [(0,1),(1,1)]:=by kernel_rfl
theorem pl101:placesT Tryz.prog 101=some [(0,1),(1,1)]:=by kernel_rfl
theorem sz34:(Tryz.prog.info? 34).map (·.size)=some 2:=by kernel_rfl
theorem sz101:(Tryz.prog.info? 101).map (·.size)=some 2:=by kernel_rfl
theorem un9:Tryz.prog.underlying 9=some .string:=by kernel_rfl
theorem us5:(Tryz.prog.underlying 5).isSome=true:=by kernel_rfl
theorem zr9:zeroT Tryz.prog 9=some [(Value.string (ByteArray.mk #[]))]:=by kernel_rfl
theorem zr34:zeroT Tryz.prog 34=some [(Value.int IntKind.i64 0),(Value.slice none 0 0)]:=by kernel_rfl
theorem zr101:zeroT Tryz.prog 101=some [(Value.string (ByteArray.mk #[])),(Value.int IntKind.i64 0)]:=by kernel_rfl
theorem zLa (n:Int):
    Pur cfg 222 [vR n] (vB (letterI n)):=by
 refine zT Tryz.func222 O Tryz.ntmps222 Tryz.results222 O ?_
 intro z hz
 refine B O<|F O<|H<|B O<|F O<|zX O (wB O O O)<|F O<|w O (fun g1_2=>zQ O O) O<|R 6 O (fun g1_2=>kS O O O) O<|yY O (fun h=>h)<|F O<|H<|U<|M O ?_
 exact O
theorem lexer_digit (n:Int):
    Pur cfg 266 [vR n] (vB (digitI n)):=by
 refine zT Tryz.func266 O Tryz.ntmps266 Tryz.results266 O ?_
 intro z hz
 refine B O<|F O<|H<|B O<|F O<|zX O (wB O O O)<|F O<|w O (fun g1_2=>zQ O O) O<|R 6 O (fun g1_2=>kS O O O) O<|yY O (fun h=>h)<|F O<|H<|U<|M O ?_
 exact O
theorem lexer_inWord (n:Int):
    Pur cfg 224 [vR n] (vB (inWordI n)):=by
 refine zT Tryz.func224 O Tryz.ntmps224 Tryz.results224 O ?_
 intro z hz
 refine B O<|F O<|H<|B O<|F O<|qK O ok222 (zLa _) ⟨G,O,T⟩<|F O<|w O (fun g1_2=>zQ O O) O<|R 6 O (fun g1_2=>qF O ok266 (lexer_digit _) ⟨G,O,T⟩) O<|r_or O (fun h=>(lzf h))<|F O<|w O (fun g1_6=>zQ O O) O<|R 10 O (fun g1_6=>yG O O O) O<|r_or O (fun h=>(lzf h))<|F O<|H<|U<|M O ?_
 exact O
theorem zKi (s:ByteArray) (hs:s.size<=1000000):
    Pur cfg 223 [vS s,.c (.fn (.func 224) [] [])] (vI (spanB inWordB s.data.toList)):=by
 refine zT Tryz.func223 O Tryz.ntmps223 Tryz.results223 O ?_
 intro z hz
 refine B O<|F O<|H<|B O<|F O<|H<|W<|zP<|zW ⟨[(5,.c _),(0,.c _),(1,.c _)],[]⟩ (Weak.mk [] ⟨G,G,G,T⟩ O)<|qJ 1 0 O O (Nat) (fun k=>[(5,vI k)]) (fun k=>[]) (fun k=>k<=s.size/\(s.data.toList.take k).all inWordB=true) (fun k=>s.size-k) ⟨0,⟨by omega,O⟩,Weak.mk [] ⟨G,G,G,T⟩ O⟩ ?_
 rintro k ⟨hk,hp⟩
 refine W<|B O<|F O<|F O<|zX O (wX O un9 O)<|yD O<|F O<|w O (fun g2_4=>zQ O O) O<|w O (fun g2_4=>zQ O O) O<|w O (fun g2_4=>zQ O O) O<|rLz [(12,_),(13,_)] O J ⟨O,O,O,O,T⟩ (fun g2_4=>zBv O un9 O O (by omega) (by simp only [Lz,cond_true,decide_eq_true_eq] at g2_4;omega)) O<|R 14 O (fun g2_4=>zEw O us5 ik21 O) O<|rLz [(11,_),(15,_)] O J ⟨O,O,O,O,T⟩ (fun g2_4=>zBk O O ok224 (lexer_inWord _) ⟨G,O,T⟩) O<|yY O (fun h=>h)<|H<|g O (fun c1=>?_) (fun c1=>?_)
 ·try simp only [I] at c1
  obtain ⟨hlt,hcc⟩:=c1
  have hlt:k<s.size:=by omega
  rw [zHk] at hcc
  refine zJ<|zP<|zU O<|F O<|qL O ⟨by omega,by omega⟩<|F O<|H ?_
  have hg:=zBz hlt
  refine ⟨k+1,⟨by omega,by rw [zJm hg,hp];exact hcc⟩,(by omega),Weak.mk [] ⟨G,G,G,T⟩ O⟩
 ·try simp only [I] at c1
  have hsp:spanB inWordB s.data.toList=k:=span_stop hp (by
    by_cases hlt:k<s.size
    · right;refine ⟨_,zBz hlt,?_⟩;rcases c1 with c1|c1;omega;rw [zHk] at c1;exact c1
    · left;simp;omega)
  refine qN<|B O<|F O<|F O<|H<|U<|M O ?_
  rw [hsp]
theorem zLj (l:List ByteArray) (s:ByteArray) (hl:l.length<=1000000):
    Pur cfg 111 [vSs l,vS s] (vI (idxB l s)):=by
 refine zT Tryz.func111 O Tryz.ntmps111 Tryz.results111 O ?_
 intro z hz
 refine B O<|F O<|H<|W<|B O<|F O<|zZ O el22<|F O<|H<|zP<|zW ⟨[(8,.c _),(0,.c _),(1,.c _),(7,.c _)],[]⟩ (Weak.mk [] ⟨G,G,G,G,T⟩ O)<|qJ 1 0 O O (Nat) (fun k=>[(8,vI k)]) (fun k=>[]) (fun k=>k<=l.length/\hasB (l.take k) s=false) (fun k=>l.length-k) ⟨0,⟨by omega,O⟩,Weak.mk [] ⟨G,G,G,G,T⟩ O⟩ ?_
 rintro k ⟨hk,hp⟩
 refine B O<|yD O<|H<|W<|g O (fun c1=>?_) (fun c1=>?_)
 ·try simp only [I] at c1
  obtain ⟨t,ht⟩:=qQ l k (by omega)
  refine zJ<|W<|zP<|B O<|F O<|F O<|H<|B O<|F O<|F O<|F O<|qH O el22 (by omega) (X ht)<|zL i qB O<|zX O (yL O O O)<|H<|g O (fun c2=>?_) (fun c2=>?_)
  ·try simp only [I] at c2
   refine B O<|F O<|F O<|H<|U<|M O ?_
   rw [idxB_some ht c2 hp]
  ·try simp only [I] at c2
   refine zJ<|zU O<|qL O ⟨by omega,by omega⟩<|F O<|H ?_
   refine ⟨k+1,⟨by omega,zLc ht hp (fun e=>c2 e.symm)⟩,(by omega),Weak.mk [] ⟨G,G,G,G,T⟩ O⟩
 ·try simp only [I] at c1
  refine qN<|B O<|F O<|H<|U<|M O ?_
  rw [idxB_none (by rw [qW (by omega)] at hp;exact hp)]
theorem kE (l:List ByteArray) (s:ByteArray) (hl:l.length<=1000000):
    Pur cfg 46 [vSs l,vS s] (vB (hasB l s)):=by
 refine zT Tryz.func46 O Tryz.ntmps46 Tryz.results46 O ?_
 intro z hz
 refine B O<|F O<|H<|B O<|F O<|F O<|qK O ok111 (zLj l s hl) ⟨G,O,G,O,T⟩<|zX O (wB O O O)<|F O<|H<|U<|M O ?_
 rw [idxB_has]
theorem lexer_keywords  :
    Pur cfg 267 [] (vSs words):=by
 refine zT Tryz.func267 O Tryz.ntmps267 Tryz.results267 O ?_
 intro z hz
 refine B O<|zX O (yN 1 O O)<|H<|B O<|qK O ok293 (strings_Fields _ (by decide) kw_ascii) ⟨G,O,T⟩<|F O<|H<|U<|M O ?_
 exact congrArg vSs kw_fields
theorem zNw (s:ByteArray):
    Pur cfg 225 [vS s] (vB (hasB words s)):=by
 refine zT Tryz.func225 O Tryz.ntmps225 Tryz.results225 O ?_
 intro z hz
 refine B O<|F O<|H<|B O<|qK O ok267 (lexer_keywords) T<|F O<|qK O ok46 (kE _ _ (by decide)) ⟨G,O,G,O,T⟩<|F O<|H<|U<|M O ?_
 exact O
theorem zDn (s:ByteArray):
    Pur cfg 176 [vS s] (vB (isNameB s)):=by
 refine zT Tryz.func176 O Tryz.ntmps176 Tryz.results176 O ?_
 intro z hz
 refine B O<|F O<|H<|B O<|F O<|zX O (zDr O O O)<|F O<|w O (fun g1_2=>zQ O O) O<|R 6 O (fun g1_2=>wX O un9 O) O<|R 7 O (fun g1_2=>kS O O O) O<|yY O (fun h=>h)<|F O<|w O (fun g1_7=>zQ O O) O<|R 11 O (fun g1_7=>zBv O un9 O O (by decide) (size_pos (nm1 g1_7))) O<|R 12 O (fun g1_7=>zEw O us5 ik21 O) O<|R 13 O (fun g1_7=>qF O ok222 (zLa _) ⟨G,O,T⟩) O<|yY O (fun h=>h)<|F O<|w O (fun g1_13=>zQ O O) O<|R 17 O (fun g1_13=>qF O ok223 (zKi s (nm2 g1_13)) ⟨G,O,G,O,T⟩) O<|w O (fun g1_13=>zQ O O) O<|R 19 O (fun g1_13=>wX O un9 O) O<|rLz [(18,_),(20,_)] O J ⟨O,O,O,O,T⟩ (fun g1_13=>yG O O O) O<|yY O (fun h=>h)<|F O<|w O (fun g1_20=>zQ O O) O<|R 24 O (fun g1_20=>qF O ok225 (zNw _) ⟨G,O,T⟩) O<|R 25 O (fun g1_20=>wO O O) O<|yY O (fun h=>h)<|F O<|H<|U<|M O ?_
 exact congrArg vB (isName_eq s)
theorem base_Words  :
    Pur cfg 201 [] (vSs words):=by
 refine zT Tryz.func201 O Tryz.ntmps201 Tryz.results201 O ?_
 intro z hz
 refine B O<|zX O (yN 1 O O)<|H<|B O<|yB O el22 zr9<|F O<|H<|U<|M O ?_
 exact O
theorem zJj (l:List ByteArray) (s:ByteArray) (hl:l.length<=6000000000000):
    Pur cfg 50 [vSs l,vS s] (vB (hasB l s)):=by
 refine zT Tryz.func50 O Tryz.ntmps50 Tryz.results50 O ?_
 intro z hz
 refine B O<|F O<|H<|W<|B O<|F O<|H<|zP<|zW ⟨[(5,.c _),(0,.c _),(1,.c _)],[]⟩ (Weak.mk [] ⟨G,G,G,T⟩ O)<|qJ 1 0 O O (Nat) (fun k=>[(5,vI k)]) (fun k=>[]) (fun k=>k<=l.length/\hasB (l.take k) s=false) (fun k=>l.length-k) ⟨0,⟨by omega,O⟩,Weak.mk [] ⟨G,G,G,T⟩ O⟩ ?_
 rintro k ⟨hk,hp⟩
 refine W<|B O<|F O<|F O<|zZ O el22<|yD O<|H<|g O (fun c1=>?_) (fun c1=>?_)
 ·try simp only [I] at c1
  obtain ⟨t,ht⟩:=qQ l k (by omega)
  refine zJ<|W<|zP<|B O<|F O<|F O<|qH O el22 (by omega) (X ht)<|zL i qB O<|F O<|zX O (yL O O O)<|H<|g O (fun c2=>?_) (fun c2=>?_)
  ·try simp only [I] at c2
   refine B O<|F O<|H<|U<|M O ?_
   rw [yP ht c2]
  ·try simp only [I] at c2
   refine zJ<|zU O<|F O<|qL O ⟨by omega,by omega⟩<|F O<|H ?_
   refine ⟨k+1,⟨by omega,zLc ht hp c2⟩,(by omega),Weak.mk [] ⟨G,G,G,T⟩ O⟩
 ·try simp only [I] at c1
  refine qN<|B O<|F O<|H<|U<|M O ?_
  rw [show hasB l s=false by rw [qW (by omega)] at hp;exact hp]
theorem zJi (s:ByteArray):
    Pur cfg 146 [vS s] (vB (isNameB s)):=by
 refine zT Tryz.func146 O Tryz.ntmps146 Tryz.results146 O ?_
 intro z hz
 refine B O<|F O<|H<|W<|B O<|F O<|zX O (wX O un9 O)<|yD O<|F O<|w O (fun g1_3=>zQ O O) O<|R 9 O (fun g1_3=>wX O un9 O) O<|R 10 O (fun g1_3=>yM O O O) O<|r_or O (fun h=>(lzf h))<|F O<|w O (fun g1_8=>qF O ok201 (base_Words) T) O<|w O (fun g1_8=>zQ O O) O<|rLz [(14,_),(15,_)] O J ⟨O,O,O,O,T⟩ (fun g1_8=>qF O ok50 (zJj _ _ (by decide)) ⟨G,O,G,O,T⟩) O<|r_or O (fun h=>(lzf h))<|H<|g O (fun c1=>?_) (fun c1=>?_)
 ·try simp only [I] at c1
  have hno:=name_short (s:=s) (by simpa using c1)
  refine B O<|F O<|H<|U<|M O ?_
  rw [hno]
 ·try simp only [I] at c1
  obtain ⟨⟨n1,n2⟩,n3⟩:=c1
  have n1:1<=s.size:=by omega
  have n2:s.size<=16:=by omega
  have hne:=name_end n1 n2 n3
  refine zJ<|W<|B O<|F O<|H<|zP<|zW ⟨[(3,.c _),(0,.c _)],[]⟩ (Weak.mk [] ⟨G,G,T⟩ O)<|qJ 1 0 O O (Nat) (fun k=>[(3,vI k)]) (fun k=>[]) (fun k=>k<=s.size/\okTo s k=true) (fun k=>s.size-k) ⟨0,⟨by omega,O⟩,Weak.mk [] ⟨G,G,T⟩ O⟩ ?_
  rintro k ⟨hk,hp⟩
  refine W<|B O<|F O<|F O<|zX O (wX O un9 O)<|yD O<|H<|g O (fun c2=>?_) (fun c2=>?_)
  ·try simp only [I] at c2
   have hlt:k<s.size:=by omega
   refine zJ<|W<|zP<|B O<|F O<|F O<|zX O (zBv O un9 O O (by omega) (by omega))<|F O<|H<|B O<|F O<|zX O (wB O O O)<|F O<|w O (fun g7_2=>zQ O O) O<|R 30 O (fun g7_2=>kS O O O) O<|yY O (fun h=>h)<|F O<|w O (fun g7_6=>zQ O O) O<|R 34 O (fun g7_6=>yM O O O) O<|R 35 O (fun g7_6=>zQ O O) O<|rLz [] O d T (fun g7_9=>zQ O O) O<|rLz [(37,_)] O d ⟨O,O,T⟩ (fun g7_9=>wB O O O) O<|rLz [(38,_)] O d ⟨O,O,T⟩ (fun g7_9=>zQ O O) O<|rLz [] O d T (fun g7_12=>zQ O O) O<|rLz [(40,_)] O d ⟨O,O,T⟩ (fun g7_12=>kS O O O) O<|rLz [(39,_)] O d ⟨O,O,T⟩ (fun g7_9=>kI O O O (fun h=>kB (by assumption) h) O) O<|rLz [(42,_)] O d ⟨O,O,T⟩ (fun g7_9=>zQ O O) O<|rLz [] O d T (fun g7_16=>zQ O O) O<|rLz [(44,_)] O d ⟨O,O,T⟩ (fun g7_16=>yG O O O) O<|rLz [(43,_)] O d ⟨O,O,T⟩ (fun g7_9=>zBs O O O O (fun h=>kB (by assumption) (lzf h))) O<|R 36 O (fun g7_6=>kI O O O (fun h=>kB (by assumption) h) O) O<|r_or O (fun h=>(lzf h))<|wP O<|H<|g O (fun c3=>?_) (fun c3=>?_)
   ·have hbad:okTo s (k+1)=false:=by rw [okTo_next,show nameOk k (s.data.toList.getD k 0)=false from (Bool.not_eq_true' _).mp c3];simp
    refine B O<|F O<|H<|U<|M O ?_
    rw [hne];cases ho:okTo s s.size;rfl;exact absurd (okTo_le (k:=k+1) (by omega) ho) (by rw [hbad];simp)
   ·have hgood:okTo s (k+1)=true:=by rw [okTo_next,hp,show nameOk k (s.data.toList.getD k 0)=true from (Bool.not_eq_false' _).mp c3];rfl
    refine zJ<|zU O<|F O<|qL O ⟨by omega,by omega⟩<|F O<|H ?_
    refine ⟨k+1,⟨by omega,hgood⟩,(by omega),Weak.mk [] ⟨G,G,T⟩ O⟩
  ·try simp only [I] at c2
   refine qN<|B O<|F O<|H<|U<|M O ?_
   rw [hne,show s.size=k by omega,hp]
theorem lin_reserved (s:ByteArray):
    Pur cfg 228 [vS s] (vB (hasB words s)):=by
 refine zT Tryz.func228 O Tryz.ntmps228 Tryz.results228 O ?_
 intro z hz
 refine B O<|F O<|H<|W<|B O<|F O<|H<|zP<|W<|B O<|zX O (yL O O O)<|F O<|H<|g O (fun c1=>?_) (fun c1=>?_)
 ·try simp only [I] at c1
  refine zJ<|g O (fun c22=>?_) (fun c22=>?_)
  ·try simp only [I] at c22
   refine B O<|F O<|H<|U<|M O ?_
   rw [yP (l:=words) (k:=0) rfl c1.symm]
  ·try simp only [I] at c22
   refine zJ<|B O<|F O<|H<|U<|M O ?_
   exact absurd c1 c22
 ·try simp only [I] at c1
  refine B O<|zX O (yL O O O)<|F O<|H<|g O (fun c2=>?_) (fun c2=>?_)
  ·try simp only [I] at c2
   refine zJ<|g O (fun c22=>?_) (fun c22=>?_)
   ·try simp only [I] at c22
    refine B O<|F O<|H<|U<|M O ?_
    rw [yP (l:=words) (k:=1) rfl c2.symm]
   ·try simp only [I] at c22
    refine zJ<|B O<|F O<|H<|U<|M O ?_
    exact absurd c2 c22
  ·try simp only [I] at c2
   refine B O<|zX O (yL O O O)<|F O<|H<|g O (fun c3=>?_) (fun c3=>?_)
   ·try simp only [I] at c3
    refine zJ<|g O (fun c22=>?_) (fun c22=>?_)
    ·try simp only [I] at c22
     refine B O<|F O<|H<|U<|M O ?_
     rw [yP (l:=words) (k:=2) rfl c3.symm]
    ·try simp only [I] at c22
     refine zJ<|B O<|F O<|H<|U<|M O ?_
     exact absurd c3 c22
   ·try simp only [I] at c3
    refine B O<|zX O (yL O O O)<|F O<|H<|g O (fun c4=>?_) (fun c4=>?_)
    ·try simp only [I] at c4
     refine zJ<|g O (fun c22=>?_) (fun c22=>?_)
     ·try simp only [I] at c22
      refine B O<|F O<|H<|U<|M O ?_
      rw [yP (l:=words) (k:=3) rfl c4.symm]
     ·try simp only [I] at c22
      refine zJ<|B O<|F O<|H<|U<|M O ?_
      exact absurd c4 c22
    ·try simp only [I] at c4
     refine B O<|zX O (yL O O O)<|F O<|H<|g O (fun c5=>?_) (fun c5=>?_)
     ·try simp only [I] at c5
      refine zJ<|g O (fun c22=>?_) (fun c22=>?_)
      ·try simp only [I] at c22
       refine B O<|F O<|H<|U<|M O ?_
       rw [yP (l:=words) (k:=4) rfl c5.symm]
      ·try simp only [I] at c22
       refine zJ<|B O<|F O<|H<|U<|M O ?_
       exact absurd c5 c22
     ·try simp only [I] at c5
      refine B O<|zX O (yL O O O)<|F O<|H<|g O (fun c6=>?_) (fun c6=>?_)
      ·try simp only [I] at c6
       refine zJ<|g O (fun c22=>?_) (fun c22=>?_)
       ·try simp only [I] at c22
        refine B O<|F O<|H<|U<|M O ?_
        rw [yP (l:=words) (k:=5) rfl c6.symm]
       ·try simp only [I] at c22
        refine zJ<|B O<|F O<|H<|U<|M O ?_
        exact absurd c6 c22
      ·try simp only [I] at c6
       refine B O<|zX O (yL O O O)<|F O<|H<|g O (fun c7=>?_) (fun c7=>?_)
       ·try simp only [I] at c7
        refine zJ<|g O (fun c22=>?_) (fun c22=>?_)
        ·try simp only [I] at c22
         refine B O<|F O<|H<|U<|M O ?_
         rw [yP (l:=words) (k:=6) rfl c7.symm]
        ·try simp only [I] at c22
         refine zJ<|B O<|F O<|H<|U<|M O ?_
         exact absurd c7 c22
       ·try simp only [I] at c7
        refine B O<|zX O (yL O O O)<|F O<|H<|g O (fun c8=>?_) (fun c8=>?_)
        ·try simp only [I] at c8
         refine zJ<|g O (fun c22=>?_) (fun c22=>?_)
         ·try simp only [I] at c22
          refine B O<|F O<|H<|U<|M O ?_
          rw [yP (l:=words) (k:=7) rfl c8.symm]
         ·try simp only [I] at c22
          refine zJ<|B O<|F O<|H<|U<|M O ?_
          exact absurd c8 c22
        ·try simp only [I] at c8
         refine B O<|zX O (yL O O O)<|F O<|H<|g O (fun c9=>?_) (fun c9=>?_)
         ·try simp only [I] at c9
          refine zJ<|g O (fun c22=>?_) (fun c22=>?_)
          ·try simp only [I] at c22
           refine B O<|F O<|H<|U<|M O ?_
           rw [yP (l:=words) (k:=8) rfl c9.symm]
          ·try simp only [I] at c22
           refine zJ<|B O<|F O<|H<|U<|M O ?_
           exact absurd c9 c22
         ·try simp only [I] at c9
          refine B O<|zX O (yL O O O)<|F O<|H<|g O (fun c10=>?_) (fun c10=>?_)
          ·try simp only [I] at c10
           refine zJ<|g O (fun c22=>?_) (fun c22=>?_)
           ·try simp only [I] at c22
            refine B O<|F O<|H<|U<|M O ?_
            rw [yP (l:=words) (k:=9) rfl c10.symm]
           ·try simp only [I] at c22
            refine zJ<|B O<|F O<|H<|U<|M O ?_
            exact absurd c10 c22
          ·try simp only [I] at c10
           refine B O<|zX O (yL O O O)<|F O<|H<|g O (fun c11=>?_) (fun c11=>?_)
           ·try simp only [I] at c11
            refine zJ<|g O (fun c22=>?_) (fun c22=>?_)
            ·try simp only [I] at c22
             refine B O<|F O<|H<|U<|M O ?_
             rw [yP (l:=words) (k:=10) rfl c11.symm]
            ·try simp only [I] at c22
             refine zJ<|B O<|F O<|H<|U<|M O ?_
             exact absurd c11 c22
           ·try simp only [I] at c11
            refine B O<|zX O (yL O O O)<|F O<|H<|g O (fun c12=>?_) (fun c12=>?_)
            ·try simp only [I] at c12
             refine zJ<|g O (fun c22=>?_) (fun c22=>?_)
             ·try simp only [I] at c22
              refine B O<|F O<|H<|U<|M O ?_
              rw [yP (l:=words) (k:=11) rfl c12.symm]
             ·try simp only [I] at c22
              refine zJ<|B O<|F O<|H<|U<|M O ?_
              exact absurd c12 c22
            ·try simp only [I] at c12
             refine B O<|zX O (yL O O O)<|F O<|H<|g O (fun c13=>?_) (fun c13=>?_)
             ·try simp only [I] at c13
              refine zJ<|g O (fun c22=>?_) (fun c22=>?_)
              ·try simp only [I] at c22
               refine B O<|F O<|H<|U<|M O ?_
               rw [yP (l:=words) (k:=12) rfl c13.symm]
              ·try simp only [I] at c22
               refine zJ<|B O<|F O<|H<|U<|M O ?_
               exact absurd c13 c22
             ·try simp only [I] at c13
              refine B O<|zX O (yL O O O)<|F O<|H<|g O (fun c14=>?_) (fun c14=>?_)
              ·try simp only [I] at c14
               refine zJ<|g O (fun c22=>?_) (fun c22=>?_)
               ·try simp only [I] at c22
                refine B O<|F O<|H<|U<|M O ?_
                rw [yP (l:=words) (k:=13) rfl c14.symm]
               ·try simp only [I] at c22
                refine zJ<|B O<|F O<|H<|U<|M O ?_
                exact absurd c14 c22
              ·try simp only [I] at c14
               refine B O<|zX O (yL O O O)<|F O<|H<|g O (fun c15=>?_) (fun c15=>?_)
               ·try simp only [I] at c15
                refine zJ<|g O (fun c22=>?_) (fun c22=>?_)
                ·try simp only [I] at c22
                 refine B O<|F O<|H<|U<|M O ?_
                 rw [yP (l:=words) (k:=14) rfl c15.symm]
                ·try simp only [I] at c22
                 refine zJ<|B O<|F O<|H<|U<|M O ?_
                 exact absurd c15 c22
               ·try simp only [I] at c15
                refine B O<|zX O (yL O O O)<|F O<|H<|g O (fun c16=>?_) (fun c16=>?_)
                ·try simp only [I] at c16
                 refine zJ<|g O (fun c22=>?_) (fun c22=>?_)
                 ·try simp only [I] at c22
                  refine B O<|F O<|H<|U<|M O ?_
                  rw [yP (l:=words) (k:=15) rfl c16.symm]
                 ·try simp only [I] at c22
                  refine zJ<|B O<|F O<|H<|U<|M O ?_
                  exact absurd c16 c22
                ·try simp only [I] at c16
                 refine B O<|zX O (yL O O O)<|F O<|H<|g O (fun c17=>?_) (fun c17=>?_)
                 ·try simp only [I] at c17
                  refine zJ<|g O (fun c22=>?_) (fun c22=>?_)
                  ·try simp only [I] at c22
                   refine B O<|F O<|H<|U<|M O ?_
                   rw [yP (l:=words) (k:=16) rfl c17.symm]
                  ·try simp only [I] at c22
                   refine zJ<|B O<|F O<|H<|U<|M O ?_
                   exact absurd c17 c22
                 ·try simp only [I] at c17
                  refine B O<|zX O (yL O O O)<|F O<|H<|g O (fun c18=>?_) (fun c18=>?_)
                  ·try simp only [I] at c18
                   refine zJ<|g O (fun c22=>?_) (fun c22=>?_)
                   ·try simp only [I] at c22
                    refine B O<|F O<|H<|U<|M O ?_
                    rw [yP (l:=words) (k:=17) rfl c18.symm]
                   ·try simp only [I] at c22
                    refine zJ<|B O<|F O<|H<|U<|M O ?_
                    exact absurd c18 c22
                  ·try simp only [I] at c18
                   refine B O<|zX O (yL O O O)<|F O<|H<|g O (fun c19=>?_) (fun c19=>?_)
                   ·try simp only [I] at c19
                    refine zJ<|g O (fun c22=>?_) (fun c22=>?_)
                    ·try simp only [I] at c22
                     refine B O<|F O<|H<|U<|M O ?_
                     rw [yP (l:=words) (k:=18) rfl c19.symm]
                    ·try simp only [I] at c22
                     refine zJ<|B O<|F O<|H<|U<|M O ?_
                     exact absurd c19 c22
                   ·try simp only [I] at c19
                    refine B O<|zX O (yL O O O)<|F O<|H<|g O (fun c20=>?_) (fun c20=>?_)
                    ·try simp only [I] at c20
                     refine zJ<|g O (fun c22=>?_) (fun c22=>?_)
                     ·try simp only [I] at c22
                      refine B O<|F O<|H<|U<|M O ?_
                      rw [yP (l:=words) (k:=19) rfl c20.symm]
                     ·try simp only [I] at c22
                      refine zJ<|B O<|F O<|H<|U<|M O ?_
                      exact absurd c20 c22
                    ·try simp only [I] at c20
                     refine B O<|zX O (yL O O O)<|F O<|H<|g O (fun c21=>?_) (fun c21=>?_)
                     ·try simp only [I] at c21
                      refine zJ<|g O (fun c22=>?_) (fun c22=>?_)
                      ·try simp only [I] at c22
                       refine B O<|F O<|H<|U<|M O ?_
                       rw [yP (l:=words) (k:=20) rfl c21.symm]
                      ·try simp only [I] at c22
                       refine zJ<|B O<|F O<|H<|U<|M O ?_
                       exact absurd c21 c22
                     ·try simp only [I] at c21
                      refine zU O<|zX O (yL O O O)<|F O<|H<|g O (fun c22=>?_) (fun c22=>?_)
                      ·try simp only [I] at c22
                       refine B O<|F O<|H<|U<|M O ?_
                       rw [yP (l:=words) (k:=21) rfl c22.symm]
                      ·try simp only [I] at c22
                       refine zJ<|B O<|F O<|H<|U<|M O ?_
                       rw [show hasB words s=false by
                         simp only [hasB,words,List.any_cons,List.any_nil,Bool.or_eq_false_iff,decide_eq_false_iff_not]
                         exact ⟨fun h=>c1 h.symm,fun h=>c2 h.symm,fun h=>c3 h.symm,fun h=>c4 h.symm,fun h=>c5 h.symm,fun h=>c6 h.symm,fun h=>c7 h.symm,fun h=>c8 h.symm,fun h=>c9 h.symm,fun h=>c10 h.symm,fun h=>c11 h.symm,fun h=>c12 h.symm,fun h=>c13 h.symm,fun h=>c14 h.symm,fun h=>c15 h.symm,fun h=>c16 h.symm,fun h=>c17 h.symm,fun h=>c18 h.symm,fun h=>c19 h.symm,fun h=>c20 h.symm,fun h=>c21 h.symm,fun h=>c22 h.symm,T⟩]
theorem lin_identifier (s:ByteArray):
    Pur cfg 183 [vS s] (vB (isNameB s)):=by
 refine zT Tryz.func183 O Tryz.ntmps183 Tryz.results183 O ?_
 intro z hz
 refine B O<|F O<|H<|W<|B O<|F O<|zX O (wX O un9 O)<|yD O<|F O<|w O (fun g1_3=>zQ O O) O<|R 9 O (fun g1_3=>wX O un9 O) O<|R 10 O (fun g1_3=>yM O O O) O<|r_or O (fun h=>(lzf h))<|F O<|w O (fun g1_8=>zQ O O) O<|R 14 O (fun g1_8=>qF O ok228 (lin_reserved _) ⟨G,O,T⟩) O<|r_or O (fun h=>(lzf h))<|F O<|w O (fun g1_12=>zQ O O) O<|R 18 O (fun g1_12=>zBv O un9 O O (by decide) (by simp only [Lz,cond_true,cond_false,Bool.and_eq_true,Bool.or_eq_true,Bool.not_eq_true',Bool.not_eq_false',Bool.or_eq_false_iff,Bool.and_eq_false_iff,decide_eq_true_eq,decide_eq_false_iff_not,Bool.not_eq_true,Bool.not_eq_false] at g1_12;omega)) O<|R 19 O (fun g1_12=>zGc O O O) O<|r_or O (fun h=>(lzf h))<|F O<|w O (fun g1_17=>zQ O O) O<|R 23 O (fun g1_17=>zBv O un9 O O (by decide) (by simp only [Lz,cond_true,cond_false,Bool.and_eq_true,Bool.or_eq_true,Bool.not_eq_true',Bool.not_eq_false',Bool.or_eq_false_iff,Bool.and_eq_false_iff,decide_eq_true_eq,decide_eq_false_iff_not,Bool.not_eq_true,Bool.not_eq_false] at g1_17;omega)) O<|R 24 O (fun g1_17=>yM O O O) O<|r_or O (fun h=>(lzf h))<|H<|g O (fun c1=>?_) (fun c1=>?_)
 ·have hno:=ident_no c1
  refine B O<|F O<|H<|U<|M O ?_
  rw [hno]
 ·obtain ⟨n1,n2,hne⟩:=ident_yes c1
  refine zJ<|W<|B O<|F O<|zX O (wX O un9 O)<|F O<|H<|zP<|zW ⟨[(29,.c _),(0,.c _),(28,.c _)],[]⟩ (Weak.mk [] ⟨G,G,G,T⟩ O)<|qJ 1 0 O O (Nat) (fun k=>[(29,vI k)]) (fun k=>[]) (fun k=>k<=s.size/\(s.data.toList.take k).all inWordB=true) (fun k=>s.size-k) ⟨0,⟨by omega,O⟩,Weak.mk [] ⟨G,G,G,T⟩ O⟩ ?_
  rintro k ⟨hk,hp⟩
  refine B O<|yD O<|H<|W<|g O (fun c2=>?_) (fun c2=>?_)
  ·try simp only [I] at c2
   have hlt:k<s.size:=by omega
   refine zJ<|W<|zP<|B O<|F O<|F O<|H<|B O<|F O<|F O<|zX O (zBv O un9 O O (by omega) (by omega))<|F O<|H<|B O<|F O<|yD O<|F O<|w O (fun g7_2=>zQ O O) O<|R 38 O (fun g7_2=>yM O O O) O<|r_or O (fun h=>(lzf h))<|F O<|w O (fun g7_6=>zQ O O) O<|R 42 O (fun g7_6=>zGc O O O) O<|R 43 O (fun g7_6=>zQ O O) O<|rLz [] O d T (fun g7_9=>zQ O O) O<|rLz [(45,_)] O d ⟨O,O,T⟩ (fun g7_9=>yM O O O) O<|R 44 O (fun g7_6=>zBs O O O O (fun h=>kB (by assumption) (lzf h))) O<|yY O (fun h=>h)<|F O<|w O (fun g7_14=>zQ O O) O<|R 50 O (fun g7_14=>zAf O O O) O<|yY O (fun h=>h)<|H<|g O (fun c3=>?_) (fun c3=>?_)
   ·have hbad:=word_no hlt c3
    refine B O<|F O<|H<|U<|M O ?_
    rw [hne,hbad]
   ·have hgood:=word_yes hlt hp c3
    refine zJ<|zU O<|qL O ⟨by omega,by omega⟩<|F O<|H ?_
    refine ⟨k+1,⟨by omega,hgood⟩,(by omega),Weak.mk [] ⟨G,G,G,T⟩ O⟩
  ·try simp only [I] at c2
   refine qN<|B O<|F O<|H<|U<|M O ?_
   rw [hne,word_all hp (by omega)]
theorem zFz (l:Lf) (hl:l.L.length<=6000000000000):
    Pur cfg 162 [vLin l] (vI (linErr l)):=by
 refine zT Tryz.func162 O Tryz.ntmps162 Tryz.results162 O ?_
 intro z hz
 refine B O<|zV O O (qI O O) ?_
 rintro _ _ ⟨b1,rfl,rfl⟩
 refine F O<|H<|W<|B O<|zH O wN<|zL zBn (K 0 O) O<|zZ O q<|F O<|H<|zP<|zW ⟨[(8,.c _),(1,.c _),(6,.c _),(7,.c _)],[_]⟩ (Weak.mk [true] ⟨G,G,G,G,T⟩ O)<|qJ 1 0 O O (Nat) (fun k=>[(8,vI k)]) (fun k=>[]) (fun k=>k<=l.L.length/\(linOk l=monosOk (prevOf l.L k) (l.L.drop k))) (fun k=>l.L.length-k) ⟨0,⟨by omega,O⟩,Weak.mk [true] ⟨G,G,G,G,T⟩ O⟩ ?_
 rintro k ⟨hk,hp⟩
 refine B O<|yD O<|H<|W<|g O (fun c1=>?_) (fun c1=>?_)
 ·try simp only [I] at c1
  obtain ⟨x,hx⟩:=qQ l.L k (by omega)
  refine zJ<|W<|zP<|B O<|F O<|qH O q (by omega) (X (by assumption))<|zK zHj qB O<|zV O O (qX O zr101) ?_
  rintro _ _ ⟨b2,rfl,rfl⟩
  refine F O<|N 0 sz101 O<|H<|W<|qP 25 mixed (by kernel_rfl) O O<|Y O O (zE O zAt O)<|Y O O (zG O i O (K 0 O) O)<|Y O O (qF O ok183 (lin_identifier _) ⟨G,O,T⟩)<|Y O O (wO O O)<|Y O O (zQ O O)<|f [] O O O O J T (fun g4_4=>zE O fd101_1 O) O<|f [(18,_)] O O O O J ⟨O,O,T⟩ (fun g4_4=>zG O one2 O (K 0 O) O) O<|f [(19,_)] O O O O J ⟨O,O,T⟩ (fun g4_4=>yG O O O) O<|Y O O (zBs O O O O (fun h=>(lzf h)))<|Y O O (zQ O O)<|f [] O O O O J T (fun g4_9=>zQ O O) O<|f [(23,_)] O O O O J ⟨O,O,T⟩ (fun g4_9=>yM O O O) O<|f [(24,_)] O O O O J ⟨O,O,T⟩ (fun g4_9=>zQ O O) O<|f [] O O O O d T (fun g4_12=>zE O wN O) O<|f [(26,_)] O O O O d ⟨O,O,T⟩ (fun g4_12=>zG O zBn O (K 1 O) O) O<|f [] O O O O d T (fun g4_12=>zQ O O) O<|f [(28,_)] O O O O d ⟨O,O,T⟩ (fun g4_12=>zAb O O O ⟨by omega,by omega⟩) O<|f [(27,_),(29,_)] O O O O d ⟨O,O,O,O,T⟩ (fun g4_12=>qA O q O O (by simp only [Lz,cond_true,cond_false,Bool.and_eq_true,Bool.or_eq_true,Bool.not_eq_true',Bool.not_eq_false',Bool.or_eq_false_iff,Bool.and_eq_false_iff,decide_eq_true_eq,decide_eq_false_iff_not,Bool.not_eq_true,Bool.not_eq_false] at g4_12;omega) (pv_get (by simp only [Lz,cond_true,cond_false,Bool.and_eq_true,Bool.or_eq_true,Bool.not_eq_true',Bool.not_eq_false',Bool.or_eq_false_iff,Bool.and_eq_false_iff,decide_eq_true_eq,decide_eq_false_iff_not,Bool.not_eq_true,Bool.not_eq_false] at g4_12;omega) (by omega))) O<|f [(30,_)] O O O O d ⟨O,O,T⟩ (fun g4_12=>qM O zAt O) O<|f [(31,_)] O O O O d ⟨O,O,T⟩ (fun g4_12=>zG O i O qB O) O<|f [] O O O O d T (fun g4_12=>zE O zAt O) O<|f [(33,_)] O O O O d ⟨O,O,T⟩ (fun g4_12=>zG O i O (K 0 O) O) O<|f [(32,_),(34,_)] O O O O d ⟨O,O,O,O,T⟩ (fun g4_12=>det_sgeq O O O) O<|f [(25,_)] O O O O J ⟨O,O,T⟩ (fun g4_9=>kI O O O (fun h=>kB (by assumption) h) O) O<|Y O O (zBs O O O O (fun h=>(lzf h)))<|yK<|H<|g O (fun c2=>?_) (fun c2=>?_)
  ·refine B O<|F O<|H<|U<|M O ?_
   rw [linErr,hp,zGm hx,show badM l.L k x=true from c2];rfl
  ·refine zJ<|zU O<|qL O ⟨by omega,by omega⟩<|F O<|H ?_
   refine ⟨k+1,⟨by omega,by rw [hp,zGm hx,show badM l.L k x=false from c2];rfl⟩,(by omega),Weak.mk [false,true] ⟨G,G,G,G,T⟩ O⟩
 ·try simp only [I] at c1
  refine qN<|B O<|F O<|H<|U<|M O ?_
  rw [linErr,hp,monos_end (by omega)];rfl
theorem zFa (l:Lf) (hl:l.L.length<=6000000000000):
    Pur cfg 115 [vLin l] (vB (linOk l)):=by
 refine zT Tryz.func115 O Tryz.ntmps115 Tryz.results115 O ?_
 intro z hz
 refine B O<|zV O O (qI O O) ?_
 rintro _ _ ⟨b1,rfl,rfl⟩
 refine F O<|H<|W<|B O<|F O<|H<|zP<|zW ⟨[(3,.c _),(1,.c _)],[_]⟩ (Weak.mk [true] ⟨G,G,T⟩ O)<|qJ 1 0 O O (Nat) (fun k=>[(3,vI k)]) (fun k=>[]) (fun k=>k<=l.L.length/\(linOk l=monosOk (prevOf l.L k) (l.L.drop k))) (fun k=>l.L.length-k) ⟨0,⟨by omega,O⟩,Weak.mk [true] ⟨G,G,T⟩ O⟩ ?_
 rintro k ⟨hk,hp⟩
 refine W<|B O<|F O<|zH O wN<|zL zBn (K 0 O) O<|zZ O q<|yD O<|H<|g O (fun c1=>?_) (fun c1=>?_)
 ·try simp only [I] at c1
  obtain ⟨x,hx⟩:=qQ l.L k (by omega)
  refine zJ<|W<|zP<|W<|qP 37 mixed (by kernel_rfl) O O<|Y O O (zE O wN O)<|Y O O (zG O zBn O (K 0 O) O)<|Y O O (zQ O O)<|Y O O (qA O q O O (by omega) (X (by assumption)))<|Y O O (qM O zAt O)<|Y O O (zG O i O qB O)<|Y O O (qF O ok146 (zJi _) ⟨G,O,T⟩)<|Y O O (wO O O)<|Y O O (zQ O O)<|f [] O O O O J T (fun g4_8=>zE O wN O) O<|f [(20,_)] O O O O J ⟨O,O,T⟩ (fun g4_8=>zG O zBn O (K 0 O) O) O<|f [] O O O O J T (fun g4_8=>zQ O O) O<|f [(21,_),(22,_)] O O O O J ⟨O,O,O,O,T⟩ (fun g4_8=>qA O q O O (by omega) (X (by assumption))) O<|f [(23,_)] O O O O J ⟨O,O,T⟩ (fun g4_8=>qM O fd101_1 O) O<|f [(24,_)] O O O O J ⟨O,O,T⟩ (fun g4_8=>zG O one2 O qB O) O<|f [(25,_)] O O O O J ⟨O,O,T⟩ (fun g4_8=>yG O O O) O<|Y O O (zBs O O O O (fun h=>(lzf h)))<|Y O O (zQ O O)<|f [] O O O O J T (fun g4_17=>zQ O O) O<|f [(29,_)] O O O O J ⟨O,O,T⟩ (fun g4_17=>yM O O O) O<|f [(30,_)] O O O O J ⟨O,O,T⟩ (fun g4_17=>zQ O O) O<|f [] O O O O d T (fun g4_20=>zE O wN O) O<|f [(32,_)] O O O O d ⟨O,O,T⟩ (fun g4_20=>zG O zBn O (K 0 O) O) O<|f [] O O O O d T (fun g4_20=>zQ O O) O<|f [(34,_)] O O O O d ⟨O,O,T⟩ (fun g4_20=>zAb O O O ⟨by omega,by omega⟩) O<|f [(33,_),(35,_)] O O O O d ⟨O,O,O,O,T⟩ (fun g4_20=>qA O q O O (by simp only [Lz,cond_true,cond_false,Bool.and_eq_true,Bool.or_eq_true,Bool.not_eq_true',Bool.not_eq_false',Bool.or_eq_false_iff,Bool.and_eq_false_iff,decide_eq_true_eq,decide_eq_false_iff_not,Bool.not_eq_true,Bool.not_eq_false] at g4_20;omega) (pv_get (by simp only [Lz,cond_true,cond_false,Bool.and_eq_true,Bool.or_eq_true,Bool.not_eq_true',Bool.not_eq_false',Bool.or_eq_false_iff,Bool.and_eq_false_iff,decide_eq_true_eq,decide_eq_false_iff_not,Bool.not_eq_true,Bool.not_eq_false] at g4_20;omega) (by omega))) O<|f [(36,_)] O O O O d ⟨O,O,T⟩ (fun g4_20=>qM O zAt O) O<|f [(37,_)] O O O O d ⟨O,O,T⟩ (fun g4_20=>zG O i O qB O) O<|f [] O O O O d T (fun g4_20=>zE O wN O) O<|f [(39,_)] O O O O d ⟨O,O,T⟩ (fun g4_20=>zG O zBn O (K 0 O) O) O<|f [] O O O O d T (fun g4_20=>zQ O O) O<|f [(40,_),(41,_)] O O O O d ⟨O,O,O,O,T⟩ (fun g4_20=>qA O q O O (by omega) (X (by assumption))) O<|f [(42,_)] O O O O d ⟨O,O,T⟩ (fun g4_20=>qM O zAt O) O<|f [(43,_)] O O O O d ⟨O,O,T⟩ (fun g4_20=>zG O i O qB O) O<|f [(38,_),(44,_)] O O O O d ⟨O,O,O,O,T⟩ (fun g4_20=>det_sgeq O O O) O<|f [(31,_)] O O O O J ⟨O,O,T⟩ (fun g4_17=>kI O O O (fun h=>kB (by assumption) h) O) O<|Y O O (zBs O O O O (fun h=>(lzf h)))<|yK<|H<|g O (fun c2=>?_) (fun c2=>?_)
  ·refine B O<|F O<|H<|U<|M O ?_
   rw [hp,zGm hx,show badM l.L k x=true from c2];rfl
  ·refine zJ<|zU O<|F O<|qL O ⟨by omega,by omega⟩<|F O<|H ?_
   refine ⟨k+1,⟨by omega,by rw [hp,zGm hx,show badM l.L k x=false from c2];rfl⟩,(by omega),Weak.mk [true] ⟨G,G,T⟩ O⟩
 ·try simp only [I] at c1
  refine qN<|B O<|F O<|H<|U<|M O ?_
  rw [hp,monos_end (by omega)]
theorem zFj (s:ByteArray):
    Pur cfg 64 [vS s] (vLin (varL s)):=by
 refine zT Tryz.func64 O Tryz.ntmps64 Tryz.results64 O ?_
 intro z hz
 refine B O<|zV O O (qG [none,some 2] O zr34 O) ?_
 rintro _ _ ⟨b1,rfl,rfl⟩
 refine H<|W<|B O<|F O<|qK O ok146 (zJi _) ⟨G,O,T⟩<|wP O<|H<|g O (fun c1=>?_) (fun c1=>?_)
 ·try simp only [I] at c1
  refine B O<|zX O (yA [none,some 2] O zr34 pl34 O O)<|N 0 sz34 O<|H<|U<|j (zR kQ O (K 0 O) O) ?_
  rw [varL,c1];rfl
 ·try simp only [I] at c1
  refine zJ<|B O<|F O<|yV O zr101 pl101<|yB O q zr101<|yV O zr34 pl34<|N 0 sz34 O<|H<|U<|j (zR kQ O (K 0 O) O) ?_
  rw [varL,c1];rfl
theorem base_Lin (a b:Lf) (ha:a.L.length<=6000000000000):
    Pur cfg 38 [vLin a,vLin b] (vB (decide (a=b))):=by
 refine zT Tryz.func38 O Tryz.ntmps38 Tryz.results38 O ?_
 intro z hz
 refine B O<|zV O O (qI O O) ?_
 rintro _ _ ⟨b1,rfl,rfl⟩
 refine zV O O (qI O O) ?_
 rintro _ _ ⟨b2,rfl,rfl⟩
 refine F O<|H<|W<|B O<|zH O zIx<|zL one2 (K 1 O) O<|zH O zIx<|zL one2 (K 0 O) O<|yU O<|F O<|w O (fun g1_5=>zE O wN O) O<|R 12 O (fun g1_5=>zG O zBn O (K 1 O) O) O<|R 13 O (fun g1_5=>qZ O q O) O<|w O (fun g1_5=>zE O wN O) O<|R 15 O (fun g1_5=>zG O zBn O (K 0 O) O) O<|R 16 O (fun g1_5=>qZ O q O) O<|rLz [(14,_),(17,_)] O J ⟨O,O,O,O,T⟩ (fun g1_5=>zAf O O O) O<|r_or O (fun h=>(lzf h))<|H<|g O (fun c1=>?_) (fun c1=>?_)
 ·try simp only [I] at c1
  refine B O<|F O<|H<|U<|M O ?_
  rw [yJ (fun h=>by rw [h] at c1;simp at c1)]
 ·try simp only [I] at c1
  refine zJ<|W<|B O<|F O<|H<|zP<|zW ⟨[(5,.c _),(2,.c _),(3,.c _)],[_,_]⟩ (Weak.mk [true,true] ⟨G,G,G,T⟩ O)<|qJ 1 0 O O (Nat) (fun k=>[(5,vI k)]) (fun k=>[]) (fun k=>k<=a.L.length/\(a.L.take k=b.L.take k)) (fun k=>a.L.length-k) ⟨0,⟨by omega,O⟩,Weak.mk [true,true] ⟨G,G,G,T⟩ O⟩ ?_
  rintro k ⟨hk,hp⟩
  refine W<|B O<|F O<|zH O wN<|zL zBn (K 1 O) O<|zZ O q<|yD O<|H<|g O (fun c2=>?_) (fun c2=>?_)
  ·try simp only [I] at c2
   obtain ⟨x,hx⟩:=qQ a.L k (by omega)
   obtain ⟨y,hy⟩:=qQ b.L k (by omega)
   refine zJ<|W<|zP<|W<|qP 11 mixed (by kernel_rfl) O O<|Y O O (zE O wN O)<|Y O O (zG O zBn O (K 1 O) O)<|Y O O (zQ O O)<|Y O O (qA O q O O (by omega) (X (by assumption)))<|Y O O (zM O zHj O qB O)<|Y O O (zE O wN O)<|Y O O (zG O zBn O (K 0 O) O)<|Y O O (zQ O O)<|Y O O (qA O q O O (by omega) (X (by assumption)))<|Y O O (zM O zHj O qB O)<|Y O O (zCm O fl101 O O O)<|yK<|H<|g O (fun c3=>?_) (fun c3=>?_)
   ·have hne:=mono_ne c3
    refine B O<|F O<|H<|U<|M O ?_
    rw [yJ (fun h=>zFw hx hy hne (by rw [h]))]
   ·have heq:=mono_eq c3
    refine zJ<|zU O<|F O<|qL O ⟨by omega,by omega⟩<|F O<|H ?_
    refine ⟨k+1,⟨by omega,zCa hx hy hp heq⟩,(by omega),Weak.mk [true,true] ⟨G,G,G,T⟩ O⟩
  ·try simp only [I] at c2
   refine qN<|B O<|F O<|H<|U<|M O ?_
   rw [wD (lin_mk (by omega) (zEi hp (by omega) (by omega)))]
theorem zHp (l:List Ix) (c:C) (p:Ix->Bool) (hl:l.length<=6000000000000) (hc:∀x,x∈l->FnPur cfg c [vIndex x] (vB (p x))):
    Pur cfg 257 [vIndices l,.c c] (vI (idxOf p l)):=by
 refine zT Tryz.func257 O Tryz.ntmps257 Tryz.results257 O ?_
 intro z hz
 refine B O<|F O<|H<|W<|B O<|F O<|zZ O s<|F O<|H<|zP<|zW ⟨[(8,.c _),(0,.c _),(1,.c _),(7,.c _)],[]⟩ (Weak.mk [] ⟨G,G,G,G,T⟩ O)<|qJ 1 0 O O (Nat) (fun k=>[(8,vI k)]) (fun k=>[]) (fun k=>k<=l.length/\((l.take k).any p=false)) (fun k=>l.length-k) ⟨0,⟨by omega,O⟩,Weak.mk [] ⟨G,G,G,G,T⟩ O⟩ ?_
 rintro k ⟨hk,hp⟩
 refine B O<|yD O<|H<|W<|g O (fun c1=>?_) (fun c1=>?_)
 ·try simp only [I] at c1
  obtain ⟨x,hx⟩:=qQ l k (by omega)
  refine zJ<|W<|zP<|B O<|F O<|F O<|H<|B O<|F O<|F O<|F O<|qH O s (by omega) (X (by assumption))<|zK zJn qB O<|zX O (wS O O (hc _ (qD hx)) ⟨G,O,T⟩)<|H<|g O (fun c2=>?_) (fun c2=>?_)
  ·try simp only [I] at c2
   refine B O<|F O<|F O<|H<|U<|M O ?_
   rw [idxOf_at hx c2 hp]
  ·try simp only [I] at c2
   refine zJ<|zU O<|qL O ⟨by omega,by omega⟩<|F O<|H ?_
   refine ⟨k+1,⟨by omega,zGw hx hp c2⟩,(by omega),Weak.mk [] ⟨G,G,G,G,T⟩ O⟩
 ·try simp only [I] at c1
  refine qN<|B O<|F O<|H<|U<|M O ?_
  rw [zKl (by rw [qW (by omega)] at hp;exact hp)]
theorem zAi (l:List Ix) (c:C) (p:Ix->Bool) (hl:l.length<=6000000000000) (hc:∀x,x∈l->FnPur cfg c [vIndex x] (vB (p x))):
    Pur cfg 208 [vIndices l,.c c] (vB (l.any p)):=by
 refine zT Tryz.func208 O Tryz.ntmps208 Tryz.results208 O ?_
 intro z hz
 refine B O<|F O<|H<|B O<|F O<|F O<|qK O ok257 (zHp l c p hl hc) ⟨G,O,G,O,T⟩<|zX O (wB O O O)<|F O<|H<|U<|M O ?_
 rw [idxOf_any]
end Go.W
