/-
  Walks: what functions of the program compute. Printed by wip/gen/mk2.py.
  Conditions: none.
-/
import Derived.Test.YtkijgodlhljgdaaGreatDoorFacts
import Derived.Test.YtkijgodlhljgdaaGreatDoorPlain
set_option linter.unusedSimpArgs false
set_option linter.unusedVariables false
set_option maxRecDepth 10000
namespace Go.W
open Go Go.Eng Go.Proofs Go.L41 Go.Br
attribute [local irreducible] AWP RWP TD finQ
theorem kw_ascii:∀(j:Nat) (b:UInt8),(bs kwBytes).data.toList[j]? =some b->b.toNat<128:=by
  intro j b h
  have:(kwBytes.all fun c=>decide (c.toNat<128))=true:=by decide
  rw [List.all_eq_true] at this
  simpa using this b (List.mem_of_getElem? h)
theorem kw_fields:(Lib.fields kwBytes).map bs=words:=by decide+kernel
theorem nm1 {s:ByteArray} (h:Lz (!decide (s=bs [])&&decide ((s.size:Int)<=16)) true=true):¬s=bs []:=by
  simp only [Lz,cond_true,Bool.and_eq_true,Bool.not_eq_true',decide_eq_false_iff_not] at h
  exact h.1
theorem nm2 {s:ByteArray} {p:Bool} (h:Lz (!decide (s=bs [])&&decide ((s.size:Int)<=16)&&p) true=true):s.size<=1000000:=by
  simp only [Lz,cond_true,Bool.and_eq_true,decide_eq_true_eq] at h
  omega
theorem kK:aggT Tryz.prog 34=some 2:=by kernel_rfl
theorem zJe:aggT Tryz.prog 67=some 4:=by kernel_rfl
theorem zHa:aggT Tryz.prog 101=some 2:=by kernel_rfl
theorem el22:elemT Tryz.prog 22=some (9,1,16):=by kernel_rfl
theorem el32:elemT Tryz.prog 32=some (101,2,24):=by kernel_rfl
theorem el35:elemT Tryz.prog 35=some (67,4,72):=by kernel_rfl
theorem zIp:fieldT Tryz.prog 34 0=some (0,2):=by kernel_rfl
theorem wU:fieldT Tryz.prog 34 1=some (1,32):=by kernel_rfl
theorem zBj:fieldT Tryz.prog 101 0=some (0,9):=by kernel_rfl
theorem fd101_1:fieldT Tryz.prog 101 1=some (1,2):=by kernel_rfl
theorem fl101:flatK Tryz.prog 101=some [.str,.int]:=by kernel_rfl
theorem ik21:intT Tryz.prog 21=some .i32:=by kernel_rfl
theorem mixed:Tryz.prog.follows .mixedOrders=true:=by kernel_rfl
theorem ok46:callOk Tryz.prog 46=true:=by kernel_rfl
theorem ok50:callOk Tryz.prog 50=true:=by kernel_rfl
theorem ok111:callOk Tryz.prog 111=true:=by kernel_rfl
theorem ok146:callOk Tryz.prog 146=true:=by kernel_rfl
theorem ok183:callOk Tryz.prog 183=true:=by kernel_rfl
theorem ok201:callOk Tryz.prog 201=true:=by kernel_rfl
theorem ok222:callOk Tryz.prog 222=true:=by kernel_rfl
theorem ok223:callOk Tryz.prog 223=true:=by kernel_rfl
theorem ok224:callOk Tryz.prog 224=true:=by kernel_rfl
theorem ok225:callOk Tryz.prog 225=true:=by kernel_rfl
theorem ok228:callOk Tryz.prog 228=true:=by kernel_rfl
theorem ok257:callOk Tryz.prog 257=true:=by kernel_rfl
theorem ok266:callOk Tryz.prog 266=true:=by kernel_rfl
theorem ok267:callOk Tryz.prog 267=true:=by kernel_rfl
theorem ok293:callOk Tryz.prog 293=true:=by kernel_rfl
theorem one2:oneT Tryz.prog 2=true:=by kernel_rfl
theorem one9:oneT Tryz.prog 9=true:=by kernel_rfl
theorem zBv:oneT Tryz.prog 32=true:=by kernel_rfl
theorem pl34:placesT Tryz.prog 34=some [(0,1),(1,1)]:=by kernel_rfl
theorem pl101:placesT Tryz.prog 101=some [(0,1),(1,1)]:=by kernel_rfl
theorem sz34:(Tryz.prog.info? 34).map (·.size)=some 2:=by kernel_rfl
theorem sz101:(Tryz.prog.info? 101).map (·.size)=some 2:=by kernel_rfl
theorem un9:Tryz.prog.underlying 9=some .string:=by kernel_rfl
theorem us5:(Tryz.prog.underlying 5).isSome=true:=by kernel_rfl
theorem zr9:zeroT Tryz.prog 9=some [(Value.string (ByteArray.mk #[]))]:=by kernel_rfl
theorem zr34:zeroT Tryz.prog 34=some [(Value.int IntKind.i64 0),(Value.slice none 0 0)]:=by kernel_rfl
theorem zr101:zeroT Tryz.prog 101=some [(Value.string (ByteArray.mk #[])),(Value.int IntKind.i64 0)]:=by kernel_rfl
theorem zKr (n:Int):
    Pur cfg 222 [vR n] (vB (letterI n)):=by
 refine zT Tryz.func222 O Tryz.ntmps222 Tryz.results222 O ?_
 intro z hz
 refine B O<|G O<|U<|B O<|G O<|zX O (wD O O O)<|G O<|rL0 O (fun g1_2=>zR O O) O<|rL1 6 O (fun g1_2=>kQ O O O) O<|yW O (fun h=>h)<|G O<|U<|zH<|zQ O ?_
 exact O
theorem lexer_digit (n:Int):
    Pur cfg 266 [vR n] (vB (digitI n)):=by
 refine zT Tryz.func266 O Tryz.ntmps266 Tryz.results266 O ?_
 intro z hz
 refine B O<|G O<|U<|B O<|G O<|zX O (wD O O O)<|G O<|rL0 O (fun g1_2=>zR O O) O<|rL1 6 O (fun g1_2=>kQ O O O) O<|yW O (fun h=>h)<|G O<|U<|zH<|zQ O ?_
 exact O
theorem lexer_inWord (n:Int):
    Pur cfg 224 [vR n] (vB (inWordI n)):=by
 refine zT Tryz.func224 O Tryz.ntmps224 Tryz.results224 O ?_
 intro z hz
 refine B O<|G O<|U<|B O<|G O<|qK O ok222 (zKr _) ⟨Y,O,T⟩<|G O<|rL0 O (fun g1_2=>zR O O) O<|rL1 6 O (fun g1_2=>qG O ok266 (lexer_digit _) ⟨Y,O,T⟩) O<|r_or O (fun h=>(lzf h))<|G O<|rL0 O (fun g1_6=>zR O O) O<|rL1 10 O (fun g1_6=>yF O O O) O<|r_or O (fun h=>(lzf h))<|G O<|U<|zH<|zQ O ?_
 exact O
theorem zKb (s:ByteArray) (hs:s.size<=1000000):
    Pur cfg 223 [vS s,.c (.fn (.func 224) [] [])] (vI (spanB inWordB s.data.toList)):=by
 refine zT Tryz.func223 O Tryz.ntmps223 Tryz.results223 O ?_
 intro z hz
 refine B O<|G O<|U<|B O<|G O<|U<|zI<|zP<|zU ⟨[(5,.c _),(0,.c _),(1,.c _)],[]⟩ (Weak.mk [] ⟨Y,Y,Y,T⟩ O)<|qF 1 0 O O (Nat) (fun k=>[(5,vI k)]) (fun k=>[]) (fun k=>k<=s.size/\(s.data.toList.take k).all inWordB=true) (fun k=>s.size-k) ⟨0,⟨by omega,O⟩,Weak.mk [] ⟨Y,Y,Y,T⟩ O⟩ ?_
 rintro k ⟨hk,hp⟩
 refine zI<|B O<|G O<|G O<|zX O (wT O un9 O)<|yA O<|G O<|rL0 O (fun g2_4=>zR O O) O<|rL0 O (fun g2_4=>zR O O) O<|rL0 O (fun g2_4=>zR O O) O<|rLz [(12,_),(13,_)] O gv1 ⟨O,O,O,O,T⟩ (fun g2_4=>zCa O un9 O O (by omega) (by simp only [Lz,cond_true,decide_eq_true_eq] at g2_4;omega)) O<|rL1 14 O (fun g2_4=>zEy O us5 ik21 O) O<|rLz [(11,_),(15,_)] O gv1 ⟨O,O,O,O,T⟩ (fun g2_4=>zBq O O ok224 (lexer_inWord _) ⟨Y,O,T⟩) O<|yW O (fun h=>h)<|U<|zE O (fun c1=>?_) (fun c1=>?_)
 ·try simp only [W] at c1
  obtain ⟨hlt,hcc⟩:=c1
  have hlt:k<s.size:=by omega
  rw [zHb] at hcc
  refine zJ<|zP<|zS O<|G O<|qJ O ⟨by omega,by omega⟩<|G O<|U ?_
  have hg:=zCe hlt
  refine ⟨k+1,⟨by omega,by rw [zJd hg,hp];exact hcc⟩,(by omega),Weak.mk [] ⟨Y,Y,Y,T⟩ O⟩
 ·try simp only [W] at c1
  have hsp:spanB inWordB s.data.toList=k:=span_stop hp (by
    by_cases hlt:k<s.size
    · right;refine ⟨_,zCe hlt,?_⟩;rcases c1 with c1|c1;omega;rw [zHb] at c1;exact c1
    · left;simp;omega)
  refine qO<|B O<|G O<|G O<|U<|zH<|zQ O ?_
  rw [hsp]
theorem zKy (l:List ByteArray) (s:ByteArray) (hl:l.length<=1000000):
    Pur cfg 111 [vSs l,vS s] (vI (idxB l s)):=by
 refine zT Tryz.func111 O Tryz.ntmps111 Tryz.results111 O ?_
 intro z hz
 refine B O<|G O<|U<|zI<|B O<|G O<|zY O el22<|G O<|U<|zP<|zU ⟨[(8,.c _),(0,.c _),(1,.c _),(7,.c _)],[]⟩ (Weak.mk [] ⟨Y,Y,Y,Y,T⟩ O)<|qF 1 0 O O (Nat) (fun k=>[(8,vI k)]) (fun k=>[]) (fun k=>k<=l.length/\hasB (l.take k) s=false) (fun k=>l.length-k) ⟨0,⟨by omega,O⟩,Weak.mk [] ⟨Y,Y,Y,Y,T⟩ O⟩ ?_
 rintro k ⟨hk,hp⟩
 refine B O<|yA O<|U<|zI<|zE O (fun c1=>?_) (fun c1=>?_)
 ·try simp only [W] at c1
  obtain ⟨t,ht⟩:=qQ l k (by omega)
  refine zJ<|zI<|zP<|B O<|G O<|G O<|U<|B O<|G O<|G O<|G O<|qE O el22 (by omega) (getm ht)<|zK one9 qB O<|zX O (yL O O O)<|U<|zE O (fun c2=>?_) (fun c2=>?_)
  ·try simp only [W] at c2
   refine B O<|G O<|G O<|U<|zH<|zQ O ?_
   rw [idxB_some ht c2 hp]
  ·try simp only [W] at c2
   refine zJ<|zS O<|qJ O ⟨by omega,by omega⟩<|G O<|U ?_
   refine ⟨k+1,⟨by omega,zKt ht hp (fun e=>c2 e.symm)⟩,(by omega),Weak.mk [] ⟨Y,Y,Y,Y,T⟩ O⟩
 ·try simp only [W] at c1
  refine qO<|B O<|G O<|U<|zH<|zQ O ?_
  rw [idxB_none (by rw [qX (by omega)] at hp;exact hp)]
theorem kD (l:List ByteArray) (s:ByteArray) (hl:l.length<=1000000):
    Pur cfg 46 [vSs l,vS s] (vB (hasB l s)):=by
 refine zT Tryz.func46 O Tryz.ntmps46 Tryz.results46 O ?_
 intro z hz
 refine B O<|G O<|U<|B O<|G O<|G O<|qK O ok111 (zKy l s hl) ⟨Y,O,Y,O,T⟩<|zX O (wD O O O)<|G O<|U<|zH<|zQ O ?_
 rw [idxB_has]
theorem lexer_keywords  :
    Pur cfg 267 [] (vSs words):=by
 refine zT Tryz.func267 O Tryz.ntmps267 Tryz.results267 O ?_
 intro z hz
 refine B O<|zX O (yU 1 O O)<|U<|B O<|qK O ok293 (strings_Fields _ (by decide) kw_ascii) ⟨Y,O,T⟩<|G O<|U<|zH<|zQ O ?_
 exact congrArg vSs kw_fields
theorem zNk (s:ByteArray):
    Pur cfg 225 [vS s] (vB (hasB words s)):=by
 refine zT Tryz.func225 O Tryz.ntmps225 Tryz.results225 O ?_
 intro z hz
 refine B O<|G O<|U<|B O<|qK O ok267 (lexer_keywords) T<|G O<|qK O ok46 (kD _ _ (by decide)) ⟨Y,O,Y,O,T⟩<|G O<|U<|zH<|zQ O ?_
 exact O
theorem zDu (s:ByteArray):
    Pur cfg 176 [vS s] (vB (isNameB s)):=by
 refine zT Tryz.func176 O Tryz.ntmps176 Tryz.results176 O ?_
 intro z hz
 refine B O<|G O<|U<|B O<|G O<|zX O (zCt O O O)<|G O<|rL0 O (fun g1_2=>zR O O) O<|rL1 6 O (fun g1_2=>wT O un9 O) O<|rL1 7 O (fun g1_2=>kQ O O O) O<|yW O (fun h=>h)<|G O<|rL0 O (fun g1_7=>zR O O) O<|rL1 11 O (fun g1_7=>zCa O un9 O O (by decide) (size_pos (nm1 g1_7))) O<|rL1 12 O (fun g1_7=>zEy O us5 ik21 O) O<|rL1 13 O (fun g1_7=>qG O ok222 (zKr _) ⟨Y,O,T⟩) O<|yW O (fun h=>h)<|G O<|rL0 O (fun g1_13=>zR O O) O<|rL1 17 O (fun g1_13=>qG O ok223 (zKb s (nm2 g1_13)) ⟨Y,O,Y,O,T⟩) O<|rL0 O (fun g1_13=>zR O O) O<|rL1 19 O (fun g1_13=>wT O un9 O) O<|rLz [(18,_),(20,_)] O gv1 ⟨O,O,O,O,T⟩ (fun g1_13=>yF O O O) O<|yW O (fun h=>h)<|G O<|rL0 O (fun g1_20=>zR O O) O<|rL1 24 O (fun g1_20=>qG O ok225 (zNk _) ⟨Y,O,T⟩) O<|rL1 25 O (fun g1_20=>wA O O) O<|yW O (fun h=>h)<|G O<|U<|zH<|zQ O ?_
 exact congrArg vB (isName_eq s)
theorem base_Words  :
    Pur cfg 201 [] (vSs words):=by
 refine zT Tryz.func201 O Tryz.ntmps201 Tryz.results201 O ?_
 intro z hz
 refine B O<|zX O (yU 1 O O)<|U<|B O<|yE O el22 zr9<|G O<|U<|zH<|zQ O ?_
 exact O
theorem zJa (l:List ByteArray) (s:ByteArray) (hl:l.length<=6000000000000):
    Pur cfg 50 [vSs l,vS s] (vB (hasB l s)):=by
 refine zT Tryz.func50 O Tryz.ntmps50 Tryz.results50 O ?_
 intro z hz
 refine B O<|G O<|U<|zI<|B O<|G O<|U<|zP<|zU ⟨[(5,.c _),(0,.c _),(1,.c _)],[]⟩ (Weak.mk [] ⟨Y,Y,Y,T⟩ O)<|qF 1 0 O O (Nat) (fun k=>[(5,vI k)]) (fun k=>[]) (fun k=>k<=l.length/\hasB (l.take k) s=false) (fun k=>l.length-k) ⟨0,⟨by omega,O⟩,Weak.mk [] ⟨Y,Y,Y,T⟩ O⟩ ?_
 rintro k ⟨hk,hp⟩
 refine zI<|B O<|G O<|G O<|zY O el22<|yA O<|U<|zE O (fun c1=>?_) (fun c1=>?_)
 ·try simp only [W] at c1
  obtain ⟨t,ht⟩:=qQ l k (by omega)
  refine zJ<|zI<|zP<|B O<|G O<|G O<|qE O el22 (by omega) (getm ht)<|zK one9 qB O<|G O<|zX O (yL O O O)<|U<|zE O (fun c2=>?_) (fun c2=>?_)
  ·try simp only [W] at c2
   refine B O<|G O<|U<|zH<|zQ O ?_
   rw [yO ht c2]
  ·try simp only [W] at c2
   refine zJ<|zS O<|G O<|qJ O ⟨by omega,by omega⟩<|G O<|U ?_
   refine ⟨k+1,⟨by omega,zKt ht hp c2⟩,(by omega),Weak.mk [] ⟨Y,Y,Y,T⟩ O⟩
 ·try simp only [W] at c1
  refine qO<|B O<|G O<|U<|zH<|zQ O ?_
  rw [show hasB l s=false by rw [qX (by omega)] at hp;exact hp]
theorem zGb (s:ByteArray):
    Pur cfg 146 [vS s] (vB (isNameB s)):=by
 refine zT Tryz.func146 O Tryz.ntmps146 Tryz.results146 O ?_
 intro z hz
 refine B O<|G O<|U<|zI<|B O<|G O<|zX O (wT O un9 O)<|yA O<|G O<|rL0 O (fun g1_3=>zR O O) O<|rL1 9 O (fun g1_3=>wT O un9 O) O<|rL1 10 O (fun g1_3=>yD O O O) O<|r_or O (fun h=>(lzf h))<|G O<|rL0 O (fun g1_8=>qG O ok201 (base_Words) T) O<|rL0 O (fun g1_8=>zR O O) O<|rLz [(14,_),(15,_)] O gv1 ⟨O,O,O,O,T⟩ (fun g1_8=>qG O ok50 (zJa _ _ (by decide)) ⟨Y,O,Y,O,T⟩) O<|r_or O (fun h=>(lzf h))<|U<|zE O (fun c1=>?_) (fun c1=>?_)
 ·try simp only [W] at c1
  have hno:=name_short (s:=s) (by simpa using c1)
  refine B O<|G O<|U<|zH<|zQ O ?_
  rw [hno]
 ·try simp only [W] at c1
  obtain ⟨⟨n1,n2⟩,n3⟩:=c1
  have n1:1<=s.size:=by omega
  have n2:s.size<=16:=by omega
  have hne:=name_end n1 n2 n3
  refine zJ<|zI<|B O<|G O<|U<|zP<|zU ⟨[(3,.c _),(0,.c _)],[]⟩ (Weak.mk [] ⟨Y,Y,T⟩ O)<|qF 1 0 O O (Nat) (fun k=>[(3,vI k)]) (fun k=>[]) (fun k=>k<=s.size/\okTo s k=true) (fun k=>s.size-k) ⟨0,⟨by omega,O⟩,Weak.mk [] ⟨Y,Y,T⟩ O⟩ ?_
  rintro k ⟨hk,hp⟩
  refine zI<|B O<|G O<|G O<|zX O (wT O un9 O)<|yA O<|U<|zE O (fun c2=>?_) (fun c2=>?_)
  ·try simp only [W] at c2
   have hlt:k<s.size:=by omega
   refine zJ<|zI<|zP<|B O<|G O<|G O<|zX O (zCa O un9 O O (by omega) (by omega))<|G O<|U<|B O<|G O<|zX O (wD O O O)<|G O<|rL0 O (fun g7_2=>zR O O) O<|rL1 30 O (fun g7_2=>kQ O O O) O<|yW O (fun h=>h)<|G O<|rL0 O (fun g7_6=>zR O O) O<|rL1 34 O (fun g7_6=>yD O O O) O<|rL1 35 O (fun g7_6=>zR O O) O<|rLz [] O q T (fun g7_9=>zR O O) O<|rLz [(37,_)] O q ⟨O,O,T⟩ (fun g7_9=>wD O O O) O<|rLz [(38,_)] O q ⟨O,O,T⟩ (fun g7_9=>zR O O) O<|rLz [] O q T (fun g7_12=>zR O O) O<|rLz [(40,_)] O q ⟨O,O,T⟩ (fun g7_12=>kQ O O O) O<|rLz [(39,_)] O q ⟨O,O,T⟩ (fun g7_9=>kR O O O (fun h=>kA (by assumption) h) O) O<|rLz [(42,_)] O q ⟨O,O,T⟩ (fun g7_9=>zR O O) O<|rLz [] O q T (fun g7_16=>zR O O) O<|rLz [(44,_)] O q ⟨O,O,T⟩ (fun g7_16=>yF O O O) O<|rLz [(43,_)] O q ⟨O,O,T⟩ (fun g7_9=>zAw O O O O (fun h=>kA (by assumption) (lzf h))) O<|rL1 36 O (fun g7_6=>kR O O O (fun h=>kA (by assumption) h) O) O<|r_or O (fun h=>(lzf h))<|wB O<|U<|zE O (fun c3=>?_) (fun c3=>?_)
   ·have hbad:okTo s (k+1)=false:=by rw [okTo_next,show nameOk k (s.data.toList.getD k 0)=false from (Bool.not_eq_true' _).mp c3];simp
    refine B O<|G O<|U<|zH<|zQ O ?_
    rw [hne];cases ho:okTo s s.size;rfl;exact absurd (okTo_le (k:=k+1) (by omega) ho) (by rw [hbad];simp)
   ·have hgood:okTo s (k+1)=true:=by rw [okTo_next,hp,show nameOk k (s.data.toList.getD k 0)=true from (Bool.not_eq_false' _).mp c3];rfl
    refine zJ<|zS O<|G O<|qJ O ⟨by omega,by omega⟩<|G O<|U ?_
    refine ⟨k+1,⟨by omega,hgood⟩,(by omega),Weak.mk [] ⟨Y,Y,T⟩ O⟩
  ·try simp only [W] at c2
   refine qO<|B O<|G O<|U<|zH<|zQ O ?_
   rw [hne,show s.size=k by omega,hp]
theorem lin_reserved (s:ByteArray):
    Pur cfg 228 [vS s] (vB (hasB words s)):=by
 refine zT Tryz.func228 O Tryz.ntmps228 Tryz.results228 O ?_
 intro z hz
 refine B O<|G O<|U<|zI<|B O<|G O<|U<|zP<|zI<|B O<|zX O (yL O O O)<|G O<|U<|zE O (fun c1=>?_) (fun c1=>?_)
 ·try simp only [W] at c1
  refine zJ<|zE O (fun c22=>?_) (fun c22=>?_)
  ·try simp only [W] at c22
   refine B O<|G O<|U<|zH<|zQ O ?_
   rw [yO (l:=words) (k:=0) rfl c1.symm]
  ·try simp only [W] at c22
   refine zJ<|B O<|G O<|U<|zH<|zQ O ?_
   exact absurd c1 c22
 ·try simp only [W] at c1
  refine B O<|zX O (yL O O O)<|G O<|U<|zE O (fun c2=>?_) (fun c2=>?_)
  ·try simp only [W] at c2
   refine zJ<|zE O (fun c22=>?_) (fun c22=>?_)
   ·try simp only [W] at c22
    refine B O<|G O<|U<|zH<|zQ O ?_
    rw [yO (l:=words) (k:=1) rfl c2.symm]
   ·try simp only [W] at c22
    refine zJ<|B O<|G O<|U<|zH<|zQ O ?_
    exact absurd c2 c22
  ·try simp only [W] at c2
   refine B O<|zX O (yL O O O)<|G O<|U<|zE O (fun c3=>?_) (fun c3=>?_)
   ·try simp only [W] at c3
    refine zJ<|zE O (fun c22=>?_) (fun c22=>?_)
    ·try simp only [W] at c22
     refine B O<|G O<|U<|zH<|zQ O ?_
     rw [yO (l:=words) (k:=2) rfl c3.symm]
    ·try simp only [W] at c22
     refine zJ<|B O<|G O<|U<|zH<|zQ O ?_
     exact absurd c3 c22
   ·try simp only [W] at c3
    refine B O<|zX O (yL O O O)<|G O<|U<|zE O (fun c4=>?_) (fun c4=>?_)
    ·try simp only [W] at c4
     refine zJ<|zE O (fun c22=>?_) (fun c22=>?_)
     ·try simp only [W] at c22
      refine B O<|G O<|U<|zH<|zQ O ?_
      rw [yO (l:=words) (k:=3) rfl c4.symm]
     ·try simp only [W] at c22
      refine zJ<|B O<|G O<|U<|zH<|zQ O ?_
      exact absurd c4 c22
    ·try simp only [W] at c4
     refine B O<|zX O (yL O O O)<|G O<|U<|zE O (fun c5=>?_) (fun c5=>?_)
     ·try simp only [W] at c5
      refine zJ<|zE O (fun c22=>?_) (fun c22=>?_)
      ·try simp only [W] at c22
       refine B O<|G O<|U<|zH<|zQ O ?_
       rw [yO (l:=words) (k:=4) rfl c5.symm]
      ·try simp only [W] at c22
       refine zJ<|B O<|G O<|U<|zH<|zQ O ?_
       exact absurd c5 c22
     ·try simp only [W] at c5
      refine B O<|zX O (yL O O O)<|G O<|U<|zE O (fun c6=>?_) (fun c6=>?_)
      ·try simp only [W] at c6
       refine zJ<|zE O (fun c22=>?_) (fun c22=>?_)
       ·try simp only [W] at c22
        refine B O<|G O<|U<|zH<|zQ O ?_
        rw [yO (l:=words) (k:=5) rfl c6.symm]
       ·try simp only [W] at c22
        refine zJ<|B O<|G O<|U<|zH<|zQ O ?_
        exact absurd c6 c22
      ·try simp only [W] at c6
       refine B O<|zX O (yL O O O)<|G O<|U<|zE O (fun c7=>?_) (fun c7=>?_)
       ·try simp only [W] at c7
        refine zJ<|zE O (fun c22=>?_) (fun c22=>?_)
        ·try simp only [W] at c22
         refine B O<|G O<|U<|zH<|zQ O ?_
         rw [yO (l:=words) (k:=6) rfl c7.symm]
        ·try simp only [W] at c22
         refine zJ<|B O<|G O<|U<|zH<|zQ O ?_
         exact absurd c7 c22
       ·try simp only [W] at c7
        refine B O<|zX O (yL O O O)<|G O<|U<|zE O (fun c8=>?_) (fun c8=>?_)
        ·try simp only [W] at c8
         refine zJ<|zE O (fun c22=>?_) (fun c22=>?_)
         ·try simp only [W] at c22
          refine B O<|G O<|U<|zH<|zQ O ?_
          rw [yO (l:=words) (k:=7) rfl c8.symm]
         ·try simp only [W] at c22
          refine zJ<|B O<|G O<|U<|zH<|zQ O ?_
          exact absurd c8 c22
        ·try simp only [W] at c8
         refine B O<|zX O (yL O O O)<|G O<|U<|zE O (fun c9=>?_) (fun c9=>?_)
         ·try simp only [W] at c9
          refine zJ<|zE O (fun c22=>?_) (fun c22=>?_)
          ·try simp only [W] at c22
           refine B O<|G O<|U<|zH<|zQ O ?_
           rw [yO (l:=words) (k:=8) rfl c9.symm]
          ·try simp only [W] at c22
           refine zJ<|B O<|G O<|U<|zH<|zQ O ?_
           exact absurd c9 c22
         ·try simp only [W] at c9
          refine B O<|zX O (yL O O O)<|G O<|U<|zE O (fun c10=>?_) (fun c10=>?_)
          ·try simp only [W] at c10
           refine zJ<|zE O (fun c22=>?_) (fun c22=>?_)
           ·try simp only [W] at c22
            refine B O<|G O<|U<|zH<|zQ O ?_
            rw [yO (l:=words) (k:=9) rfl c10.symm]
           ·try simp only [W] at c22
            refine zJ<|B O<|G O<|U<|zH<|zQ O ?_
            exact absurd c10 c22
          ·try simp only [W] at c10
           refine B O<|zX O (yL O O O)<|G O<|U<|zE O (fun c11=>?_) (fun c11=>?_)
           ·try simp only [W] at c11
            refine zJ<|zE O (fun c22=>?_) (fun c22=>?_)
            ·try simp only [W] at c22
             refine B O<|G O<|U<|zH<|zQ O ?_
             rw [yO (l:=words) (k:=10) rfl c11.symm]
            ·try simp only [W] at c22
             refine zJ<|B O<|G O<|U<|zH<|zQ O ?_
             exact absurd c11 c22
           ·try simp only [W] at c11
            refine B O<|zX O (yL O O O)<|G O<|U<|zE O (fun c12=>?_) (fun c12=>?_)
            ·try simp only [W] at c12
             refine zJ<|zE O (fun c22=>?_) (fun c22=>?_)
             ·try simp only [W] at c22
              refine B O<|G O<|U<|zH<|zQ O ?_
              rw [yO (l:=words) (k:=11) rfl c12.symm]
             ·try simp only [W] at c22
              refine zJ<|B O<|G O<|U<|zH<|zQ O ?_
              exact absurd c12 c22
            ·try simp only [W] at c12
             refine B O<|zX O (yL O O O)<|G O<|U<|zE O (fun c13=>?_) (fun c13=>?_)
             ·try simp only [W] at c13
              refine zJ<|zE O (fun c22=>?_) (fun c22=>?_)
              ·try simp only [W] at c22
               refine B O<|G O<|U<|zH<|zQ O ?_
               rw [yO (l:=words) (k:=12) rfl c13.symm]
              ·try simp only [W] at c22
               refine zJ<|B O<|G O<|U<|zH<|zQ O ?_
               exact absurd c13 c22
             ·try simp only [W] at c13
              refine B O<|zX O (yL O O O)<|G O<|U<|zE O (fun c14=>?_) (fun c14=>?_)
              ·try simp only [W] at c14
               refine zJ<|zE O (fun c22=>?_) (fun c22=>?_)
               ·try simp only [W] at c22
                refine B O<|G O<|U<|zH<|zQ O ?_
                rw [yO (l:=words) (k:=13) rfl c14.symm]
               ·try simp only [W] at c22
                refine zJ<|B O<|G O<|U<|zH<|zQ O ?_
                exact absurd c14 c22
              ·try simp only [W] at c14
               refine B O<|zX O (yL O O O)<|G O<|U<|zE O (fun c15=>?_) (fun c15=>?_)
               ·try simp only [W] at c15
                refine zJ<|zE O (fun c22=>?_) (fun c22=>?_)
                ·try simp only [W] at c22
                 refine B O<|G O<|U<|zH<|zQ O ?_
                 rw [yO (l:=words) (k:=14) rfl c15.symm]
                ·try simp only [W] at c22
                 refine zJ<|B O<|G O<|U<|zH<|zQ O ?_
                 exact absurd c15 c22
               ·try simp only [W] at c15
                refine B O<|zX O (yL O O O)<|G O<|U<|zE O (fun c16=>?_) (fun c16=>?_)
                ·try simp only [W] at c16
                 refine zJ<|zE O (fun c22=>?_) (fun c22=>?_)
                 ·try simp only [W] at c22
                  refine B O<|G O<|U<|zH<|zQ O ?_
                  rw [yO (l:=words) (k:=15) rfl c16.symm]
                 ·try simp only [W] at c22
                  refine zJ<|B O<|G O<|U<|zH<|zQ O ?_
                  exact absurd c16 c22
                ·try simp only [W] at c16
                 refine B O<|zX O (yL O O O)<|G O<|U<|zE O (fun c17=>?_) (fun c17=>?_)
                 ·try simp only [W] at c17
                  refine zJ<|zE O (fun c22=>?_) (fun c22=>?_)
                  ·try simp only [W] at c22
                   refine B O<|G O<|U<|zH<|zQ O ?_
                   rw [yO (l:=words) (k:=16) rfl c17.symm]
                  ·try simp only [W] at c22
                   refine zJ<|B O<|G O<|U<|zH<|zQ O ?_
                   exact absurd c17 c22
                 ·try simp only [W] at c17
                  refine B O<|zX O (yL O O O)<|G O<|U<|zE O (fun c18=>?_) (fun c18=>?_)
                  ·try simp only [W] at c18
                   refine zJ<|zE O (fun c22=>?_) (fun c22=>?_)
                   ·try simp only [W] at c22
                    refine B O<|G O<|U<|zH<|zQ O ?_
                    rw [yO (l:=words) (k:=17) rfl c18.symm]
                   ·try simp only [W] at c22
                    refine zJ<|B O<|G O<|U<|zH<|zQ O ?_
                    exact absurd c18 c22
                  ·try simp only [W] at c18
                   refine B O<|zX O (yL O O O)<|G O<|U<|zE O (fun c19=>?_) (fun c19=>?_)
                   ·try simp only [W] at c19
                    refine zJ<|zE O (fun c22=>?_) (fun c22=>?_)
                    ·try simp only [W] at c22
                     refine B O<|G O<|U<|zH<|zQ O ?_
                     rw [yO (l:=words) (k:=18) rfl c19.symm]
                    ·try simp only [W] at c22
                     refine zJ<|B O<|G O<|U<|zH<|zQ O ?_
                     exact absurd c19 c22
                   ·try simp only [W] at c19
                    refine B O<|zX O (yL O O O)<|G O<|U<|zE O (fun c20=>?_) (fun c20=>?_)
                    ·try simp only [W] at c20
                     refine zJ<|zE O (fun c22=>?_) (fun c22=>?_)
                     ·try simp only [W] at c22
                      refine B O<|G O<|U<|zH<|zQ O ?_
                      rw [yO (l:=words) (k:=19) rfl c20.symm]
                     ·try simp only [W] at c22
                      refine zJ<|B O<|G O<|U<|zH<|zQ O ?_
                      exact absurd c20 c22
                    ·try simp only [W] at c20
                     refine B O<|zX O (yL O O O)<|G O<|U<|zE O (fun c21=>?_) (fun c21=>?_)
                     ·try simp only [W] at c21
                      refine zJ<|zE O (fun c22=>?_) (fun c22=>?_)
                      ·try simp only [W] at c22
                       refine B O<|G O<|U<|zH<|zQ O ?_
                       rw [yO (l:=words) (k:=20) rfl c21.symm]
                      ·try simp only [W] at c22
                       refine zJ<|B O<|G O<|U<|zH<|zQ O ?_
                       exact absurd c21 c22
                     ·try simp only [W] at c21
                      refine zS O<|zX O (yL O O O)<|G O<|U<|zE O (fun c22=>?_) (fun c22=>?_)
                      ·try simp only [W] at c22
                       refine B O<|G O<|U<|zH<|zQ O ?_
                       rw [yO (l:=words) (k:=21) rfl c22.symm]
                      ·try simp only [W] at c22
                       refine zJ<|B O<|G O<|U<|zH<|zQ O ?_
                       rw [show hasB words s=false by
                         simp only [hasB,words,List.any_cons,List.any_nil,Bool.or_eq_false_iff,decide_eq_false_iff_not]
                         exact ⟨fun h=>c1 h.symm,fun h=>c2 h.symm,fun h=>c3 h.symm,fun h=>c4 h.symm,fun h=>c5 h.symm,fun h=>c6 h.symm,fun h=>c7 h.symm,fun h=>c8 h.symm,fun h=>c9 h.symm,fun h=>c10 h.symm,fun h=>c11 h.symm,fun h=>c12 h.symm,fun h=>c13 h.symm,fun h=>c14 h.symm,fun h=>c15 h.symm,fun h=>c16 h.symm,fun h=>c17 h.symm,fun h=>c18 h.symm,fun h=>c19 h.symm,fun h=>c20 h.symm,fun h=>c21 h.symm,fun h=>c22 h.symm,T⟩]
theorem lin_identifier (s:ByteArray):
    Pur cfg 183 [vS s] (vB (isNameB s)):=by
 refine zT Tryz.func183 O Tryz.ntmps183 Tryz.results183 O ?_
 intro z hz
 refine B O<|G O<|U<|zI<|B O<|G O<|zX O (wT O un9 O)<|yA O<|G O<|rL0 O (fun g1_3=>zR O O) O<|rL1 9 O (fun g1_3=>wT O un9 O) O<|rL1 10 O (fun g1_3=>yD O O O) O<|r_or O (fun h=>(lzf h))<|G O<|rL0 O (fun g1_8=>zR O O) O<|rL1 14 O (fun g1_8=>qG O ok228 (lin_reserved _) ⟨Y,O,T⟩) O<|r_or O (fun h=>(lzf h))<|G O<|rL0 O (fun g1_12=>zR O O) O<|rL1 18 O (fun g1_12=>zCa O un9 O O (by decide) (by simp only [Lz,cond_true,cond_false,Bool.and_eq_true,Bool.or_eq_true,Bool.not_eq_true',Bool.not_eq_false',Bool.or_eq_false_iff,Bool.and_eq_false_iff,decide_eq_true_eq,decide_eq_false_iff_not,Bool.not_eq_true,Bool.not_eq_false] at g1_12;omega)) O<|rL1 19 O (fun g1_12=>zEc O O O) O<|r_or O (fun h=>(lzf h))<|G O<|rL0 O (fun g1_17=>zR O O) O<|rL1 23 O (fun g1_17=>zCa O un9 O O (by decide) (by simp only [Lz,cond_true,cond_false,Bool.and_eq_true,Bool.or_eq_true,Bool.not_eq_true',Bool.not_eq_false',Bool.or_eq_false_iff,Bool.and_eq_false_iff,decide_eq_true_eq,decide_eq_false_iff_not,Bool.not_eq_true,Bool.not_eq_false] at g1_17;omega)) O<|rL1 24 O (fun g1_17=>yD O O O) O<|r_or O (fun h=>(lzf h))<|U<|zE O (fun c1=>?_) (fun c1=>?_)
 ·have hno:=ident_no c1
  refine B O<|G O<|U<|zH<|zQ O ?_
  rw [hno]
 ·obtain ⟨n1,n2,hne⟩:=ident_yes c1
  refine zJ<|zI<|B O<|G O<|zX O (wT O un9 O)<|G O<|U<|zP<|zU ⟨[(29,.c _),(0,.c _),(28,.c _)],[]⟩ (Weak.mk [] ⟨Y,Y,Y,T⟩ O)<|qF 1 0 O O (Nat) (fun k=>[(29,vI k)]) (fun k=>[]) (fun k=>k<=s.size/\(s.data.toList.take k).all inWordB=true) (fun k=>s.size-k) ⟨0,⟨by omega,O⟩,Weak.mk [] ⟨Y,Y,Y,T⟩ O⟩ ?_
  rintro k ⟨hk,hp⟩
  refine B O<|yA O<|U<|zI<|zE O (fun c2=>?_) (fun c2=>?_)
  ·try simp only [W] at c2
   have hlt:k<s.size:=by omega
   refine zJ<|zI<|zP<|B O<|G O<|G O<|U<|B O<|G O<|G O<|zX O (zCa O un9 O O (by omega) (by omega))<|G O<|U<|B O<|G O<|yA O<|G O<|rL0 O (fun g7_2=>zR O O) O<|rL1 38 O (fun g7_2=>yD O O O) O<|r_or O (fun h=>(lzf h))<|G O<|rL0 O (fun g7_6=>zR O O) O<|rL1 42 O (fun g7_6=>zEc O O O) O<|rL1 43 O (fun g7_6=>zR O O) O<|rLz [] O q T (fun g7_9=>zR O O) O<|rLz [(45,_)] O q ⟨O,O,T⟩ (fun g7_9=>yD O O O) O<|rL1 44 O (fun g7_6=>zAw O O O O (fun h=>kA (by assumption) (lzf h))) O<|yW O (fun h=>h)<|G O<|rL0 O (fun g7_14=>zR O O) O<|rL1 50 O (fun g7_14=>zAk O O O) O<|yW O (fun h=>h)<|U<|zE O (fun c3=>?_) (fun c3=>?_)
   ·have hbad:=word_no hlt c3
    refine B O<|G O<|U<|zH<|zQ O ?_
    rw [hne,hbad]
   ·have hgood:=word_yes hlt hp c3
    refine zJ<|zS O<|qJ O ⟨by omega,by omega⟩<|G O<|U ?_
    refine ⟨k+1,⟨by omega,hgood⟩,(by omega),Weak.mk [] ⟨Y,Y,Y,T⟩ O⟩
  ·try simp only [W] at c2
   refine qO<|B O<|G O<|U<|zH<|zQ O ?_
   rw [hne,word_all hp (by omega)]
theorem zFv (l:Lf) (hl:l.L.length<=6000000000000):
    Pur cfg 162 [vLin l] (vI (linErr l)):=by
 refine zT Tryz.func162 O Tryz.ntmps162 Tryz.results162 O ?_
 intro z hz
 refine B O<|zZ O O (qI O O) ?_
 rintro _ _ ⟨b1,rfl,rfl⟩
 refine G O<|U<|zI<|B O<|zG O wU<|zK zBv (J 0 O) O<|zY O el32<|G O<|U<|zP<|zU ⟨[(8,.c _),(1,.c _),(6,.c _),(7,.c _)],[_]⟩ (Weak.mk [true] ⟨Y,Y,Y,Y,T⟩ O)<|qF 1 0 O O (Nat) (fun k=>[(8,vI k)]) (fun k=>[]) (fun k=>k<=l.L.length/\(linOk l=monosOk (prevOf l.L k) (l.L.drop k))) (fun k=>l.L.length-k) ⟨0,⟨by omega,O⟩,Weak.mk [true] ⟨Y,Y,Y,Y,T⟩ O⟩ ?_
 rintro k ⟨hk,hp⟩
 refine B O<|yA O<|U<|zI<|zE O (fun c1=>?_) (fun c1=>?_)
 ·try simp only [W] at c1
  obtain ⟨x,hx⟩:=qQ l.L k (by omega)
  refine zJ<|zI<|zP<|B O<|G O<|qE O el32 (by omega) (getm (by assumption))<|zL zHa qB O<|zZ O O (yB O zr101) ?_
  rintro _ _ ⟨b2,rfl,rfl⟩
  refine G O<|N 0 sz101 O<|U<|zI<|qT 25 mixed (by kernel_rfl) O O<|zM O O (zD O zBj O)<|zM O O (zF O one9 O (J 0 O) O)<|zM O O (qG O ok183 (lin_identifier _) ⟨Y,O,T⟩)<|zM O O (wA O O)<|zM O O (zR O O)<|qC [] O O O O gv1 T (fun g4_4=>zD O fd101_1 O) O<|qC [(18,_)] O O O O gv1 ⟨O,O,T⟩ (fun g4_4=>zF O one2 O (J 0 O) O) O<|qC [(19,_)] O O O O gv1 ⟨O,O,T⟩ (fun g4_4=>yF O O O) O<|zM O O (zAw O O O O (fun h=>(lzf h)))<|zM O O (zR O O)<|qC [] O O O O gv1 T (fun g4_9=>zR O O) O<|qC [(23,_)] O O O O gv1 ⟨O,O,T⟩ (fun g4_9=>yD O O O) O<|qC [(24,_)] O O O O gv1 ⟨O,O,T⟩ (fun g4_9=>zR O O) O<|qC [] O O O O q T (fun g4_12=>zD O wU O) O<|qC [(26,_)] O O O O q ⟨O,O,T⟩ (fun g4_12=>zF O zBv O (J 1 O) O) O<|qC [] O O O O q T (fun g4_12=>zR O O) O<|qC [(28,_)] O O O O q ⟨O,O,T⟩ (fun g4_12=>zAa O O O ⟨by omega,by omega⟩) O<|qC [(27,_),(29,_)] O O O O q ⟨O,O,O,O,T⟩ (fun g4_12=>qA O el32 O O (by simp only [Lz,cond_true,cond_false,Bool.and_eq_true,Bool.or_eq_true,Bool.not_eq_true',Bool.not_eq_false',Bool.or_eq_false_iff,Bool.and_eq_false_iff,decide_eq_true_eq,decide_eq_false_iff_not,Bool.not_eq_true,Bool.not_eq_false] at g4_12;omega) (pv_get (by simp only [Lz,cond_true,cond_false,Bool.and_eq_true,Bool.or_eq_true,Bool.not_eq_true',Bool.not_eq_false',Bool.or_eq_false_iff,Bool.and_eq_false_iff,decide_eq_true_eq,decide_eq_false_iff_not,Bool.not_eq_true,Bool.not_eq_false] at g4_12;omega) (by omega))) O<|qC [(30,_)] O O O O q ⟨O,O,T⟩ (fun g4_12=>qL O zBj O) O<|qC [(31,_)] O O O O q ⟨O,O,T⟩ (fun g4_12=>zF O one9 O qB O) O<|qC [] O O O O q T (fun g4_12=>zD O zBj O) O<|qC [(33,_)] O O O O q ⟨O,O,T⟩ (fun g4_12=>zF O one9 O (J 0 O) O) O<|qC [(32,_),(34,_)] O O O O q ⟨O,O,O,O,T⟩ (fun g4_12=>det_sgeq O O O) O<|qC [(25,_)] O O O O gv1 ⟨O,O,T⟩ (fun g4_9=>kR O O O (fun h=>kA (by assumption) h) O) O<|zM O O (zAw O O O O (fun h=>(lzf h)))<|yM<|U<|zE O (fun c2=>?_) (fun c2=>?_)
  ·refine B O<|G O<|U<|zH<|zQ O ?_
   rw [linErr,hp,zGi hx,show badM l.L k x=true from c2];rfl
  ·refine zJ<|zS O<|qJ O ⟨by omega,by omega⟩<|G O<|U ?_
   refine ⟨k+1,⟨by omega,by rw [hp,zGi hx,show badM l.L k x=false from c2];rfl⟩,(by omega),Weak.mk [false,true] ⟨Y,Y,Y,Y,T⟩ O⟩
 ·try simp only [W] at c1
  refine qO<|B O<|G O<|U<|zH<|zQ O ?_
  rw [linErr,hp,monos_end (by omega)];rfl
theorem zCu (l:Lf) (hl:l.L.length<=6000000000000):
    Pur cfg 115 [vLin l] (vB (linOk l)):=by
 refine zT Tryz.func115 O Tryz.ntmps115 Tryz.results115 O ?_
 intro z hz
 refine B O<|zZ O O (qI O O) ?_
 rintro _ _ ⟨b1,rfl,rfl⟩
 refine G O<|U<|zI<|B O<|G O<|U<|zP<|zU ⟨[(3,.c _),(1,.c _)],[_]⟩ (Weak.mk [true] ⟨Y,Y,T⟩ O)<|qF 1 0 O O (Nat) (fun k=>[(3,vI k)]) (fun k=>[]) (fun k=>k<=l.L.length/\(linOk l=monosOk (prevOf l.L k) (l.L.drop k))) (fun k=>l.L.length-k) ⟨0,⟨by omega,O⟩,Weak.mk [true] ⟨Y,Y,T⟩ O⟩ ?_
 rintro k ⟨hk,hp⟩
 refine zI<|B O<|G O<|zG O wU<|zK zBv (J 0 O) O<|zY O el32<|yA O<|U<|zE O (fun c1=>?_) (fun c1=>?_)
 ·try simp only [W] at c1
  obtain ⟨x,hx⟩:=qQ l.L k (by omega)
  refine zJ<|zI<|zP<|zI<|qT 37 mixed (by kernel_rfl) O O<|zM O O (zD O wU O)<|zM O O (zF O zBv O (J 0 O) O)<|zM O O (zR O O)<|zM O O (qA O el32 O O (by omega) (getm (by assumption)))<|zM O O (qL O zBj O)<|zM O O (zF O one9 O qB O)<|zM O O (qG O ok146 (zGb _) ⟨Y,O,T⟩)<|zM O O (wA O O)<|zM O O (zR O O)<|qC [] O O O O gv1 T (fun g4_8=>zD O wU O) O<|qC [(20,_)] O O O O gv1 ⟨O,O,T⟩ (fun g4_8=>zF O zBv O (J 0 O) O) O<|qC [] O O O O gv1 T (fun g4_8=>zR O O) O<|qC [(21,_),(22,_)] O O O O gv1 ⟨O,O,O,O,T⟩ (fun g4_8=>qA O el32 O O (by omega) (getm (by assumption))) O<|qC [(23,_)] O O O O gv1 ⟨O,O,T⟩ (fun g4_8=>qL O fd101_1 O) O<|qC [(24,_)] O O O O gv1 ⟨O,O,T⟩ (fun g4_8=>zF O one2 O qB O) O<|qC [(25,_)] O O O O gv1 ⟨O,O,T⟩ (fun g4_8=>yF O O O) O<|zM O O (zAw O O O O (fun h=>(lzf h)))<|zM O O (zR O O)<|qC [] O O O O gv1 T (fun g4_17=>zR O O) O<|qC [(29,_)] O O O O gv1 ⟨O,O,T⟩ (fun g4_17=>yD O O O) O<|qC [(30,_)] O O O O gv1 ⟨O,O,T⟩ (fun g4_17=>zR O O) O<|qC [] O O O O q T (fun g4_20=>zD O wU O) O<|qC [(32,_)] O O O O q ⟨O,O,T⟩ (fun g4_20=>zF O zBv O (J 0 O) O) O<|qC [] O O O O q T (fun g4_20=>zR O O) O<|qC [(34,_)] O O O O q ⟨O,O,T⟩ (fun g4_20=>zAa O O O ⟨by omega,by omega⟩) O<|qC [(33,_),(35,_)] O O O O q ⟨O,O,O,O,T⟩ (fun g4_20=>qA O el32 O O (by simp only [Lz,cond_true,cond_false,Bool.and_eq_true,Bool.or_eq_true,Bool.not_eq_true',Bool.not_eq_false',Bool.or_eq_false_iff,Bool.and_eq_false_iff,decide_eq_true_eq,decide_eq_false_iff_not,Bool.not_eq_true,Bool.not_eq_false] at g4_20;omega) (pv_get (by simp only [Lz,cond_true,cond_false,Bool.and_eq_true,Bool.or_eq_true,Bool.not_eq_true',Bool.not_eq_false',Bool.or_eq_false_iff,Bool.and_eq_false_iff,decide_eq_true_eq,decide_eq_false_iff_not,Bool.not_eq_true,Bool.not_eq_false] at g4_20;omega) (by omega))) O<|qC [(36,_)] O O O O q ⟨O,O,T⟩ (fun g4_20=>qL O zBj O) O<|qC [(37,_)] O O O O q ⟨O,O,T⟩ (fun g4_20=>zF O one9 O qB O) O<|qC [] O O O O q T (fun g4_20=>zD O wU O) O<|qC [(39,_)] O O O O q ⟨O,O,T⟩ (fun g4_20=>zF O zBv O (J 0 O) O) O<|qC [] O O O O q T (fun g4_20=>zR O O) O<|qC [(40,_),(41,_)] O O O O q ⟨O,O,O,O,T⟩ (fun g4_20=>qA O el32 O O (by omega) (getm (by assumption))) O<|qC [(42,_)] O O O O q ⟨O,O,T⟩ (fun g4_20=>qL O zBj O) O<|qC [(43,_)] O O O O q ⟨O,O,T⟩ (fun g4_20=>zF O one9 O qB O) O<|qC [(38,_),(44,_)] O O O O q ⟨O,O,O,O,T⟩ (fun g4_20=>det_sgeq O O O) O<|qC [(31,_)] O O O O gv1 ⟨O,O,T⟩ (fun g4_17=>kR O O O (fun h=>kA (by assumption) h) O) O<|zM O O (zAw O O O O (fun h=>(lzf h)))<|yM<|U<|zE O (fun c2=>?_) (fun c2=>?_)
  ·refine B O<|G O<|U<|zH<|zQ O ?_
   rw [hp,zGi hx,show badM l.L k x=true from c2];rfl
  ·refine zJ<|zS O<|G O<|qJ O ⟨by omega,by omega⟩<|G O<|U ?_
   refine ⟨k+1,⟨by omega,by rw [hp,zGi hx,show badM l.L k x=false from c2];rfl⟩,(by omega),Weak.mk [true] ⟨Y,Y,T⟩ O⟩
 ·try simp only [W] at c1
  refine qO<|B O<|G O<|U<|zH<|zQ O ?_
  rw [hp,monos_end (by omega)]
theorem zFi (s:ByteArray):
    Pur cfg 64 [vS s] (vLin (varL s)):=by
 refine zT Tryz.func64 O Tryz.ntmps64 Tryz.results64 O ?_
 intro z hz
 refine B O<|zZ O O (qH [none,some 2] O zr34 O) ?_
 rintro _ _ ⟨b1,rfl,rfl⟩
 refine U<|zI<|B O<|G O<|qK O ok146 (zGb _) ⟨Y,O,T⟩<|wB O<|U<|zE O (fun c1=>?_) (fun c1=>?_)
 ·try simp only [W] at c1
  refine B O<|zX O (yK [none,some 2] O zr34 pl34 O O)<|N 0 sz34 O<|U<|zH<|fin1 (zV kK O (J 0 O) O) ?_
  rw [varL,c1];rfl
 ·try simp only [W] at c1
  refine zJ<|B O<|G O<|yV O zr101 pl101<|yE O el32 zr101<|yV O zr34 pl34<|N 0 sz34 O<|U<|zH<|fin1 (zV kK O (J 0 O) O) ?_
  rw [varL,c1];rfl
theorem zLs (a b:Lf) (ha:a.L.length<=6000000000000):
    Pur cfg 38 [vLin a,vLin b] (vB (decide (a=b))):=by
 refine zT Tryz.func38 O Tryz.ntmps38 Tryz.results38 O ?_
 intro z hz
 refine B O<|zZ O O (qI O O) ?_
 rintro _ _ ⟨b1,rfl,rfl⟩
 refine zZ O O (qI O O) ?_
 rintro _ _ ⟨b2,rfl,rfl⟩
 refine G O<|U<|zI<|B O<|zG O zIp<|zK one2 (J 1 O) O<|zG O zIp<|zK one2 (J 0 O) O<|yN O<|G O<|rL0 O (fun g1_5=>zD O wU O) O<|rL1 12 O (fun g1_5=>zF O zBv O (J 1 O) O) O<|rL1 13 O (fun g1_5=>qP O el32 O) O<|rL0 O (fun g1_5=>zD O wU O) O<|rL1 15 O (fun g1_5=>zF O zBv O (J 0 O) O) O<|rL1 16 O (fun g1_5=>qP O el32 O) O<|rLz [(14,_),(17,_)] O gv1 ⟨O,O,O,O,T⟩ (fun g1_5=>zAk O O O) O<|r_or O (fun h=>(lzf h))<|U<|zE O (fun c1=>?_) (fun c1=>?_)
 ·try simp only [W] at c1
  refine B O<|G O<|U<|zH<|zQ O ?_
  rw [yC (fun h=>by rw [h] at c1;simp at c1)]
 ·try simp only [W] at c1
  refine zJ<|zI<|B O<|G O<|U<|zP<|zU ⟨[(5,.c _),(2,.c _),(3,.c _)],[_,_]⟩ (Weak.mk [true,true] ⟨Y,Y,Y,T⟩ O)<|qF 1 0 O O (Nat) (fun k=>[(5,vI k)]) (fun k=>[]) (fun k=>k<=a.L.length/\(a.L.take k=b.L.take k)) (fun k=>a.L.length-k) ⟨0,⟨by omega,O⟩,Weak.mk [true,true] ⟨Y,Y,Y,T⟩ O⟩ ?_
  rintro k ⟨hk,hp⟩
  refine zI<|B O<|G O<|zG O wU<|zK zBv (J 1 O) O<|zY O el32<|yA O<|U<|zE O (fun c2=>?_) (fun c2=>?_)
  ·try simp only [W] at c2
   obtain ⟨x,hx⟩:=qQ a.L k (by omega)
   obtain ⟨y,hy⟩:=qQ b.L k (by omega)
   refine zJ<|zI<|zP<|zI<|qT 11 mixed (by kernel_rfl) O O<|zM O O (zD O wU O)<|zM O O (zF O zBv O (J 1 O) O)<|zM O O (zR O O)<|zM O O (qA O el32 O O (by omega) (getm (by assumption)))<|zM O O (zN O zHa O qB O)<|zM O O (zD O wU O)<|zM O O (zF O zBv O (J 0 O) O)<|zM O O (zR O O)<|zM O O (qA O el32 O O (by omega) (getm (by assumption)))<|zM O O (zN O zHa O qB O)<|zM O O (zCf O fl101 O O O)<|yM<|U<|zE O (fun c3=>?_) (fun c3=>?_)
   ·have hne:=mono_ne c3
    refine B O<|G O<|U<|zH<|zQ O ?_
    rw [yC (fun h=>zEk hx hy hne (by rw [h]))]
   ·have heq:=mono_eq c3
    refine zJ<|zS O<|G O<|qJ O ⟨by omega,by omega⟩<|G O<|U ?_
    refine ⟨k+1,⟨by omega,zBl hx hy hp heq⟩,(by omega),Weak.mk [true,true] ⟨Y,Y,Y,T⟩ O⟩
  ·try simp only [W] at c2
   refine qO<|B O<|G O<|U<|zH<|zQ O ?_
   rw [kT (lin_mk (by omega) (zDc hp (by omega) (by omega)))]
theorem zHf (l:List Ix) (c:C) (p:Ix->Bool) (hl:l.length<=6000000000000) (hc:∀x,x∈l->FnPur cfg c [vIndex x] (vB (p x))):
    Pur cfg 257 [vIndices l,.c c] (vI (idxOf p l)):=by
 refine zT Tryz.func257 O Tryz.ntmps257 Tryz.results257 O ?_
 intro z hz
 refine B O<|G O<|U<|zI<|B O<|G O<|zY O el35<|G O<|U<|zP<|zU ⟨[(8,.c _),(0,.c _),(1,.c _),(7,.c _)],[]⟩ (Weak.mk [] ⟨Y,Y,Y,Y,T⟩ O)<|qF 1 0 O O (Nat) (fun k=>[(8,vI k)]) (fun k=>[]) (fun k=>k<=l.length/\((l.take k).any p=false)) (fun k=>l.length-k) ⟨0,⟨by omega,O⟩,Weak.mk [] ⟨Y,Y,Y,Y,T⟩ O⟩ ?_
 rintro k ⟨hk,hp⟩
 refine B O<|yA O<|U<|zI<|zE O (fun c1=>?_) (fun c1=>?_)
 ·try simp only [W] at c1
  obtain ⟨x,hx⟩:=qQ l k (by omega)
  refine zJ<|zI<|zP<|B O<|G O<|G O<|U<|B O<|G O<|G O<|G O<|qE O el35 (by omega) (getm (by assumption))<|zL zJe qB O<|zX O (wO O O (hc _ (qD hx)) ⟨Y,O,T⟩)<|U<|zE O (fun c2=>?_) (fun c2=>?_)
  ·try simp only [W] at c2
   refine B O<|G O<|G O<|U<|zH<|zQ O ?_
   rw [zLn hx c2 hp]
  ·try simp only [W] at c2
   refine zJ<|zS O<|qJ O ⟨by omega,by omega⟩<|G O<|U ?_
   refine ⟨k+1,⟨by omega,zFa hx hp c2⟩,(by omega),Weak.mk [] ⟨Y,Y,Y,Y,T⟩ O⟩
 ·try simp only [W] at c1
  refine qO<|B O<|G O<|U<|zH<|zQ O ?_
  rw [zGj (by rw [qX (by omega)] at hp;exact hp)]
theorem zAh (l:List Ix) (c:C) (p:Ix->Bool) (hl:l.length<=6000000000000) (hc:∀x,x∈l->FnPur cfg c [vIndex x] (vB (p x))):
    Pur cfg 208 [vIndices l,.c c] (vB (l.any p)):=by
 refine zT Tryz.func208 O Tryz.ntmps208 Tryz.results208 O ?_
 intro z hz
 refine B O<|G O<|U<|B O<|G O<|G O<|qK O ok257 (zHf l c p hl hc) ⟨Y,O,Y,O,T⟩<|zX O (wD O O O)<|G O<|U<|zH<|zQ O ?_
 rw [idxOf_any]
end Go.W
