/-
  What functions compute.
  Conditions: none.
-/
import Derived.Test.YtlfjpejkoccibaaGreatDoorFacts
import Derived.Test.YtlfjpejkoccibaaGreatDoorPlain
set_option linter.unusedSimpArgs false
set_option linter.unusedVariables false
set_option maxRecDepth 10000
namespace Go.W
open Go Go.Eng Go.Proofs Go.L41 Go.Br
attribute [local irreducible] AWP RWP TD fH
theorem kw_ascii:∀(j:Nat) (b:UInt8),(bs kwBytes).data.toList[j]? =some b->b.toNat<128:=by
  intro j b h
  have:(kwBytes.all fun c=>decide (c.toNat<128))=true:=by decide
  rw [List.all_eq_true] at this
  simpa using this b (List.mem_of_getElem? h)
theorem kw_fields:(Lib.fields kwBytes).map bs=fO:=by decide+kernel
theorem nm1 {s:ByteArray} (h:Lz (!decide (s=bs [])&&decide ((s.size:Int)<=16)) true=true):¬s=bs []:=by
  simp only [Lz,cond_true,Bool.and_eq_true,Bool.not_eq_true',decide_eq_false_iff_not] at h
  exact h.1
theorem nm2 {s:ByteArray} {p:Bool} (h:Lz (!decide (s=bs [])&&decide ((s.size:Int)<=16)&&p) true=true):s.size<=1000000:=by
  simp only [Lz,cond_true,Bool.and_eq_true,decide_eq_true_eq] at h
  omega
theorem yX:nG Tryz.prog 41=some 2:=by kernel_rfl
theorem zPk:nG Tryz.prog 69=some 2:=by kernel_rfl
theorem zIn:nG Tryz.prog 72=some 4:=by kernel_rfl
theorem d:dY Tryz.prog 34=some (72,4,72):=by kernel_rfl
theorem P:dY Tryz.prog 39=some (69,2,24):=by kernel_rfl
theorem zGn:dY Tryz.prog 105=some (9,1,16):=by kernel_rfl
theorem zDt:bY Tryz.prog 41 0=some (0,2):=by kernel_rfl
theorem kC:bY Tryz.prog 41 1=some (1,39):=by kernel_rfl
theorem zAn:bY Tryz.prog 69 0=some (0,9):=by kernel_rfl
theorem zDn:bY Tryz.prog 69 1=some (1,2):=by kernel_rfl
theorem fl69:rP Tryz.prog 69=some [.str,.int]:=by kernel_rfl
theorem ik21:sM Tryz.prog 21=some .i32:=by kernel_rfl
theorem mixed:Tryz.prog.follows .mixedOrders=true:=by kernel_rfl
theorem ok60:bA Tryz.prog 60=true:=by kernel_rfl
theorem ok97:bA Tryz.prog 97=true:=by kernel_rfl
theorem ok98:bA Tryz.prog 98=true:=by kernel_rfl
theorem ok99:bA Tryz.prog 99=true:=by kernel_rfl
theorem ok100:bA Tryz.prog 100=true:=by kernel_rfl
theorem ok104:bA Tryz.prog 104=true:=by kernel_rfl
theorem ok113:bA Tryz.prog 113=true:=by kernel_rfl
theorem ok114:bA Tryz.prog 114=true:=by kernel_rfl
theorem ok142:bA Tryz.prog 142=true:=by kernel_rfl
theorem ok143:bA Tryz.prog 143=true:=by kernel_rfl
theorem ok144:bA Tryz.prog 144=true:=by kernel_rfl
theorem ok147:bA Tryz.prog 147=true:=by kernel_rfl
theorem ok177:bA Tryz.prog 177=true:=by kernel_rfl
theorem ok178:bA Tryz.prog 178=true:=by kernel_rfl
theorem ok281:bA Tryz.prog 281=true:=by kernel_rfl
theorem ok295:bA Tryz.prog 295=true:=by kernel_rfl
theorem U:lV Tryz.prog 2=true:=by kernel_rfl
theorem one9:lV Tryz.prog 9=true:=by kernel_rfl
theorem wN:lV Tryz.prog 39=true:=by kernel_rfl
theorem pl41:gG Tryz.prog 41=some [(0,1),(1,1)]:=by kernel_rfl
theorem pl69:gG Tryz.prog 69=some [(0,1),(1,1)]:=by kernel_rfl
theorem sz41:(Tryz.prog.info? 41).map (·.size)=some 2:=by kernel_rfl
theorem sz69:(Tryz.prog.info? 69).map (·.size)=some 2:=by kernel_rfl
theorem un9:Tryz.prog.underlying 9=some .string:=by kernel_rfl
theorem us5:(Tryz.prog.underlying 5).isSome=true:=by kernel_rfl
theorem zr9:fS Tryz.prog 9=some [(Value.string (ByteArray.mk #[]))]:=by kernel_rfl
theorem v:fS Tryz.prog 41=some [(Value.int IntKind.i64 0),(Value.slice none 0 0)]:=by kernel_rfl
theorem zr69:fS Tryz.prog 69=some [(Value.string (ByteArray.mk #[])),(Value.int IntKind.i64 0)]:=by kernel_rfl
theorem zQz (n:Int):
    Pur cfg 97 [vR n] (vB (lZ n)):=by
 refine zT Tryz.func97 O Tryz.ntmps97 Tryz.results97 O ?_
 intro z hz
 refine F O<|A O<|H<|F O<|A O<|zU O (wI O O O)<|A O<|rL0 O (fun g1_2=>zN O O) O<|B 6 O (fun g1_2=>wY O O O) O<|yQ O (fun h=>h)<|A O<|H<|o<|X O ?_
 exact O
theorem lexer_digit (n:Int):
    Pur cfg 142 [vR n] (vB (sO n)):=by
 refine zT Tryz.func142 O Tryz.ntmps142 Tryz.results142 O ?_
 intro z hz
 refine F O<|A O<|H<|F O<|A O<|zU O (wI O O O)<|A O<|rL0 O (fun g1_2=>zN O O) O<|B 6 O (fun g1_2=>wY O O O) O<|yQ O (fun h=>h)<|A O<|H<|o<|X O ?_
 exact O
theorem lexer_inWord (n:Int):
    Pur cfg 99 [vR n] (vB (pC n)):=by
 refine zT Tryz.func99 O Tryz.ntmps99 Tryz.results99 O ?_
 intro z hz
 refine F O<|A O<|H<|F O<|A O<|qI O ok97 (zQz _) ⟨G,O,T⟩<|A O<|rL0 O (fun g1_2=>zN O O) O<|B 6 O (fun g1_2=>qM O ok142 (lexer_digit _) ⟨G,O,T⟩) O<|r_or O (fun h=>(lzf h))<|A O<|rL0 O (fun g1_6=>zN O O) O<|B 10 O (fun g1_6=>yH O O O) O<|r_or O (fun h=>(lzf h))<|A O<|H<|o<|X O ?_
 exact O
theorem zQh (s:ByteArray) (hs:s.size<=1000000):
    Pur cfg 98 [vS s,.c (.fn (.func 99) [] [])] (vI (rF gK s.data.toList)):=by
 refine zT Tryz.func98 O Tryz.ntmps98 Tryz.results98 O ?_
 intro z hz
 refine F O<|A O<|H<|F O<|A O<|H<|zK<|zR<|zY ⟨[(5,.c _),(0,.c _),(1,.c _)],[]⟩ (Weak.mk [] ⟨G,G,G,T⟩ O)<|qK 1 0 O O (Nat) (fun k=>[(5,vI k)]) (fun k=>[]) (fun k=>k<=s.size/\(s.data.toList.take k).all gK=true) (fun k=>s.size-k) ⟨0,⟨by omega,O⟩,Weak.mk [] ⟨G,G,G,T⟩ O⟩ ?_
 rintro k ⟨hk,hp⟩
 refine zK<|F O<|A O<|A O<|zU O (zBj O un9 O)<|yD O<|A O<|rL0 O (fun g2_4=>zN O O) O<|rL0 O (fun g2_4=>zN O O) O<|rL0 O (fun g2_4=>zN O O) O<|rLz [(12,_),(13,_)] O gv1 ⟨O,O,O,O,T⟩ (fun g2_4=>zEa O un9 O O (by omega) (by simp only [Lz,cond_true,decide_eq_true_eq] at g2_4;omega)) O<|B 14 O (fun g2_4=>kU O us5 ik21 O) O<|rLz [(11,_),(15,_)] O gv1 ⟨O,O,O,O,T⟩ (fun g2_4=>det_call_fn0 O O ok99 (lexer_inWord _) ⟨G,O,T⟩) O<|yQ O (fun h=>h)<|H<|zD O (fun c1=>?_) (fun c1=>?_)
 ·try simp only [I] at c1
  obtain ⟨hlt,hcc⟩:=c1
  have hlt:k<s.size:=by omega
  rw [zMk] at hcc
  refine zM<|zR<|zQ O<|A O<|qJ O ⟨by omega,by omega⟩<|A O<|H ?_
  have hg:=zEd hlt
  refine ⟨k+1,⟨by omega,by rw [zPi hg,hp];exact hcc⟩,(by omega),Weak.mk [] ⟨G,G,G,T⟩ O⟩
 ·try simp only [I] at c1
  have hsp:rF gK s.data.toList=k:=span_stop hp (by
    by_cases hlt:k<s.size
    · right;refine ⟨_,zEd hlt,?_⟩;rcases c1 with c1|c1;omega;rw [zMk] at c1;exact c1
    · left;simp;omega)
  refine qQ<|F O<|A O<|A O<|H<|o<|X O ?_
  rw [hsp]
theorem zRk (l:List ByteArray) (s:ByteArray) (hl:l.length<=1000000):
    Pur cfg 177 [vSs l,vS s] (vI (tJ l s)):=by
 refine zT Tryz.func177 O Tryz.ntmps177 Tryz.results177 O ?_
 intro z hz
 refine F O<|A O<|H<|zK<|F O<|A O<|qC O zGn<|A O<|H<|zR<|zY ⟨[(8,.c _),(0,.c _),(1,.c _),(7,.c _)],[]⟩ (Weak.mk [] ⟨G,G,G,G,T⟩ O)<|qK 1 0 O O (Nat) (fun k=>[(8,vI k)]) (fun k=>[]) (fun k=>k<=l.length/\bK (l.take k) s=false) (fun k=>l.length-k) ⟨0,⟨by omega,O⟩,Weak.mk [] ⟨G,G,G,G,T⟩ O⟩ ?_
 rintro k ⟨hk,hp⟩
 refine F O<|yD O<|H<|zK<|zD O (fun c1=>?_) (fun c1=>?_)
 ·try simp only [I] at c1
  obtain ⟨t,ht⟩:=qY l k (by omega)
  refine zM<|zK<|zR<|F O<|A O<|A O<|H<|F O<|A O<|A O<|A O<|qD O zGn (by omega) (Q ht)<|zJ one9 qA O<|zU O (yR O O O)<|H<|zD O (fun c2=>?_) (fun c2=>?_)
  ·try simp only [I] at c2
   refine F O<|A O<|A O<|H<|o<|X O ?_
   rw [idxB_some ht c2 hp]
  ·try simp only [I] at c2
   refine zM<|zQ O<|qJ O ⟨by omega,by omega⟩<|A O<|H ?_
   refine ⟨k+1,⟨by omega,zRb ht hp (fun e=>c2 e.symm)⟩,(by omega),Weak.mk [] ⟨G,G,G,G,T⟩ O⟩
 ·try simp only [I] at c1
  refine qQ<|F O<|A O<|H<|o<|X O ?_
  rw [idxB_none (by rw [yU (by omega)] at hp;exact hp)]
theorem zCs (l:List ByteArray) (s:ByteArray) (hl:l.length<=1000000):
    Pur cfg 143 [vSs l,vS s] (vB (bK l s)):=by
 refine zT Tryz.func143 O Tryz.ntmps143 Tryz.results143 O ?_
 intro z hz
 refine F O<|A O<|H<|F O<|A O<|A O<|qI O ok177 (zRk l s hl) ⟨G,O,G,O,T⟩<|zU O (wI O O O)<|A O<|H<|o<|X O ?_
 rw [idxB_has]
theorem lexer_keywords  :
    Pur cfg 144 [] (vSs fO):=by
 refine zT Tryz.func144 O Tryz.ntmps144 Tryz.results144 O ?_
 intro z hz
 refine F O<|qX 1 O<|H<|F O<|qI O ok178 (strings_Fields _ (by decide) kw_ascii) ⟨G,O,T⟩<|A O<|H<|o<|X O ?_
 exact congrArg vSs kw_fields
theorem zVp (s:ByteArray):
    Pur cfg 100 [vS s] (vB (bK fO s)):=by
 refine zT Tryz.func100 O Tryz.ntmps100 Tryz.results100 O ?_
 intro z hz
 refine F O<|A O<|H<|F O<|qI O ok144 (lexer_keywords) T<|A O<|qI O ok143 (zCs _ _ (by decide)) ⟨G,O,G,O,T⟩<|A O<|H<|o<|X O ?_
 exact O
theorem zBc (s:ByteArray):
    Pur cfg 49 [vS s] (vB (bD s)):=by
 refine zT Tryz.func49 O Tryz.ntmps49 Tryz.results49 O ?_
 intro z hz
 refine F O<|A O<|H<|F O<|A O<|zU O (zBu O O O)<|A O<|rL0 O (fun g1_2=>zN O O) O<|B 6 O (fun g1_2=>zBj O un9 O) O<|B 7 O (fun g1_2=>wY O O O) O<|yQ O (fun h=>h)<|A O<|rL0 O (fun g1_7=>zN O O) O<|B 11 O (fun g1_7=>zEa O un9 O O (by decide) (size_pos (nm1 g1_7))) O<|B 12 O (fun g1_7=>kU O us5 ik21 O) O<|B 13 O (fun g1_7=>qM O ok97 (zQz _) ⟨G,O,T⟩) O<|yQ O (fun h=>h)<|A O<|rL0 O (fun g1_13=>zN O O) O<|B 17 O (fun g1_13=>qM O ok98 (zQh s (nm2 g1_13)) ⟨G,O,G,O,T⟩) O<|rL0 O (fun g1_13=>zN O O) O<|B 19 O (fun g1_13=>zBj O un9 O) O<|rLz [(18,_),(20,_)] O gv1 ⟨O,O,O,O,T⟩ (fun g1_13=>yH O O O) O<|yQ O (fun h=>h)<|A O<|rL0 O (fun g1_20=>zN O O) O<|B 24 O (fun g1_20=>qM O ok100 (zVp _) ⟨G,O,T⟩) O<|B 25 O (fun g1_20=>kW O O) O<|yQ O (fun h=>h)<|A O<|H<|o<|X O ?_
 exact congrArg vB (isName_eq s)
theorem base_Words  :
    Pur cfg 114 [] (vSs fO):=by
 refine zT Tryz.func114 O Tryz.ntmps114 Tryz.results114 O ?_
 intro z hz
 refine F O<|qX 1 O<|H<|F O<|yV O zGn zr9<|A O<|H<|o<|X O ?_
 exact O
theorem zTf (l:List ByteArray) (s:ByteArray) (hl:l.length<=6000000000000):
    Pur cfg 113 [vSs l,vS s] (vB (bK l s)):=by
 refine zT Tryz.func113 O Tryz.ntmps113 Tryz.results113 O ?_
 intro z hz
 refine F O<|A O<|H<|zK<|F O<|A O<|H<|zR<|zY ⟨[(5,.c _),(0,.c _),(1,.c _)],[]⟩ (Weak.mk [] ⟨G,G,G,T⟩ O)<|qK 1 0 O O (Nat) (fun k=>[(5,vI k)]) (fun k=>[]) (fun k=>k<=l.length/\bK (l.take k) s=false) (fun k=>l.length-k) ⟨0,⟨by omega,O⟩,Weak.mk [] ⟨G,G,G,T⟩ O⟩ ?_
 rintro k ⟨hk,hp⟩
 refine zK<|F O<|A O<|A O<|qC O zGn<|yD O<|H<|zD O (fun c1=>?_) (fun c1=>?_)
 ·try simp only [I] at c1
  obtain ⟨t,ht⟩:=qY l k (by omega)
  refine zM<|zK<|zR<|F O<|A O<|A O<|qD O zGn (by omega) (Q ht)<|zJ one9 qA O<|A O<|zU O (yR O O O)<|H<|zD O (fun c2=>?_) (fun c2=>?_)
  ·try simp only [I] at c2
   refine F O<|A O<|H<|o<|X O ?_
   rw [kG ht c2]
  ·try simp only [I] at c2
   refine zM<|zQ O<|A O<|qJ O ⟨by omega,by omega⟩<|A O<|H ?_
   refine ⟨k+1,⟨by omega,zRb ht hp c2⟩,(by omega),Weak.mk [] ⟨G,G,G,T⟩ O⟩
 ·try simp only [I] at c1
  refine qQ<|F O<|A O<|H<|o<|X O ?_
  rw [show bK l s=false by rw [yU (by omega)] at hp;exact hp]
theorem zEq (s:ByteArray):
    Pur cfg 60 [vS s] (vB (bD s)):=by
 refine zT Tryz.func60 O Tryz.ntmps60 Tryz.results60 O ?_
 intro z hz
 refine F O<|A O<|H<|zK<|F O<|A O<|zU O (zBj O un9 O)<|yD O<|A O<|rL0 O (fun g1_3=>zN O O) O<|B 9 O (fun g1_3=>zBj O un9 O) O<|B 10 O (fun g1_3=>yG O O O) O<|r_or O (fun h=>(lzf h))<|A O<|rL0 O (fun g1_8=>qM O ok114 (base_Words) T) O<|rL0 O (fun g1_8=>zN O O) O<|rLz [(14,_),(15,_)] O gv1 ⟨O,O,O,O,T⟩ (fun g1_8=>qM O ok113 (zTf _ _ (by decide)) ⟨G,O,G,O,T⟩) O<|r_or O (fun h=>(lzf h))<|H<|zD O (fun c1=>?_) (fun c1=>?_)
 ·try simp only [I] at c1
  have hno:=name_short (s:=s) (by simpa using c1)
  refine F O<|A O<|H<|o<|X O ?_
  rw [hno]
 ·try simp only [I] at c1
  obtain ⟨⟨n1,n2⟩,n3⟩:=c1
  have n1:1<=s.size:=by omega
  have n2:s.size<=16:=by omega
  have hne:=name_end n1 n2 n3
  refine zM<|zK<|F O<|A O<|H<|zR<|zY ⟨[(3,.c _),(0,.c _)],[]⟩ (Weak.mk [] ⟨G,G,T⟩ O)<|qK 1 0 O O (Nat) (fun k=>[(3,vI k)]) (fun k=>[]) (fun k=>k<=s.size/\pR s k=true) (fun k=>s.size-k) ⟨0,⟨by omega,O⟩,Weak.mk [] ⟨G,G,T⟩ O⟩ ?_
  rintro k ⟨hk,hp⟩
  refine zK<|F O<|A O<|A O<|zU O (zBj O un9 O)<|yD O<|H<|zD O (fun c2=>?_) (fun c2=>?_)
  ·try simp only [I] at c2
   have hlt:k<s.size:=by omega
   refine zM<|zK<|zR<|F O<|A O<|A O<|zU O (zEa O un9 O O (by omega) (by omega))<|A O<|H<|F O<|A O<|zU O (wI O O O)<|A O<|rL0 O (fun g7_2=>zN O O) O<|B 30 O (fun g7_2=>wY O O O) O<|yQ O (fun h=>h)<|A O<|rL0 O (fun g7_6=>zN O O) O<|B 34 O (fun g7_6=>yG O O O) O<|B 35 O (fun g7_6=>zN O O) O<|rLz [] O N T (fun g7_9=>zN O O) O<|rLz [(37,_)] O N ⟨O,O,T⟩ (fun g7_9=>wI O O O) O<|rLz [(38,_)] O N ⟨O,O,T⟩ (fun g7_9=>zN O O) O<|rLz [] O N T (fun g7_12=>zN O O) O<|rLz [(40,_)] O N ⟨O,O,T⟩ (fun g7_12=>wY O O O) O<|rLz [(39,_)] O N ⟨O,O,T⟩ (fun g7_9=>kZ O O O (fun h=>kD (by assumption) h) O) O<|rLz [(42,_)] O N ⟨O,O,T⟩ (fun g7_9=>zN O O) O<|rLz [] O N T (fun g7_16=>zN O O) O<|rLz [(44,_)] O N ⟨O,O,T⟩ (fun g7_16=>yH O O O) O<|rLz [(43,_)] O N ⟨O,O,T⟩ (fun g7_9=>zAu O O O O (fun h=>kD (by assumption) (lzf h))) O<|B 36 O (fun g7_6=>kZ O O O (fun h=>kD (by assumption) h) O) O<|r_or O (fun h=>(lzf h))<|kQ O<|H<|zD O (fun c3=>?_) (fun c3=>?_)
   ·have hbad:pR s (k+1)=false:=by rw [okTo_next,show nM k (s.data.toList.getD k 0)=false from (Bool.not_eq_true' _).mp c3];simp
    refine F O<|A O<|H<|o<|X O ?_
    rw [hne];cases ho:pR s s.size;rfl;exact absurd (okTo_le (k:=k+1) (by omega) ho) (by rw [hbad];simp)
   ·have hgood:pR s (k+1)=true:=by rw [okTo_next,hp,show nM k (s.data.toList.getD k 0)=true from (Bool.not_eq_false' _).mp c3];rfl
    refine zM<|zQ O<|A O<|qJ O ⟨by omega,by omega⟩<|A O<|H ?_
    refine ⟨k+1,⟨by omega,hgood⟩,(by omega),Weak.mk [] ⟨G,G,T⟩ O⟩
  ·try simp only [I] at c2
   refine qQ<|F O<|A O<|H<|o<|X O ?_
   rw [hne,show s.size=k by omega,hp]
theorem lin_reserved (s:ByteArray):
    Pur cfg 147 [vS s] (vB (bK fO s)):=by
 refine zT Tryz.func147 O Tryz.ntmps147 Tryz.results147 O ?_
 intro z hz
 refine F O<|A O<|H<|zK<|F O<|A O<|H<|zR<|zK<|F O<|zU O (yR O O O)<|A O<|H<|zD O (fun c1=>?_) (fun c1=>?_)
 ·try simp only [I] at c1
  refine zM<|zD O (fun c22=>?_) (fun c22=>?_)
  ·refine F O<|A O<|H<|o<|X O ?_
   rw [kG (l:=fO) (k:=0) rfl c1.symm]
  ·try simp only [I] at c22
   refine zM<|F O<|A O<|H<|o<|X O ?_
   exact absurd c1 c22
 ·try simp only [I] at c1
  refine F O<|zU O (yR O O O)<|A O<|H<|zD O (fun c2=>?_) (fun c2=>?_)
  ·try simp only [I] at c2
   refine zM<|zD O (fun c22=>?_) (fun c22=>?_)
   ·refine F O<|A O<|H<|o<|X O ?_
    rw [kG (l:=fO) (k:=1) rfl c2.symm]
   ·try simp only [I] at c22
    refine zM<|F O<|A O<|H<|o<|X O ?_
    exact absurd c2 c22
  ·try simp only [I] at c2
   refine F O<|zU O (yR O O O)<|A O<|H<|zD O (fun c3=>?_) (fun c3=>?_)
   ·try simp only [I] at c3
    refine zM<|zD O (fun c22=>?_) (fun c22=>?_)
    ·refine F O<|A O<|H<|o<|X O ?_
     rw [kG (l:=fO) (k:=2) rfl c3.symm]
    ·try simp only [I] at c22
     refine zM<|F O<|A O<|H<|o<|X O ?_
     exact absurd c3 c22
   ·try simp only [I] at c3
    refine F O<|zU O (yR O O O)<|A O<|H<|zD O (fun c4=>?_) (fun c4=>?_)
    ·try simp only [I] at c4
     refine zM<|zD O (fun c22=>?_) (fun c22=>?_)
     ·refine F O<|A O<|H<|o<|X O ?_
      rw [kG (l:=fO) (k:=3) rfl c4.symm]
     ·try simp only [I] at c22
      refine zM<|F O<|A O<|H<|o<|X O ?_
      exact absurd c4 c22
    ·try simp only [I] at c4
     refine F O<|zU O (yR O O O)<|A O<|H<|zD O (fun c5=>?_) (fun c5=>?_)
     ·try simp only [I] at c5
      refine zM<|zD O (fun c22=>?_) (fun c22=>?_)
      ·refine F O<|A O<|H<|o<|X O ?_
       rw [kG (l:=fO) (k:=4) rfl c5.symm]
      ·try simp only [I] at c22
       refine zM<|F O<|A O<|H<|o<|X O ?_
       exact absurd c5 c22
     ·try simp only [I] at c5
      refine F O<|zU O (yR O O O)<|A O<|H<|zD O (fun c6=>?_) (fun c6=>?_)
      ·try simp only [I] at c6
       refine zM<|zD O (fun c22=>?_) (fun c22=>?_)
       ·refine F O<|A O<|H<|o<|X O ?_
        rw [kG (l:=fO) (k:=5) rfl c6.symm]
       ·try simp only [I] at c22
        refine zM<|F O<|A O<|H<|o<|X O ?_
        exact absurd c6 c22
      ·try simp only [I] at c6
       refine F O<|zU O (yR O O O)<|A O<|H<|zD O (fun c7=>?_) (fun c7=>?_)
       ·try simp only [I] at c7
        refine zM<|zD O (fun c22=>?_) (fun c22=>?_)
        ·refine F O<|A O<|H<|o<|X O ?_
         rw [kG (l:=fO) (k:=6) rfl c7.symm]
        ·try simp only [I] at c22
         refine zM<|F O<|A O<|H<|o<|X O ?_
         exact absurd c7 c22
       ·try simp only [I] at c7
        refine F O<|zU O (yR O O O)<|A O<|H<|zD O (fun c8=>?_) (fun c8=>?_)
        ·try simp only [I] at c8
         refine zM<|zD O (fun c22=>?_) (fun c22=>?_)
         ·refine F O<|A O<|H<|o<|X O ?_
          rw [kG (l:=fO) (k:=7) rfl c8.symm]
         ·try simp only [I] at c22
          refine zM<|F O<|A O<|H<|o<|X O ?_
          exact absurd c8 c22
        ·try simp only [I] at c8
         refine F O<|zU O (yR O O O)<|A O<|H<|zD O (fun c9=>?_) (fun c9=>?_)
         ·try simp only [I] at c9
          refine zM<|zD O (fun c22=>?_) (fun c22=>?_)
          ·refine F O<|A O<|H<|o<|X O ?_
           rw [kG (l:=fO) (k:=8) rfl c9.symm]
          ·try simp only [I] at c22
           refine zM<|F O<|A O<|H<|o<|X O ?_
           exact absurd c9 c22
         ·try simp only [I] at c9
          refine F O<|zU O (yR O O O)<|A O<|H<|zD O (fun c10=>?_) (fun c10=>?_)
          ·try simp only [I] at c10
           refine zM<|zD O (fun c22=>?_) (fun c22=>?_)
           ·refine F O<|A O<|H<|o<|X O ?_
            rw [kG (l:=fO) (k:=9) rfl c10.symm]
           ·try simp only [I] at c22
            refine zM<|F O<|A O<|H<|o<|X O ?_
            exact absurd c10 c22
          ·try simp only [I] at c10
           refine F O<|zU O (yR O O O)<|A O<|H<|zD O (fun c11=>?_) (fun c11=>?_)
           ·try simp only [I] at c11
            refine zM<|zD O (fun c22=>?_) (fun c22=>?_)
            ·refine F O<|A O<|H<|o<|X O ?_
             rw [kG (l:=fO) (k:=10) rfl c11.symm]
            ·try simp only [I] at c22
             refine zM<|F O<|A O<|H<|o<|X O ?_
             exact absurd c11 c22
           ·try simp only [I] at c11
            refine F O<|zU O (yR O O O)<|A O<|H<|zD O (fun c12=>?_) (fun c12=>?_)
            ·try simp only [I] at c12
             refine zM<|zD O (fun c22=>?_) (fun c22=>?_)
             ·refine F O<|A O<|H<|o<|X O ?_
              rw [kG (l:=fO) (k:=11) rfl c12.symm]
             ·try simp only [I] at c22
              refine zM<|F O<|A O<|H<|o<|X O ?_
              exact absurd c12 c22
            ·try simp only [I] at c12
             refine F O<|zU O (yR O O O)<|A O<|H<|zD O (fun c13=>?_) (fun c13=>?_)
             ·try simp only [I] at c13
              refine zM<|zD O (fun c22=>?_) (fun c22=>?_)
              ·refine F O<|A O<|H<|o<|X O ?_
               rw [kG (l:=fO) (k:=12) rfl c13.symm]
              ·try simp only [I] at c22
               refine zM<|F O<|A O<|H<|o<|X O ?_
               exact absurd c13 c22
             ·try simp only [I] at c13
              refine F O<|zU O (yR O O O)<|A O<|H<|zD O (fun c14=>?_) (fun c14=>?_)
              ·try simp only [I] at c14
               refine zM<|zD O (fun c22=>?_) (fun c22=>?_)
               ·refine F O<|A O<|H<|o<|X O ?_
                rw [kG (l:=fO) (k:=13) rfl c14.symm]
               ·try simp only [I] at c22
                refine zM<|F O<|A O<|H<|o<|X O ?_
                exact absurd c14 c22
              ·try simp only [I] at c14
               refine F O<|zU O (yR O O O)<|A O<|H<|zD O (fun c15=>?_) (fun c15=>?_)
               ·try simp only [I] at c15
                refine zM<|zD O (fun c22=>?_) (fun c22=>?_)
                ·refine F O<|A O<|H<|o<|X O ?_
                 rw [kG (l:=fO) (k:=14) rfl c15.symm]
                ·try simp only [I] at c22
                 refine zM<|F O<|A O<|H<|o<|X O ?_
                 exact absurd c15 c22
               ·try simp only [I] at c15
                refine F O<|zU O (yR O O O)<|A O<|H<|zD O (fun c16=>?_) (fun c16=>?_)
                ·try simp only [I] at c16
                 refine zM<|zD O (fun c22=>?_) (fun c22=>?_)
                 ·refine F O<|A O<|H<|o<|X O ?_
                  rw [kG (l:=fO) (k:=15) rfl c16.symm]
                 ·try simp only [I] at c22
                  refine zM<|F O<|A O<|H<|o<|X O ?_
                  exact absurd c16 c22
                ·try simp only [I] at c16
                 refine F O<|zU O (yR O O O)<|A O<|H<|zD O (fun c17=>?_) (fun c17=>?_)
                 ·try simp only [I] at c17
                  refine zM<|zD O (fun c22=>?_) (fun c22=>?_)
                  ·refine F O<|A O<|H<|o<|X O ?_
                   rw [kG (l:=fO) (k:=16) rfl c17.symm]
                  ·try simp only [I] at c22
                   refine zM<|F O<|A O<|H<|o<|X O ?_
                   exact absurd c17 c22
                 ·try simp only [I] at c17
                  refine F O<|zU O (yR O O O)<|A O<|H<|zD O (fun c18=>?_) (fun c18=>?_)
                  ·try simp only [I] at c18
                   refine zM<|zD O (fun c22=>?_) (fun c22=>?_)
                   ·refine F O<|A O<|H<|o<|X O ?_
                    rw [kG (l:=fO) (k:=17) rfl c18.symm]
                   ·try simp only [I] at c22
                    refine zM<|F O<|A O<|H<|o<|X O ?_
                    exact absurd c18 c22
                  ·try simp only [I] at c18
                   refine F O<|zU O (yR O O O)<|A O<|H<|zD O (fun c19=>?_) (fun c19=>?_)
                   ·try simp only [I] at c19
                    refine zM<|zD O (fun c22=>?_) (fun c22=>?_)
                    ·refine F O<|A O<|H<|o<|X O ?_
                     rw [kG (l:=fO) (k:=18) rfl c19.symm]
                    ·try simp only [I] at c22
                     refine zM<|F O<|A O<|H<|o<|X O ?_
                     exact absurd c19 c22
                   ·try simp only [I] at c19
                    refine F O<|zU O (yR O O O)<|A O<|H<|zD O (fun c20=>?_) (fun c20=>?_)
                    ·try simp only [I] at c20
                     refine zM<|zD O (fun c22=>?_) (fun c22=>?_)
                     ·refine F O<|A O<|H<|o<|X O ?_
                      rw [kG (l:=fO) (k:=19) rfl c20.symm]
                     ·try simp only [I] at c22
                      refine zM<|F O<|A O<|H<|o<|X O ?_
                      exact absurd c20 c22
                    ·try simp only [I] at c20
                     refine F O<|zU O (yR O O O)<|A O<|H<|zD O (fun c21=>?_) (fun c21=>?_)
                     ·try simp only [I] at c21
                      refine zM<|zD O (fun c22=>?_) (fun c22=>?_)
                      ·refine F O<|A O<|H<|o<|X O ?_
                       rw [kG (l:=fO) (k:=20) rfl c21.symm]
                      ·try simp only [I] at c22
                       refine zM<|F O<|A O<|H<|o<|X O ?_
                       exact absurd c21 c22
                     ·try simp only [I] at c21
                      refine zQ O<|zU O (yR O O O)<|A O<|H<|zD O (fun c22=>?_) (fun c22=>?_)
                      ·try simp only [I] at c22
                       refine F O<|A O<|H<|o<|X O ?_
                       rw [kG (l:=fO) (k:=21) rfl c22.symm]
                      ·try simp only [I] at c22
                       refine zM<|F O<|A O<|H<|o<|X O ?_
                       rw [show bK fO s=false by
                         simp only [bK,fO,List.any_cons,List.any_nil,Bool.or_eq_false_iff,decide_eq_false_iff_not]
                         exact ⟨fun h=>c1 h.symm,fun h=>c2 h.symm,fun h=>c3 h.symm,fun h=>c4 h.symm,fun h=>c5 h.symm,fun h=>c6 h.symm,fun h=>c7 h.symm,fun h=>c8 h.symm,fun h=>c9 h.symm,fun h=>c10 h.symm,fun h=>c11 h.symm,fun h=>c12 h.symm,fun h=>c13 h.symm,fun h=>c14 h.symm,fun h=>c15 h.symm,fun h=>c16 h.symm,fun h=>c17 h.symm,fun h=>c18 h.symm,fun h=>c19 h.symm,fun h=>c20 h.symm,fun h=>c21 h.symm,fun h=>c22 h.symm,T⟩]
theorem zGm (s:ByteArray):
    Pur cfg 104 [vS s] (vB (bD s)):=by
 refine zT Tryz.func104 O Tryz.ntmps104 Tryz.results104 O ?_
 intro z hz
 refine F O<|A O<|H<|zK<|F O<|A O<|zU O (zBj O un9 O)<|yD O<|A O<|rL0 O (fun g1_3=>zN O O) O<|B 9 O (fun g1_3=>zBj O un9 O) O<|B 10 O (fun g1_3=>yG O O O) O<|r_or O (fun h=>(lzf h))<|A O<|rL0 O (fun g1_8=>zN O O) O<|B 14 O (fun g1_8=>qM O ok147 (lin_reserved _) ⟨G,O,T⟩) O<|r_or O (fun h=>(lzf h))<|A O<|rL0 O (fun g1_12=>zN O O) O<|B 18 O (fun g1_12=>zEa O un9 O O (by decide) (by simp only [Lz,cond_true,cond_false,Bool.and_eq_true,Bool.or_eq_true,Bool.not_eq_true',Bool.not_eq_false',Bool.or_eq_false_iff,Bool.and_eq_false_iff,decide_eq_true_eq,decide_eq_false_iff_not,Bool.not_eq_true,Bool.not_eq_false] at g1_12;omega)) O<|B 19 O (fun g1_12=>zBr O O O) O<|r_or O (fun h=>(lzf h))<|A O<|rL0 O (fun g1_17=>zN O O) O<|B 23 O (fun g1_17=>zEa O un9 O O (by decide) (by simp only [Lz,cond_true,cond_false,Bool.and_eq_true,Bool.or_eq_true,Bool.not_eq_true',Bool.not_eq_false',Bool.or_eq_false_iff,Bool.and_eq_false_iff,decide_eq_true_eq,decide_eq_false_iff_not,Bool.not_eq_true,Bool.not_eq_false] at g1_17;omega)) O<|B 24 O (fun g1_17=>yG O O O) O<|r_or O (fun h=>(lzf h))<|H<|zD O (fun c1=>?_) (fun c1=>?_)
 ·have hno:=ident_no c1
  refine F O<|A O<|H<|o<|X O ?_
  rw [hno]
 ·obtain ⟨n1,n2,hne⟩:=ident_yes c1
  refine zM<|zK<|F O<|A O<|zU O (zBj O un9 O)<|A O<|H<|zR<|zY ⟨[(29,.c _),(0,.c _),(28,.c _)],[]⟩ (Weak.mk [] ⟨G,G,G,T⟩ O)<|qK 1 0 O O (Nat) (fun k=>[(29,vI k)]) (fun k=>[]) (fun k=>k<=s.size/\(s.data.toList.take k).all gK=true) (fun k=>s.size-k) ⟨0,⟨by omega,O⟩,Weak.mk [] ⟨G,G,G,T⟩ O⟩ ?_
  rintro k ⟨hk,hp⟩
  refine F O<|yD O<|H<|zK<|zD O (fun c2=>?_) (fun c2=>?_)
  ·try simp only [I] at c2
   have hlt:k<s.size:=by omega
   refine zM<|zK<|zR<|F O<|A O<|A O<|H<|F O<|A O<|A O<|zU O (zEa O un9 O O (by omega) (by omega))<|A O<|H<|F O<|A O<|yD O<|A O<|rL0 O (fun g7_2=>zN O O) O<|B 38 O (fun g7_2=>yG O O O) O<|r_or O (fun h=>(lzf h))<|A O<|rL0 O (fun g7_6=>zN O O) O<|B 42 O (fun g7_6=>zBr O O O) O<|B 43 O (fun g7_6=>zN O O) O<|rLz [] O N T (fun g7_9=>zN O O) O<|rLz [(45,_)] O N ⟨O,O,T⟩ (fun g7_9=>yG O O O) O<|B 44 O (fun g7_6=>zAu O O O O (fun h=>kD (by assumption) (lzf h))) O<|yQ O (fun h=>h)<|A O<|rL0 O (fun g7_14=>zN O O) O<|B 50 O (fun g7_14=>kN O O O) O<|yQ O (fun h=>h)<|H<|zD O (fun c3=>?_) (fun c3=>?_)
   ·have hbad:=word_no hlt c3
    refine F O<|A O<|H<|o<|X O ?_
    rw [hne,hbad]
   ·have hgood:=word_yes hlt hp c3
    refine zM<|zQ O<|qJ O ⟨by omega,by omega⟩<|A O<|H ?_
    refine ⟨k+1,⟨by omega,hgood⟩,(by omega),Weak.mk [] ⟨G,G,G,T⟩ O⟩
  ·try simp only [I] at c2
   refine qQ<|F O<|A O<|H<|o<|X O ?_
   rw [hne,word_all hp (by omega)]
theorem zDd (l:Lf) (hl:l.L.length<=6000000000000):
    Pur cfg 102 [bZ l] (vI (gR l)):=by
 refine zT Tryz.func102 O Tryz.ntmps102 Tryz.results102 O ?_
 intro z hz
 refine F O<|zV O O (qN O O) ?_
 rintro _ _ ⟨b1,rfl,rfl⟩
 refine A O<|H<|zK<|F O<|zG O kC<|zJ wN (R 0 O) O<|qC O P<|A O<|H<|zR<|zY ⟨[(8,.c _),(1,.c _),(6,.c _),(7,.c _)],[_]⟩ (Weak.mk [true] ⟨G,G,G,G,T⟩ O)<|qK 1 0 O O (Nat) (fun k=>[(8,vI k)]) (fun k=>[]) (fun k=>k<=l.L.length/\(bJ l=bL (mO l.L k) (l.L.drop k))) (fun k=>l.L.length-k) ⟨0,⟨by omega,O⟩,Weak.mk [true] ⟨G,G,G,G,T⟩ O⟩ ?_
 rintro k ⟨hk,hp⟩
 refine F O<|yD O<|H<|zK<|zD O (fun c1=>?_) (fun c1=>?_)
 ·try simp only [I] at c1
  obtain ⟨x,hx⟩:=qY l.L k (by omega)
  refine zM<|zK<|zR<|F O<|A O<|qD O P (by omega) (Q (by assumption))<|zP zPk qA O<|zV O O (yT O zr69) ?_
  rintro _ _ ⟨b2,rfl,rfl⟩
  refine A O<|Y 0 sz69 O<|H<|zK<|qZ 25 mixed (by kernel_rfl) O O<|M O O (zE O zAn O)<|M O O (zF O one9 O (R 0 O) O)<|M O O (qM O ok104 (zGm _) ⟨G,O,T⟩)<|M O O (kW O O)<|M O O (zN O O)<|f [] O O O O gv1 T (fun g4_4=>zE O zDn O) O<|f [(18,_)] O O O O gv1 ⟨O,O,T⟩ (fun g4_4=>zF O U O (R 0 O) O) O<|f [(19,_)] O O O O gv1 ⟨O,O,T⟩ (fun g4_4=>yH O O O) O<|M O O (zAu O O O O (fun h=>(lzf h)))<|M O O (zN O O)<|f [] O O O O gv1 T (fun g4_9=>zN O O) O<|f [(23,_)] O O O O gv1 ⟨O,O,T⟩ (fun g4_9=>yG O O O) O<|f [(24,_)] O O O O gv1 ⟨O,O,T⟩ (fun g4_9=>zN O O) O<|f [] O O O O N T (fun g4_12=>zE O kC O) O<|f [(26,_)] O O O O N ⟨O,O,T⟩ (fun g4_12=>zF O wN O (R 1 O) O) O<|f [] O O O O N T (fun g4_12=>zN O O) O<|f [(28,_)] O O O O N ⟨O,O,T⟩ (fun g4_12=>yE O O O ⟨by omega,by omega⟩) O<|f [(27,_),(29,_)] O O O O N ⟨O,O,O,O,T⟩ (fun g4_12=>qF O P O O (by simp only [Lz,cond_true,cond_false,Bool.and_eq_true,Bool.or_eq_true,Bool.not_eq_true',Bool.not_eq_false',Bool.or_eq_false_iff,Bool.and_eq_false_iff,decide_eq_true_eq,decide_eq_false_iff_not,Bool.not_eq_true,Bool.not_eq_false] at g4_12;omega) (pv_get (by simp only [Lz,cond_true,cond_false,Bool.and_eq_true,Bool.or_eq_true,Bool.not_eq_true',Bool.not_eq_false',Bool.or_eq_false_iff,Bool.and_eq_false_iff,decide_eq_true_eq,decide_eq_false_iff_not,Bool.not_eq_true,Bool.not_eq_false] at g4_12;omega) (by omega))) O<|f [(30,_)] O O O O N ⟨O,O,T⟩ (fun g4_12=>qL O zAn O) O<|f [(31,_)] O O O O N ⟨O,O,T⟩ (fun g4_12=>zF O one9 O qA O) O<|f [] O O O O N T (fun g4_12=>zE O zAn O) O<|f [(33,_)] O O O O N ⟨O,O,T⟩ (fun g4_12=>zF O one9 O (R 0 O) O) O<|f [(32,_),(34,_)] O O O O N ⟨O,O,O,O,T⟩ (fun g4_12=>det_sgeq O O O) O<|f [(25,_)] O O O O gv1 ⟨O,O,T⟩ (fun g4_9=>kZ O O O (fun h=>kD (by assumption) h) O) O<|M O O (zAu O O O O (fun h=>(lzf h)))<|kE<|H<|zD O (fun c2=>?_) (fun c2=>?_)
  ·refine F O<|A O<|H<|o<|X O ?_
   rw [gR,hp,zLk hx,show tY l.L k x=true from c2];rfl
  ·refine zM<|zQ O<|qJ O ⟨by omega,by omega⟩<|A O<|H ?_
   refine ⟨k+1,⟨by omega,by rw [hp,zLk hx,show tY l.L k x=false from c2];rfl⟩,(by omega),Weak.mk [false,true] ⟨G,G,G,G,T⟩ O⟩
 ·try simp only [I] at c1
  refine qQ<|F O<|A O<|H<|o<|X O ?_
  rw [gR,hp,monos_end (by omega)];rfl
theorem zDr (l:Lf) (hl:l.L.length<=6000000000000):
    Pur cfg 183 [bZ l] (vB (bJ l)):=by
 refine zT Tryz.func183 O Tryz.ntmps183 Tryz.results183 O ?_
 intro z hz
 refine F O<|zV O O (qN O O) ?_
 rintro _ _ ⟨b1,rfl,rfl⟩
 refine A O<|H<|zK<|F O<|A O<|H<|zR<|zY ⟨[(3,.c _),(1,.c _)],[_]⟩ (Weak.mk [true] ⟨G,G,T⟩ O)<|qK 1 0 O O (Nat) (fun k=>[(3,vI k)]) (fun k=>[]) (fun k=>k<=l.L.length/\(bJ l=bL (mO l.L k) (l.L.drop k))) (fun k=>l.L.length-k) ⟨0,⟨by omega,O⟩,Weak.mk [true] ⟨G,G,T⟩ O⟩ ?_
 rintro k ⟨hk,hp⟩
 refine zK<|F O<|A O<|zG O kC<|zJ wN (R 0 O) O<|qC O P<|yD O<|H<|zD O (fun c1=>?_) (fun c1=>?_)
 ·try simp only [I] at c1
  obtain ⟨x,hx⟩:=qY l.L k (by omega)
  refine zM<|zK<|zR<|zK<|qZ 37 mixed (by kernel_rfl) O O<|M O O (zE O kC O)<|M O O (zF O wN O (R 0 O) O)<|M O O (zN O O)<|M O O (qF O P O O (by omega) (Q (by assumption)))<|M O O (qL O zAn O)<|M O O (zF O one9 O qA O)<|M O O (qM O ok60 (zEq _) ⟨G,O,T⟩)<|M O O (kW O O)<|M O O (zN O O)<|f [] O O O O gv1 T (fun g4_8=>zE O kC O) O<|f [(20,_)] O O O O gv1 ⟨O,O,T⟩ (fun g4_8=>zF O wN O (R 0 O) O) O<|f [] O O O O gv1 T (fun g4_8=>zN O O) O<|f [(21,_),(22,_)] O O O O gv1 ⟨O,O,O,O,T⟩ (fun g4_8=>qF O P O O (by omega) (Q (by assumption))) O<|f [(23,_)] O O O O gv1 ⟨O,O,T⟩ (fun g4_8=>qL O zDn O) O<|f [(24,_)] O O O O gv1 ⟨O,O,T⟩ (fun g4_8=>zF O U O qA O) O<|f [(25,_)] O O O O gv1 ⟨O,O,T⟩ (fun g4_8=>yH O O O) O<|M O O (zAu O O O O (fun h=>(lzf h)))<|M O O (zN O O)<|f [] O O O O gv1 T (fun g4_17=>zN O O) O<|f [(29,_)] O O O O gv1 ⟨O,O,T⟩ (fun g4_17=>yG O O O) O<|f [(30,_)] O O O O gv1 ⟨O,O,T⟩ (fun g4_17=>zN O O) O<|f [] O O O O N T (fun g4_20=>zE O kC O) O<|f [(32,_)] O O O O N ⟨O,O,T⟩ (fun g4_20=>zF O wN O (R 0 O) O) O<|f [] O O O O N T (fun g4_20=>zN O O) O<|f [(34,_)] O O O O N ⟨O,O,T⟩ (fun g4_20=>yE O O O ⟨by omega,by omega⟩) O<|f [(33,_),(35,_)] O O O O N ⟨O,O,O,O,T⟩ (fun g4_20=>qF O P O O (by simp only [Lz,cond_true,cond_false,Bool.and_eq_true,Bool.or_eq_true,Bool.not_eq_true',Bool.not_eq_false',Bool.or_eq_false_iff,Bool.and_eq_false_iff,decide_eq_true_eq,decide_eq_false_iff_not,Bool.not_eq_true,Bool.not_eq_false] at g4_20;omega) (pv_get (by simp only [Lz,cond_true,cond_false,Bool.and_eq_true,Bool.or_eq_true,Bool.not_eq_true',Bool.not_eq_false',Bool.or_eq_false_iff,Bool.and_eq_false_iff,decide_eq_true_eq,decide_eq_false_iff_not,Bool.not_eq_true,Bool.not_eq_false] at g4_20;omega) (by omega))) O<|f [(36,_)] O O O O N ⟨O,O,T⟩ (fun g4_20=>qL O zAn O) O<|f [(37,_)] O O O O N ⟨O,O,T⟩ (fun g4_20=>zF O one9 O qA O) O<|f [] O O O O N T (fun g4_20=>zE O kC O) O<|f [(39,_)] O O O O N ⟨O,O,T⟩ (fun g4_20=>zF O wN O (R 0 O) O) O<|f [] O O O O N T (fun g4_20=>zN O O) O<|f [(40,_),(41,_)] O O O O N ⟨O,O,O,O,T⟩ (fun g4_20=>qF O P O O (by omega) (Q (by assumption))) O<|f [(42,_)] O O O O N ⟨O,O,T⟩ (fun g4_20=>qL O zAn O) O<|f [(43,_)] O O O O N ⟨O,O,T⟩ (fun g4_20=>zF O one9 O qA O) O<|f [(38,_),(44,_)] O O O O N ⟨O,O,O,O,T⟩ (fun g4_20=>det_sgeq O O O) O<|f [(31,_)] O O O O gv1 ⟨O,O,T⟩ (fun g4_17=>kZ O O O (fun h=>kD (by assumption) h) O) O<|M O O (zAu O O O O (fun h=>(lzf h)))<|kE<|H<|zD O (fun c2=>?_) (fun c2=>?_)
  ·refine F O<|A O<|H<|o<|X O ?_
   rw [hp,zLk hx,show tY l.L k x=true from c2];rfl
  ·refine zM<|zQ O<|A O<|qJ O ⟨by omega,by omega⟩<|A O<|H ?_
   refine ⟨k+1,⟨by omega,by rw [hp,zLk hx,show tY l.L k x=false from c2];rfl⟩,(by omega),Weak.mk [true] ⟨G,G,T⟩ O⟩
 ·try simp only [I] at c1
  refine qQ<|F O<|A O<|H<|o<|X O ?_
  rw [hp,monos_end (by omega)]
theorem lin_Var (s:ByteArray):
    Pur cfg 52 [vS s] (bZ (fL s)):=by
 refine zT Tryz.func52 O Tryz.ntmps52 Tryz.results52 O ?_
 intro z hz
 refine F O<|zV O O (qE [none,some 2] O v O) ?_
 rintro _ _ ⟨b1,rfl,rfl⟩
 refine H<|zK<|F O<|A O<|qI O ok104 (zGm _) ⟨G,O,T⟩<|kQ O<|H<|zD O (fun c1=>?_) (fun c1=>?_)
 ·try simp only [I] at c1
  refine F O<|qT [none,some 2] O v pl41<|Y 0 sz41 O<|H<|o<|fin1 (y yX O (R 0 O) O) ?_
  rw [fL,c1];rfl
 ·try simp only [I] at c1
  refine zM<|F O<|A O<|yP O zr69 pl69<|yV O P zr69<|yP O v pl41<|Y 0 sz41 O<|H<|o<|fin1 (y yX O (R 0 O) O) ?_
  rw [fL,c1];rfl
theorem zVo (k:Int):
    Pur cfg 56 [vI k] (bZ ⟨k,[]⟩):=by
 refine zT Tryz.func56 O Tryz.ntmps56 Tryz.results56 O ?_
 intro z hz
 refine F O<|zV O O (qE [none,some 2] O v O) ?_
 rintro _ _ ⟨b1,rfl,rfl⟩
 refine H<|F O<|A O<|qT [none,some 2] O v pl41<|Y 0 sz41 O<|H<|o<|fin1 (y yX O (R 0 O) O) ?_
 exact O
theorem zEu (s:ByteArray):
    Pur cfg 75 [vS s] (bZ (fL s)):=by
 refine zT Tryz.func75 O Tryz.ntmps75 Tryz.results75 O ?_
 intro z hz
 refine F O<|zV O O (qE [none,some 2] O v O) ?_
 rintro _ _ ⟨b1,rfl,rfl⟩
 refine H<|zK<|F O<|A O<|qI O ok60 (zEq _) ⟨G,O,T⟩<|kQ O<|H<|zD O (fun c1=>?_) (fun c1=>?_)
 ·try simp only [I] at c1
  refine F O<|qT [none,some 2] O v pl41<|Y 0 sz41 O<|H<|o<|fin1 (y yX O (R 0 O) O) ?_
  rw [fL,c1];rfl
 ·try simp only [I] at c1
  refine zM<|F O<|A O<|yP O zr69 pl69<|yV O P zr69<|yP O v pl41<|Y 0 sz41 O<|H<|o<|fin1 (y yX O (R 0 O) O) ?_
  rw [fL,c1];rfl
theorem base_Lin (a b:Lf) (ha:a.L.length<=6000000000000):
    Pur cfg 175 [bZ a,bZ b] (vB (decide (a=b))):=by
 refine zT Tryz.func175 O Tryz.ntmps175 Tryz.results175 O ?_
 intro z hz
 refine F O<|zV O O (qN O O) ?_
 rintro _ _ ⟨b1,rfl,rfl⟩
 refine zV O O (qN O O) ?_
 rintro _ _ ⟨b2,rfl,rfl⟩
 refine A O<|H<|zK<|F O<|zG O zDt<|zJ U (R 1 O) O<|zG O zDt<|zJ U (R 0 O) O<|yM O<|A O<|rL0 O (fun g1_5=>zE O kC O) O<|B 12 O (fun g1_5=>zF O wN O (R 1 O) O) O<|B 13 O (fun g1_5=>yB O P O) O<|rL0 O (fun g1_5=>zE O kC O) O<|B 15 O (fun g1_5=>zF O wN O (R 0 O) O) O<|B 16 O (fun g1_5=>yB O P O) O<|rLz [(14,_),(17,_)] O gv1 ⟨O,O,O,O,T⟩ (fun g1_5=>kN O O O) O<|r_or O (fun h=>(lzf h))<|H<|zD O (fun c1=>?_) (fun c1=>?_)
 ·try simp only [I] at c1
  refine F O<|A O<|H<|o<|X O ?_
  rw [yO (fun h=>by rw [h] at c1;simp at c1)]
 ·try simp only [I] at c1
  refine zM<|zK<|F O<|A O<|H<|zR<|zY ⟨[(5,.c _),(2,.c _),(3,.c _)],[_,_]⟩ (Weak.mk [true,true] ⟨G,G,G,T⟩ O)<|qK 1 0 O O (Nat) (fun k=>[(5,vI k)]) (fun k=>[]) (fun k=>k<=a.L.length/\(a.L.take k=b.L.take k)) (fun k=>a.L.length-k) ⟨0,⟨by omega,O⟩,Weak.mk [true,true] ⟨G,G,G,T⟩ O⟩ ?_
  rintro k ⟨hk,hp⟩
  refine zK<|F O<|A O<|zG O kC<|zJ wN (R 1 O) O<|qC O P<|yD O<|H<|zD O (fun c2=>?_) (fun c2=>?_)
  ·try simp only [I] at c2
   obtain ⟨x,hx⟩:=qY a.L k (by omega)
   obtain ⟨y,hy⟩:=qY b.L k (by omega)
   refine zM<|zK<|zR<|zK<|qZ 11 mixed (by kernel_rfl) O O<|M O O (zE O kC O)<|M O O (zF O wN O (R 1 O) O)<|M O O (zN O O)<|M O O (qF O P O O (by omega) (Q (by assumption)))<|M O O (qB O zPk O qA O)<|M O O (zE O kC O)<|M O O (zF O wN O (R 0 O) O)<|M O O (zN O O)<|M O O (qF O P O O (by omega) (Q (by assumption)))<|M O O (qB O zPk O qA O)<|M O O (zBk O fl69 O O O)<|kE<|H<|zD O (fun c3=>?_) (fun c3=>?_)
   ·have hne:=mono_ne c3
    refine F O<|A O<|H<|o<|X O ?_
    rw [yO (fun h=>zFq hx hy hne (by rw [h]))]
   ·have heq:=mono_eq c3
    refine zM<|zQ O<|A O<|qJ O ⟨by omega,by omega⟩<|A O<|H ?_
    refine ⟨k+1,⟨by omega,zBv hx hy hp heq⟩,(by omega),Weak.mk [true,true] ⟨G,G,G,T⟩ O⟩
  ·try simp only [I] at c2
   refine qQ<|F O<|A O<|H<|o<|X O ?_
   rw [wR (lin_mk (by omega) (zDz hp (by omega) (by omega)))]
theorem zUt (l:Lf) (s:ByteArray) (hl:l.L.length<=6000000000000):
    Pur cfg 74 [bZ l,vS s] (vI (bF l.L s)):=by
 refine zT Tryz.func74 O Tryz.ntmps74 Tryz.results74 O ?_
 intro z hz
 refine F O<|zV O O (qN O O) ?_
 rintro _ _ ⟨b1,rfl,rfl⟩
 refine A O<|H<|zK<|F O<|A O<|H<|zR<|zY ⟨[(5,.c _),(1,.c _),(2,.c _)],[_]⟩ (Weak.mk [true] ⟨G,G,G,T⟩ O)<|qK 1 0 O O (Nat) (fun k=>[(5,vI k)]) (fun k=>[]) (fun k=>k<=l.L.length/\(bF l.L s=bF (l.L.drop k) s)) (fun k=>l.L.length-k) ⟨0,⟨by omega,O⟩,Weak.mk [true] ⟨G,G,G,T⟩ O⟩ ?_
 rintro k ⟨hk,hp⟩
 refine zK<|F O<|A O<|zG O kC<|zJ wN (R 0 O) O<|qC O P<|yD O<|H<|zD O (fun c1=>?_) (fun c1=>?_)
 ·try simp only [I] at c1
  obtain ⟨x,hx⟩:=qY l.L k (by omega)
  refine zM<|zK<|zR<|F O<|zG O kC<|zJ wN (R 0 O) O<|A O<|qD O P (by omega) (Q (by assumption))<|qO O zAn<|zJ one9 qA O<|A O<|zU O (yR O O O)<|H<|zD O (fun c2=>?_) (fun c2=>?_)
  ·try simp only [I] at c2
   refine F O<|zG O kC<|zJ wN (R 0 O) O<|A O<|qD O P (by omega) (Q (by assumption))<|qO O zDn<|zJ U qA O<|A O<|H<|o<|X O ?_
   rw [hp,qR hx,bF,if_pos c2]
  ·try simp only [I] at c2
   refine zM<|zQ O<|A O<|qJ O ⟨by omega,by omega⟩<|A O<|H ?_
   refine ⟨k+1,⟨by omega,by rw [hp,qR hx,bF,if_neg c2]⟩,(by omega),Weak.mk [true] ⟨G,G,G,T⟩ O⟩
 ·try simp only [I] at c1
  refine qQ<|F O<|A O<|H<|o<|X O ?_
  rw [hp,yW (by omega)];rfl
theorem zMn (l:List Ix) (c:C) (p:Ix->Bool) (hl:l.length<=6000000000000) (hc:∀x,x∈l->FnPur cfg c [jE x] (vB (p x))):
    Pur cfg 295 [gM l,.c c] (vI (jR p l)):=by
 refine zT Tryz.func295 O Tryz.ntmps295 Tryz.results295 O ?_
 intro z hz
 refine F O<|A O<|H<|zK<|F O<|A O<|qC O d<|A O<|H<|zR<|zY ⟨[(8,.c _),(0,.c _),(1,.c _),(7,.c _)],[]⟩ (Weak.mk [] ⟨G,G,G,G,T⟩ O)<|qK 1 0 O O (Nat) (fun k=>[(8,vI k)]) (fun k=>[]) (fun k=>k<=l.length/\((l.take k).any p=false)) (fun k=>l.length-k) ⟨0,⟨by omega,O⟩,Weak.mk [] ⟨G,G,G,G,T⟩ O⟩ ?_
 rintro k ⟨hk,hp⟩
 refine F O<|yD O<|H<|zK<|zD O (fun c1=>?_) (fun c1=>?_)
 ·try simp only [I] at c1
  obtain ⟨x,hx⟩:=qY l k (by omega)
  refine zM<|zK<|zR<|F O<|A O<|A O<|H<|F O<|A O<|A O<|A O<|qD O d (by omega) (Q (by assumption))<|zP zIn qA O<|zU O (kV O O (hc _ (zZ hx)) ⟨G,O,T⟩)<|H<|zD O (fun c2=>?_) (fun c2=>?_)
  ·try simp only [I] at c2
   refine F O<|A O<|A O<|H<|o<|X O ?_
   rw [zSk hx c2 hp]
  ·try simp only [I] at c2
   refine zM<|zQ O<|qJ O ⟨by omega,by omega⟩<|A O<|H ?_
   refine ⟨k+1,⟨by omega,zTg hx hp c2⟩,(by omega),Weak.mk [] ⟨G,G,G,G,T⟩ O⟩
 ·try simp only [I] at c1
  refine qQ<|F O<|A O<|H<|o<|X O ?_
  rw [zLn (by rw [yU (by omega)] at hp;exact hp)]
theorem zBq (l:List Ix) (c:C) (p:Ix->Bool) (hl:l.length<=6000000000000) (hc:∀x,x∈l->FnPur cfg c [jE x] (vB (p x))):
    Pur cfg 271 [gM l,.c c] (vB (l.any p)):=by
 refine zT Tryz.func271 O Tryz.ntmps271 Tryz.results271 O ?_
 intro z hz
 refine F O<|A O<|H<|F O<|A O<|A O<|qI O ok295 (zMn l c p hl hc) ⟨G,O,G,O,T⟩<|zU O (wI O O O)<|A O<|H<|o<|X O ?_
 rw [zOp]
end Go.W
