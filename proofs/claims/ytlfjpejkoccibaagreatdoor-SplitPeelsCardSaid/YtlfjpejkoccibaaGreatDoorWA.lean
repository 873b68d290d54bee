/-
  Walks: what functions of the program compute. Printed by wip/gen/mk2.py.
  Conditions: none.
-/
import Derived.Test.YtlfjpejkoccibaaGreatDoorFacts
import Derived.Test.YtlfjpejkoccibaaGreatDoorPlain
set_option linter.unusedSimpArgs false
set_option linter.unusedVariables false
set_option maxRecDepth 10000
namespace Go.W
open Go Go.Eng Go.Proofs Go.L41 Go.Br
attribute [local irreducible] AWP RWP TD finQ
theorem kw_ascii:∀(j:Nat) (b:UInt8),(bs kwBytes).data.toList[j]? =some b->b.toNat<128:=by
  intro j b h
  have:(kwBytes.all fun c=>decide (c.toNat<128))=true:=by decide
  rw [List.all_eq_true] at this
  simpa using this b (List.mem_of_getElem? h)
theorem kw_fields:(Lib.fields kwBytes).map bs=words:=by decide+kernel
theorem nm1 {s:ByteArray} (h:Lz (!decide (s=bs [])&&decide ((s.size:Int)<=16)) true=true):¬s=bs []:=by
  simp only [Lz,cond_true,Bool.and_eq_true,Bool.not_eq_true',decide_eq_false_iff_not] at h
  exact h.1
theorem nm2 {s:ByteArray} {p:Bool} (h:Lz (!decide (s=bs [])&&decide ((s.size:Int)<=16)&&p) true=true):s.size<=1000000:=by
  simp only [Lz,cond_true,Bool.and_eq_true,decide_eq_true_eq] at h
  omega
theorem yK:aggT Tryz.prog 41=some 2:=by kernel_rfl
theorem zOd:aggT Tryz.prog 69=some 2:=by kernel_rfl
theorem zIb:aggT Tryz.prog 72=some 4:=by kernel_rfl
theorem d:elemT Tryz.prog 34=some (72,4,72):=by kernel_rfl
theorem N:elemT Tryz.prog 39=some (69,2,24):=by kernel_rfl
theorem zCl:elemT Tryz.prog 105=some (9,1,16):=by kernel_rfl
theorem zCg:fieldT Tryz.prog 41 0=some (0,2):=by kernel_rfl
theorem yT:fieldT Tryz.prog 41 1=some (1,39):=by kernel_rfl
theorem zAc:fieldT Tryz.prog 69 0=some (0,9):=by kernel_rfl
theorem zDd:fieldT Tryz.prog 69 1=some (1,2):=by kernel_rfl
theorem fl69:flatK Tryz.prog 69=some [.str,.int]:=by kernel_rfl
theorem ik21:intT Tryz.prog 21=some .i32:=by kernel_rfl
theorem mixed:Tryz.prog.follows .mixedOrders=true:=by kernel_rfl
theorem ok60:callOk Tryz.prog 60=true:=by kernel_rfl
theorem ok97:callOk Tryz.prog 97=true:=by kernel_rfl
theorem ok98:callOk Tryz.prog 98=true:=by kernel_rfl
theorem ok99:callOk Tryz.prog 99=true:=by kernel_rfl
theorem ok100:callOk Tryz.prog 100=true:=by kernel_rfl
theorem ok104:callOk Tryz.prog 104=true:=by kernel_rfl
theorem ok113:callOk Tryz.prog 113=true:=by kernel_rfl
theorem ok114:callOk Tryz.prog 114=true:=by kernel_rfl
theorem ok142:callOk Tryz.prog 142=true:=by kernel_rfl
theorem ok143:callOk Tryz.prog 143=true:=by kernel_rfl
theorem ok144:callOk Tryz.prog 144=true:=by kernel_rfl
theorem ok147:callOk Tryz.prog 147=true:=by kernel_rfl
theorem ok177:callOk Tryz.prog 177=true:=by kernel_rfl
theorem ok178:callOk Tryz.prog 178=true:=by kernel_rfl
theorem ok281:callOk Tryz.prog 281=true:=by kernel_rfl
theorem ok295:callOk Tryz.prog 295=true:=by kernel_rfl
theorem W:oneT Tryz.prog 2=true:=by kernel_rfl
theorem one9:oneT Tryz.prog 9=true:=by kernel_rfl
theorem wE:oneT Tryz.prog 39=true:=by kernel_rfl
theorem pl41:placesT Tryz.prog 41=some [(0,1),(1,1)]:=by kernel_rfl
theorem pl69:placesT Tryz.prog 69=some [(0,1),(1,1)]:=by kernel_rfl
theorem g:(Tryz.prog.info? 41).map (·.size)=some 2:=by kernel_rfl
theorem sz69:(Tryz.prog.info? 69).map (·.size)=some 2:=by kernel_rfl
theorem un9:Tryz.prog.underlying 9=some .string:=by kernel_rfl
theorem us5:(Tryz.prog.underlying 5).isSome=true:=by kernel_rfl
theorem zr9:zeroT Tryz.prog 9=some [(Value.string (ByteArray.mk #[]))]:=by kernel_rfl
theorem U:zeroT Tryz.prog 41=some [(Value.int IntKind.i64 0),(Value.slice none 0 0)]:=by kernel_rfl
theorem zr69:zeroT Tryz.prog 69=some [(Value.string (ByteArray.mk #[])),(Value.int IntKind.i64 0)]:=by kernel_rfl
theorem zPt (n:Int):
    Pur cfg 97 [vR n] (vB (letterI n)):=by
 refine zT Tryz.func97 O Tryz.ntmps97 Tryz.results97 O ?_
 intro z hz
 refine F O<|A O<|G<|F O<|A O<|zU O (wH O O O)<|A O<|rL0 O (fun g1_2=>w O O) O<|B 6 O (fun g1_2=>wX O O O) O<|yS O (fun h=>h)<|A O<|G<|o<|X O ?_
 exact O
theorem lexer_digit (n:Int):
    Pur cfg 142 [vR n] (vB (digitI n)):=by
 refine zT Tryz.func142 O Tryz.ntmps142 Tryz.results142 O ?_
 intro z hz
 refine F O<|A O<|G<|F O<|A O<|zU O (wH O O O)<|A O<|rL0 O (fun g1_2=>w O O) O<|B 6 O (fun g1_2=>wX O O O) O<|yS O (fun h=>h)<|A O<|G<|o<|X O ?_
 exact O
theorem lexer_inWord (n:Int):
    Pur cfg 99 [vR n] (vB (inWordI n)):=by
 refine zT Tryz.func99 O Tryz.ntmps99 Tryz.results99 O ?_
 intro z hz
 refine F O<|A O<|G<|F O<|A O<|qI O ok97 (zPt _) ⟨H,O,T⟩<|A O<|rL0 O (fun g1_2=>w O O) O<|B 6 O (fun g1_2=>qM O ok142 (lexer_digit _) ⟨H,O,T⟩) O<|r_or O (fun h=>(lzf h))<|A O<|rL0 O (fun g1_6=>w O O) O<|B 10 O (fun g1_6=>yL O O O) O<|r_or O (fun h=>(lzf h))<|A O<|G<|o<|X O ?_
 exact O
theorem zOz (s:ByteArray) (hs:s.size<=1000000):
    Pur cfg 98 [vS s,.c (.fn (.func 99) [] [])] (vI (spanB inWordB s.data.toList)):=by
 refine zT Tryz.func98 O Tryz.ntmps98 Tryz.results98 O ?_
 intro z hz
 refine F O<|A O<|G<|F O<|A O<|G<|zJ<|zR<|zY ⟨[(5,.c _),(0,.c _),(1,.c _)],[]⟩ (Weak.mk [] ⟨H,H,H,T⟩ O)<|qK 1 0 O O (Nat) (fun k=>[(5,vI k)]) (fun k=>[]) (fun k=>k<=s.size/\(s.data.toList.take k).all inWordB=true) (fun k=>s.size-k) ⟨0,⟨by omega,O⟩,Weak.mk [] ⟨H,H,H,T⟩ O⟩ ?_
 rintro k ⟨hk,hp⟩
 refine zJ<|F O<|A O<|A O<|zU O (zBi O un9 O)<|yD O<|A O<|rL0 O (fun g2_4=>w O O) O<|rL0 O (fun g2_4=>w O O) O<|rL0 O (fun g2_4=>w O O) O<|rLz [(12,_),(13,_)] O gv1 ⟨O,O,O,O,T⟩ (fun g2_4=>zDt O un9 O O (by omega) (by simp only [Lz,cond_true,decide_eq_true_eq] at g2_4;omega)) O<|B 14 O (fun g2_4=>kV O us5 ik21 O) O<|rLz [(11,_),(15,_)] O gv1 ⟨O,O,O,O,T⟩ (fun g2_4=>det_call_fn0 O O ok99 (lexer_inWord _) ⟨H,O,T⟩) O<|yS O (fun h=>h)<|G<|zD O (fun c1=>?_) (fun c1=>?_)
 ·try simp only [I] at c1
  obtain ⟨hlt,hcc⟩:=c1
  have hlt:k<s.size:=by omega
  rw [zLk] at hcc
  refine zK<|zR<|zQ O<|A O<|qJ O ⟨by omega,by omega⟩<|A O<|G ?_
  have hg:=zDy hlt
  refine ⟨k+1,⟨by omega,by rw [zOc hg,hp];exact hcc⟩,(by omega),Weak.mk [] ⟨H,H,H,T⟩ O⟩
 ·try simp only [I] at c1
  have hsp:spanB inWordB s.data.toList=k:=span_stop hp (by
    by_cases hlt:k<s.size
    · right;refine ⟨_,zDy hlt,?_⟩;rcases c1 with c1|c1;omega;rw [zLk] at c1;exact c1
    · left;simp;omega)
  refine qQ<|F O<|A O<|A O<|G<|o<|X O ?_
  rw [hsp]
theorem zQe (l:List ByteArray) (s:ByteArray) (hl:l.length<=1000000):
    Pur cfg 177 [vSs l,vS s] (vI (idxB l s)):=by
 refine zT Tryz.func177 O Tryz.ntmps177 Tryz.results177 O ?_
 intro z hz
 refine F O<|A O<|G<|zJ<|F O<|A O<|qC O zCl<|A O<|G<|zR<|zY ⟨[(8,.c _),(0,.c _),(1,.c _),(7,.c _)],[]⟩ (Weak.mk [] ⟨H,H,H,H,T⟩ O)<|qK 1 0 O O (Nat) (fun k=>[(8,vI k)]) (fun k=>[]) (fun k=>k<=l.length/\hasB (l.take k) s=false) (fun k=>l.length-k) ⟨0,⟨by omega,O⟩,Weak.mk [] ⟨H,H,H,H,T⟩ O⟩ ?_
 rintro k ⟨hk,hp⟩
 refine F O<|yD O<|G<|zJ<|zD O (fun c1=>?_) (fun c1=>?_)
 ·try simp only [I] at c1
  obtain ⟨t,ht⟩:=qV l k (by omega)
  refine zK<|zJ<|zR<|F O<|A O<|A O<|G<|F O<|A O<|A O<|A O<|qD O zCl (by omega) (Q ht)<|zM one9 qA O<|zU O (yV O O O)<|G<|zD O (fun c2=>?_) (fun c2=>?_)
  ·try simp only [I] at c2
   refine F O<|A O<|A O<|G<|o<|X O ?_
   rw [idxB_some ht c2 hp]
  ·try simp only [I] at c2
   refine zK<|zQ O<|qJ O ⟨by omega,by omega⟩<|A O<|G ?_
   refine ⟨k+1,⟨by omega,zPv ht hp (fun e=>c2 e.symm)⟩,(by omega),Weak.mk [] ⟨H,H,H,H,T⟩ O⟩
 ·try simp only [I] at c1
  refine qQ<|F O<|A O<|G<|o<|X O ?_
  rw [idxB_none (by rw [yO (by omega)] at hp;exact hp)]
theorem zCu (l:List ByteArray) (s:ByteArray) (hl:l.length<=1000000):
    Pur cfg 143 [vSs l,vS s] (vB (hasB l s)):=by
 refine zT Tryz.func143 O Tryz.ntmps143 Tryz.results143 O ?_
 intro z hz
 refine F O<|A O<|G<|F O<|A O<|A O<|qI O ok177 (zQe l s hl) ⟨H,O,H,O,T⟩<|zU O (wH O O O)<|A O<|G<|o<|X O ?_
 rw [idxB_has]
theorem lexer_keywords  :
    Pur cfg 144 [] (vSs words):=by
 refine zT Tryz.func144 O Tryz.ntmps144 Tryz.results144 O ?_
 intro z hz
 refine F O<|qZ 1 O<|G<|F O<|qI O ok178 (strings_Fields _ (by decide) kw_ascii) ⟨H,O,T⟩<|A O<|G<|o<|X O ?_
 exact congrArg vSs kw_fields
theorem zUf (s:ByteArray):
    Pur cfg 100 [vS s] (vB (hasB words s)):=by
 refine zT Tryz.func100 O Tryz.ntmps100 Tryz.results100 O ?_
 intro z hz
 refine F O<|A O<|G<|F O<|qI O ok144 (lexer_keywords) T<|A O<|qI O ok143 (zCu _ _ (by decide)) ⟨H,O,H,O,T⟩<|A O<|G<|o<|X O ?_
 exact O
theorem zBc (s:ByteArray):
    Pur cfg 49 [vS s] (vB (isNameB s)):=by
 refine zT Tryz.func49 O Tryz.ntmps49 Tryz.results49 O ?_
 intro z hz
 refine F O<|A O<|G<|F O<|A O<|zU O (zAp O O O)<|A O<|rL0 O (fun g1_2=>w O O) O<|B 6 O (fun g1_2=>zBi O un9 O) O<|B 7 O (fun g1_2=>wX O O O) O<|yS O (fun h=>h)<|A O<|rL0 O (fun g1_7=>w O O) O<|B 11 O (fun g1_7=>zDt O un9 O O (by decide) (size_pos (nm1 g1_7))) O<|B 12 O (fun g1_7=>kV O us5 ik21 O) O<|B 13 O (fun g1_7=>qM O ok97 (zPt _) ⟨H,O,T⟩) O<|yS O (fun h=>h)<|A O<|rL0 O (fun g1_13=>w O O) O<|B 17 O (fun g1_13=>qM O ok98 (zOz s (nm2 g1_13)) ⟨H,O,H,O,T⟩) O<|rL0 O (fun g1_13=>w O O) O<|B 19 O (fun g1_13=>zBi O un9 O) O<|rLz [(18,_),(20,_)] O gv1 ⟨O,O,O,O,T⟩ (fun g1_13=>yL O O O) O<|yS O (fun h=>h)<|A O<|rL0 O (fun g1_20=>w O O) O<|B 24 O (fun g1_20=>qM O ok100 (zUf _) ⟨H,O,T⟩) O<|B 25 O (fun g1_20=>kX O O) O<|yS O (fun h=>h)<|A O<|G<|o<|X O ?_
 exact congrArg vB (isName_eq s)
theorem base_Words  :
    Pur cfg 114 [] (vSs words):=by
 refine zT Tryz.func114 O Tryz.ntmps114 Tryz.results114 O ?_
 intro z hz
 refine F O<|qZ 1 O<|G<|F O<|yZ O zCl zr9<|A O<|G<|o<|X O ?_
 exact O
theorem zOb (l:List ByteArray) (s:ByteArray) (hl:l.length<=6000000000000):
    Pur cfg 113 [vSs l,vS s] (vB (hasB l s)):=by
 refine zT Tryz.func113 O Tryz.ntmps113 Tryz.results113 O ?_
 intro z hz
 refine F O<|A O<|G<|zJ<|F O<|A O<|G<|zR<|zY ⟨[(5,.c _),(0,.c _),(1,.c _)],[]⟩ (Weak.mk [] ⟨H,H,H,T⟩ O)<|qK 1 0 O O (Nat) (fun k=>[(5,vI k)]) (fun k=>[]) (fun k=>k<=l.length/\hasB (l.take k) s=false) (fun k=>l.length-k) ⟨0,⟨by omega,O⟩,Weak.mk [] ⟨H,H,H,T⟩ O⟩ ?_
 rintro k ⟨hk,hp⟩
 refine zJ<|F O<|A O<|A O<|qC O zCl<|yD O<|G<|zD O (fun c1=>?_) (fun c1=>?_)
 ·try simp only [I] at c1
  obtain ⟨t,ht⟩:=qV l k (by omega)
  refine zK<|zJ<|zR<|F O<|A O<|A O<|qD O zCl (by omega) (Q ht)<|zM one9 qA O<|A O<|zU O (yV O O O)<|G<|zD O (fun c2=>?_) (fun c2=>?_)
  ·try simp only [I] at c2
   refine F O<|A O<|G<|o<|X O ?_
   rw [kI ht c2]
  ·try simp only [I] at c2
   refine zK<|zQ O<|A O<|qJ O ⟨by omega,by omega⟩<|A O<|G ?_
   refine ⟨k+1,⟨by omega,zPv ht hp c2⟩,(by omega),Weak.mk [] ⟨H,H,H,T⟩ O⟩
 ·try simp only [I] at c1
  refine qQ<|F O<|A O<|G<|o<|X O ?_
  rw [show hasB l s=false by rw [yO (by omega)] at hp;exact hp]
theorem zEk (s:ByteArray):
    Pur cfg 60 [vS s] (vB (isNameB s)):=by
 refine zT Tryz.func60 O Tryz.ntmps60 Tryz.results60 O ?_
 intro z hz
 refine F O<|A O<|G<|zJ<|F O<|A O<|zU O (zBi O un9 O)<|yD O<|A O<|rL0 O (fun g1_3=>w O O) O<|B 9 O (fun g1_3=>zBi O un9 O) O<|B 10 O (fun g1_3=>yG O O O) O<|r_or O (fun h=>(lzf h))<|A O<|rL0 O (fun g1_8=>qM O ok114 (base_Words) T) O<|rL0 O (fun g1_8=>w O O) O<|rLz [(14,_),(15,_)] O gv1 ⟨O,O,O,O,T⟩ (fun g1_8=>qM O ok113 (zOb _ _ (by decide)) ⟨H,O,H,O,T⟩) O<|r_or O (fun h=>(lzf h))<|G<|zD O (fun c1=>?_) (fun c1=>?_)
 ·try simp only [I] at c1
  have hno:=name_short (s:=s) (by simpa using c1)
  refine F O<|A O<|G<|o<|X O ?_
  rw [hno]
 ·try simp only [I] at c1
  obtain ⟨⟨n1,n2⟩,n3⟩:=c1
  have n1:1<=s.size:=by omega
  have n2:s.size<=16:=by omega
  have hne:=name_end n1 n2 n3
  refine zK<|zJ<|F O<|A O<|G<|zR<|zY ⟨[(3,.c _),(0,.c _)],[]⟩ (Weak.mk [] ⟨H,H,T⟩ O)<|qK 1 0 O O (Nat) (fun k=>[(3,vI k)]) (fun k=>[]) (fun k=>k<=s.size/\okTo s k=true) (fun k=>s.size-k) ⟨0,⟨by omega,O⟩,Weak.mk [] ⟨H,H,T⟩ O⟩ ?_
  rintro k ⟨hk,hp⟩
  refine zJ<|F O<|A O<|A O<|zU O (zBi O un9 O)<|yD O<|G<|zD O (fun c2=>?_) (fun c2=>?_)
  ·try simp only [I] at c2
   have hlt:k<s.size:=by omega
   refine zK<|zJ<|zR<|F O<|A O<|A O<|zU O (zDt O un9 O O (by omega) (by omega))<|A O<|G<|F O<|A O<|zU O (wH O O O)<|A O<|rL0 O (fun g7_2=>w O O) O<|B 30 O (fun g7_2=>wX O O O) O<|yS O (fun h=>h)<|A O<|rL0 O (fun g7_6=>w O O) O<|B 34 O (fun g7_6=>yG O O O) O<|B 35 O (fun g7_6=>w O O) O<|rLz [] O P T (fun g7_9=>w O O) O<|rLz [(37,_)] O P ⟨O,O,T⟩ (fun g7_9=>wH O O O) O<|rLz [(38,_)] O P ⟨O,O,T⟩ (fun g7_9=>w O O) O<|rLz [] O P T (fun g7_12=>w O O) O<|rLz [(40,_)] O P ⟨O,O,T⟩ (fun g7_12=>wX O O O) O<|rLz [(39,_)] O P ⟨O,O,T⟩ (fun g7_9=>kU O O O (fun h=>kE (by assumption) h) O) O<|rLz [(42,_)] O P ⟨O,O,T⟩ (fun g7_9=>w O O) O<|rLz [] O P T (fun g7_16=>w O O) O<|rLz [(44,_)] O P ⟨O,O,T⟩ (fun g7_16=>yL O O O) O<|rLz [(43,_)] O P ⟨O,O,T⟩ (fun g7_9=>zAs O O O O (fun h=>kE (by assumption) (lzf h))) O<|B 36 O (fun g7_6=>kU O O O (fun h=>kE (by assumption) h) O) O<|r_or O (fun h=>(lzf h))<|kO O<|G<|zD O (fun c3=>?_) (fun c3=>?_)
   ·have hbad:okTo s (k+1)=false:=by rw [okTo_next,show nameOk k (s.data.toList.getD k 0)=false from (Bool.not_eq_true' _).mp c3];simp
    refine F O<|A O<|G<|o<|X O ?_
    rw [hne];cases ho:okTo s s.size;rfl;exact absurd (okTo_le (k:=k+1) (by omega) ho) (by rw [hbad];simp)
   ·have hgood:okTo s (k+1)=true:=by rw [okTo_next,hp,show nameOk k (s.data.toList.getD k 0)=true from (Bool.not_eq_false' _).mp c3];rfl
    refine zK<|zQ O<|A O<|qJ O ⟨by omega,by omega⟩<|A O<|G ?_
    refine ⟨k+1,⟨by omega,hgood⟩,(by omega),Weak.mk [] ⟨H,H,T⟩ O⟩
  ·try simp only [I] at c2
   refine qQ<|F O<|A O<|G<|o<|X O ?_
   rw [hne,show s.size=k by omega,hp]
theorem lin_reserved (s:ByteArray):
    Pur cfg 147 [vS s] (vB (hasB words s)):=by
 refine zT Tryz.func147 O Tryz.ntmps147 Tryz.results147 O ?_
 intro z hz
 refine F O<|A O<|G<|zJ<|F O<|A O<|G<|zR<|zJ<|F O<|zU O (yV O O O)<|A O<|G<|zD O (fun c1=>?_) (fun c1=>?_)
 ·try simp only [I] at c1
  refine zK<|zD O (fun c22=>?_) (fun c22=>?_)
  ·try simp only [I] at c22
   refine F O<|A O<|G<|o<|X O ?_
   rw [kI (l:=words) (k:=0) rfl c1.symm]
  ·try simp only [I] at c22
   refine zK<|F O<|A O<|G<|o<|X O ?_
   exact absurd c1 c22
 ·try simp only [I] at c1
  refine F O<|zU O (yV O O O)<|A O<|G<|zD O (fun c2=>?_) (fun c2=>?_)
  ·try simp only [I] at c2
   refine zK<|zD O (fun c22=>?_) (fun c22=>?_)
   ·try simp only [I] at c22
    refine F O<|A O<|G<|o<|X O ?_
    rw [kI (l:=words) (k:=1) rfl c2.symm]
   ·try simp only [I] at c22
    refine zK<|F O<|A O<|G<|o<|X O ?_
    exact absurd c2 c22
  ·try simp only [I] at c2
   refine F O<|zU O (yV O O O)<|A O<|G<|zD O (fun c3=>?_) (fun c3=>?_)
   ·try simp only [I] at c3
    refine zK<|zD O (fun c22=>?_) (fun c22=>?_)
    ·try simp only [I] at c22
     refine F O<|A O<|G<|o<|X O ?_
     rw [kI (l:=words) (k:=2) rfl c3.symm]
    ·try simp only [I] at c22
     refine zK<|F O<|A O<|G<|o<|X O ?_
     exact absurd c3 c22
   ·try simp only [I] at c3
    refine F O<|zU O (yV O O O)<|A O<|G<|zD O (fun c4=>?_) (fun c4=>?_)
    ·try simp only [I] at c4
     refine zK<|zD O (fun c22=>?_) (fun c22=>?_)
     ·try simp only [I] at c22
      refine F O<|A O<|G<|o<|X O ?_
      rw [kI (l:=words) (k:=3) rfl c4.symm]
     ·try simp only [I] at c22
      refine zK<|F O<|A O<|G<|o<|X O ?_
      exact absurd c4 c22
    ·try simp only [I] at c4
     refine F O<|zU O (yV O O O)<|A O<|G<|zD O (fun c5=>?_) (fun c5=>?_)
     ·try simp only [I] at c5
      refine zK<|zD O (fun c22=>?_) (fun c22=>?_)
      ·try simp only [I] at c22
       refine F O<|A O<|G<|o<|X O ?_
       rw [kI (l:=words) (k:=4) rfl c5.symm]
      ·try simp only [I] at c22
       refine zK<|F O<|A O<|G<|o<|X O ?_
       exact absurd c5 c22
     ·try simp only [I] at c5
      refine F O<|zU O (yV O O O)<|A O<|G<|zD O (fun c6=>?_) (fun c6=>?_)
      ·try simp only [I] at c6
       refine zK<|zD O (fun c22=>?_) (fun c22=>?_)
       ·try simp only [I] at c22
        refine F O<|A O<|G<|o<|X O ?_
        rw [kI (l:=words) (k:=5) rfl c6.symm]
       ·try simp only [I] at c22
        refine zK<|F O<|A O<|G<|o<|X O ?_
        exact absurd c6 c22
      ·try simp only [I] at c6
       refine F O<|zU O (yV O O O)<|A O<|G<|zD O (fun c7=>?_) (fun c7=>?_)
       ·try simp only [I] at c7
        refine zK<|zD O (fun c22=>?_) (fun c22=>?_)
        ·try simp only [I] at c22
         refine F O<|A O<|G<|o<|X O ?_
         rw [kI (l:=words) (k:=6) rfl c7.symm]
        ·try simp only [I] at c22
         refine zK<|F O<|A O<|G<|o<|X O ?_
         exact absurd c7 c22
       ·try simp only [I] at c7
        refine F O<|zU O (yV O O O)<|A O<|G<|zD O (fun c8=>?_) (fun c8=>?_)
        ·try simp only [I] at c8
         refine zK<|zD O (fun c22=>?_) (fun c22=>?_)
         ·try simp only [I] at c22
          refine F O<|A O<|G<|o<|X O ?_
          rw [kI (l:=words) (k:=7) rfl c8.symm]
         ·try simp only [I] at c22
          refine zK<|F O<|A O<|G<|o<|X O ?_
          exact absurd c8 c22
        ·try simp only [I] at c8
         refine F O<|zU O (yV O O O)<|A O<|G<|zD O (fun c9=>?_) (fun c9=>?_)
         ·try simp only [I] at c9
          refine zK<|zD O (fun c22=>?_) (fun c22=>?_)
          ·try simp only [I] at c22
           refine F O<|A O<|G<|o<|X O ?_
           rw [kI (l:=words) (k:=8) rfl c9.symm]
          ·try simp only [I] at c22
           refine zK<|F O<|A O<|G<|o<|X O ?_
           exact absurd c9 c22
         ·try simp only [I] at c9
          refine F O<|zU O (yV O O O)<|A O<|G<|zD O (fun c10=>?_) (fun c10=>?_)
          ·try simp only [I] at c10
           refine zK<|zD O (fun c22=>?_) (fun c22=>?_)
           ·try simp only [I] at c22
            refine F O<|A O<|G<|o<|X O ?_
            rw [kI (l:=words) (k:=9) rfl c10.symm]
           ·try simp only [I] at c22
            refine zK<|F O<|A O<|G<|o<|X O ?_
            exact absurd c10 c22
          ·try simp only [I] at c10
           refine F O<|zU O (yV O O O)<|A O<|G<|zD O (fun c11=>?_) (fun c11=>?_)
           ·try simp only [I] at c11
            refine zK<|zD O (fun c22=>?_) (fun c22=>?_)
            ·try simp only [I] at c22
             refine F O<|A O<|G<|o<|X O ?_
             rw [kI (l:=words) (k:=10) rfl c11.symm]
            ·try simp only [I] at c22
             refine zK<|F O<|A O<|G<|o<|X O ?_
             exact absurd c11 c22
           ·try simp only [I] at c11
            refine F O<|zU O (yV O O O)<|A O<|G<|zD O (fun c12=>?_) (fun c12=>?_)
            ·try simp only [I] at c12
             refine zK<|zD O (fun c22=>?_) (fun c22=>?_)
             ·try simp only [I] at c22
              refine F O<|A O<|G<|o<|X O ?_
              rw [kI (l:=words) (k:=11) rfl c12.symm]
             ·try simp only [I] at c22
              refine zK<|F O<|A O<|G<|o<|X O ?_
              exact absurd c12 c22
            ·try simp only [I] at c12
             refine F O<|zU O (yV O O O)<|A O<|G<|zD O (fun c13=>?_) (fun c13=>?_)
             ·try simp only [I] at c13
              refine zK<|zD O (fun c22=>?_) (fun c22=>?_)
              ·try simp only [I] at c22
               refine F O<|A O<|G<|o<|X O ?_
               rw [kI (l:=words) (k:=12) rfl c13.symm]
              ·try simp only [I] at c22
               refine zK<|F O<|A O<|G<|o<|X O ?_
               exact absurd c13 c22
             ·try simp only [I] at c13
              refine F O<|zU O (yV O O O)<|A O<|G<|zD O (fun c14=>?_) (fun c14=>?_)
              ·try simp only [I] at c14
               refine zK<|zD O (fun c22=>?_) (fun c22=>?_)
               ·try simp only [I] at c22
                refine F O<|A O<|G<|o<|X O ?_
                rw [kI (l:=words) (k:=13) rfl c14.symm]
               ·try simp only [I] at c22
                refine zK<|F O<|A O<|G<|o<|X O ?_
                exact absurd c14 c22
              ·try simp only [I] at c14
               refine F O<|zU O (yV O O O)<|A O<|G<|zD O (fun c15=>?_) (fun c15=>?_)
               ·try simp only [I] at c15
                refine zK<|zD O (fun c22=>?_) (fun c22=>?_)
                ·try simp only [I] at c22
                 refine F O<|A O<|G<|o<|X O ?_
                 rw [kI (l:=words) (k:=14) rfl c15.symm]
                ·try simp only [I] at c22
                 refine zK<|F O<|A O<|G<|o<|X O ?_
                 exact absurd c15 c22
               ·try simp only [I] at c15
                refine F O<|zU O (yV O O O)<|A O<|G<|zD O (fun c16=>?_) (fun c16=>?_)
                ·try simp only [I] at c16
                 refine zK<|zD O (fun c22=>?_) (fun c22=>?_)
                 ·try simp only [I] at c22
                  refine F O<|A O<|G<|o<|X O ?_
                  rw [kI (l:=words) (k:=15) rfl c16.symm]
                 ·try simp only [I] at c22
                  refine zK<|F O<|A O<|G<|o<|X O ?_
                  exact absurd c16 c22
                ·try simp only [I] at c16
                 refine F O<|zU O (yV O O O)<|A O<|G<|zD O (fun c17=>?_) (fun c17=>?_)
                 ·try simp only [I] at c17
                  refine zK<|zD O (fun c22=>?_) (fun c22=>?_)
                  ·try simp only [I] at c22
                   refine F O<|A O<|G<|o<|X O ?_
                   rw [kI (l:=words) (k:=16) rfl c17.symm]
                  ·try simp only [I] at c22
                   refine zK<|F O<|A O<|G<|o<|X O ?_
                   exact absurd c17 c22
                 ·try simp only [I] at c17
                  refine F O<|zU O (yV O O O)<|A O<|G<|zD O (fun c18=>?_) (fun c18=>?_)
                  ·try simp only [I] at c18
                   refine zK<|zD O (fun c22=>?_) (fun c22=>?_)
                   ·try simp only [I] at c22
                    refine F O<|A O<|G<|o<|X O ?_
                    rw [kI (l:=words) (k:=17) rfl c18.symm]
                   ·try simp only [I] at c22
                    refine zK<|F O<|A O<|G<|o<|X O ?_
                    exact absurd c18 c22
                  ·try simp only [I] at c18
                   refine F O<|zU O (yV O O O)<|A O<|G<|zD O (fun c19=>?_) (fun c19=>?_)
                   ·try simp only [I] at c19
                    refine zK<|zD O (fun c22=>?_) (fun c22=>?_)
                    ·try simp only [I] at c22
                     refine F O<|A O<|G<|o<|X O ?_
                     rw [kI (l:=words) (k:=18) rfl c19.symm]
                    ·try simp only [I] at c22
                     refine zK<|F O<|A O<|G<|o<|X O ?_
                     exact absurd c19 c22
                   ·try simp only [I] at c19
                    refine F O<|zU O (yV O O O)<|A O<|G<|zD O (fun c20=>?_) (fun c20=>?_)
                    ·try simp only [I] at c20
                     refine zK<|zD O (fun c22=>?_) (fun c22=>?_)
                     ·try simp only [I] at c22
                      refine F O<|A O<|G<|o<|X O ?_
                      rw [kI (l:=words) (k:=19) rfl c20.symm]
                     ·try simp only [I] at c22
                      refine zK<|F O<|A O<|G<|o<|X O ?_
                      exact absurd c20 c22
                    ·try simp only [I] at c20
                     refine F O<|zU O (yV O O O)<|A O<|G<|zD O (fun c21=>?_) (fun c21=>?_)
                     ·try simp only [I] at c21
                      refine zK<|zD O (fun c22=>?_) (fun c22=>?_)
                      ·try simp only [I] at c22
                       refine F O<|A O<|G<|o<|X O ?_
                       rw [kI (l:=words) (k:=20) rfl c21.symm]
                      ·try simp only [I] at c22
                       refine zK<|F O<|A O<|G<|o<|X O ?_
                       exact absurd c21 c22
                     ·try simp only [I] at c21
                      refine zQ O<|zU O (yV O O O)<|A O<|G<|zD O (fun c22=>?_) (fun c22=>?_)
                      ·try simp only [I] at c22
                       refine F O<|A O<|G<|o<|X O ?_
                       rw [kI (l:=words) (k:=21) rfl c22.symm]
                      ·try simp only [I] at c22
                       refine zK<|F O<|A O<|G<|o<|X O ?_
                       rw [show hasB words s=false by
                         simp only [hasB,words,List.any_cons,List.any_nil,Bool.or_eq_false_iff,decide_eq_false_iff_not]
                         exact ⟨fun h=>c1 h.symm,fun h=>c2 h.symm,fun h=>c3 h.symm,fun h=>c4 h.symm,fun h=>c5 h.symm,fun h=>c6 h.symm,fun h=>c7 h.symm,fun h=>c8 h.symm,fun h=>c9 h.symm,fun h=>c10 h.symm,fun h=>c11 h.symm,fun h=>c12 h.symm,fun h=>c13 h.symm,fun h=>c14 h.symm,fun h=>c15 h.symm,fun h=>c16 h.symm,fun h=>c17 h.symm,fun h=>c18 h.symm,fun h=>c19 h.symm,fun h=>c20 h.symm,fun h=>c21 h.symm,fun h=>c22 h.symm,T⟩]
theorem zGe (s:ByteArray):
    Pur cfg 104 [vS s] (vB (isNameB s)):=by
 refine zT Tryz.func104 O Tryz.ntmps104 Tryz.results104 O ?_
 intro z hz
 refine F O<|A O<|G<|zJ<|F O<|A O<|zU O (zBi O un9 O)<|yD O<|A O<|rL0 O (fun g1_3=>w O O) O<|B 9 O (fun g1_3=>zBi O un9 O) O<|B 10 O (fun g1_3=>yG O O O) O<|r_or O (fun h=>(lzf h))<|A O<|rL0 O (fun g1_8=>w O O) O<|B 14 O (fun g1_8=>qM O ok147 (lin_reserved _) ⟨H,O,T⟩) O<|r_or O (fun h=>(lzf h))<|A O<|rL0 O (fun g1_12=>w O O) O<|B 18 O (fun g1_12=>zDt O un9 O O (by decide) (by simp only [Lz,cond_true,cond_false,Bool.and_eq_true,Bool.or_eq_true,Bool.not_eq_true',Bool.not_eq_false',Bool.or_eq_false_iff,Bool.and_eq_false_iff,decide_eq_true_eq,decide_eq_false_iff_not,Bool.not_eq_true,Bool.not_eq_false] at g1_12;omega)) O<|B 19 O (fun g1_12=>zBa O O O) O<|r_or O (fun h=>(lzf h))<|A O<|rL0 O (fun g1_17=>w O O) O<|B 23 O (fun g1_17=>zDt O un9 O O (by decide) (by simp only [Lz,cond_true,cond_false,Bool.and_eq_true,Bool.or_eq_true,Bool.not_eq_true',Bool.not_eq_false',Bool.or_eq_false_iff,Bool.and_eq_false_iff,decide_eq_true_eq,decide_eq_false_iff_not,Bool.not_eq_true,Bool.not_eq_false] at g1_17;omega)) O<|B 24 O (fun g1_17=>yG O O O) O<|r_or O (fun h=>(lzf h))<|G<|zD O (fun c1=>?_) (fun c1=>?_)
 ·have hno:=ident_no c1
  refine F O<|A O<|G<|o<|X O ?_
  rw [hno]
 ·obtain ⟨n1,n2,hne⟩:=ident_yes c1
  refine zK<|zJ<|F O<|A O<|zU O (zBi O un9 O)<|A O<|G<|zR<|zY ⟨[(29,.c _),(0,.c _),(28,.c _)],[]⟩ (Weak.mk [] ⟨H,H,H,T⟩ O)<|qK 1 0 O O (Nat) (fun k=>[(29,vI k)]) (fun k=>[]) (fun k=>k<=s.size/\(s.data.toList.take k).all inWordB=true) (fun k=>s.size-k) ⟨0,⟨by omega,O⟩,Weak.mk [] ⟨H,H,H,T⟩ O⟩ ?_
  rintro k ⟨hk,hp⟩
  refine F O<|yD O<|G<|zJ<|zD O (fun c2=>?_) (fun c2=>?_)
  ·try simp only [I] at c2
   have hlt:k<s.size:=by omega
   refine zK<|zJ<|zR<|F O<|A O<|A O<|G<|F O<|A O<|A O<|zU O (zDt O un9 O O (by omega) (by omega))<|A O<|G<|F O<|A O<|yD O<|A O<|rL0 O (fun g7_2=>w O O) O<|B 38 O (fun g7_2=>yG O O O) O<|r_or O (fun h=>(lzf h))<|A O<|rL0 O (fun g7_6=>w O O) O<|B 42 O (fun g7_6=>zBa O O O) O<|B 43 O (fun g7_6=>w O O) O<|rLz [] O P T (fun g7_9=>w O O) O<|rLz [(45,_)] O P ⟨O,O,T⟩ (fun g7_9=>yG O O O) O<|B 44 O (fun g7_6=>zAs O O O O (fun h=>kE (by assumption) (lzf h))) O<|yS O (fun h=>h)<|A O<|rL0 O (fun g7_14=>w O O) O<|B 50 O (fun g7_14=>kR O O O) O<|yS O (fun h=>h)<|G<|zD O (fun c3=>?_) (fun c3=>?_)
   ·have hbad:=word_no hlt c3
    refine F O<|A O<|G<|o<|X O ?_
    rw [hne,hbad]
   ·have hgood:=word_yes hlt hp c3
    refine zK<|zQ O<|qJ O ⟨by omega,by omega⟩<|A O<|G ?_
    refine ⟨k+1,⟨by omega,hgood⟩,(by omega),Weak.mk [] ⟨H,H,H,T⟩ O⟩
  ·try simp only [I] at c2
   refine qQ<|F O<|A O<|G<|o<|X O ?_
   rw [hne,word_all hp (by omega)]
theorem zDc (l:Lf) (hl:l.L.length<=6000000000000):
    Pur cfg 102 [vLin l] (vI (linErr l)):=by
 refine zT Tryz.func102 O Tryz.ntmps102 Tryz.results102 O ?_
 intro z hz
 refine F O<|zX O O (qN O O) ?_
 rintro _ _ ⟨b1,rfl,rfl⟩
 refine A O<|G<|zJ<|F O<|zH O yT<|zM wE (R 0 O) O<|qC O N<|A O<|G<|zR<|zY ⟨[(8,.c _),(1,.c _),(6,.c _),(7,.c _)],[_]⟩ (Weak.mk [true] ⟨H,H,H,H,T⟩ O)<|qK 1 0 O O (Nat) (fun k=>[(8,vI k)]) (fun k=>[]) (fun k=>k<=l.L.length/\(linOk l=monosOk (prevOf l.L k) (l.L.drop k))) (fun k=>l.L.length-k) ⟨0,⟨by omega,O⟩,Weak.mk [true] ⟨H,H,H,H,T⟩ O⟩ ?_
 rintro k ⟨hk,hp⟩
 refine F O<|yD O<|G<|zJ<|zD O (fun c1=>?_) (fun c1=>?_)
 ·try simp only [I] at c1
  obtain ⟨x,hx⟩:=qV l.L k (by omega)
  refine zK<|zJ<|zR<|F O<|A O<|qD O N (by omega) (Q (by assumption))<|zP zOd qA O<|zX O O (yX O zr69) ?_
  rintro _ _ ⟨b2,rfl,rfl⟩
  refine A O<|Y 0 sz69 O<|G<|zJ<|qY 25 mixed (by kernel_rfl) O O<|M O O (zE O zAc O)<|M O O (zF O one9 O (R 0 O) O)<|M O O (qM O ok104 (zGe _) ⟨H,O,T⟩)<|M O O (kX O O)<|M O O (w O O)<|f [] O O O O gv1 T (fun g4_4=>zE O zDd O) O<|f [(18,_)] O O O O gv1 ⟨O,O,T⟩ (fun g4_4=>zF O W O (R 0 O) O) O<|f [(19,_)] O O O O gv1 ⟨O,O,T⟩ (fun g4_4=>yL O O O) O<|M O O (zAs O O O O (fun h=>(lzf h)))<|M O O (w O O)<|f [] O O O O gv1 T (fun g4_9=>w O O) O<|f [(23,_)] O O O O gv1 ⟨O,O,T⟩ (fun g4_9=>yG O O O) O<|f [(24,_)] O O O O gv1 ⟨O,O,T⟩ (fun g4_9=>w O O) O<|f [] O O O O P T (fun g4_12=>zE O yT O) O<|f [(26,_)] O O O O P ⟨O,O,T⟩ (fun g4_12=>zF O wE O (R 1 O) O) O<|f [] O O O O P T (fun g4_12=>w O O) O<|f [(28,_)] O O O O P ⟨O,O,T⟩ (fun g4_12=>yB O O O ⟨by omega,by omega⟩) O<|f [(27,_),(29,_)] O O O O P ⟨O,O,O,O,T⟩ (fun g4_12=>qG O N O O (by simp only [Lz,cond_true,cond_false,Bool.and_eq_true,Bool.or_eq_true,Bool.not_eq_true',Bool.not_eq_false',Bool.or_eq_false_iff,Bool.and_eq_false_iff,decide_eq_true_eq,decide_eq_false_iff_not,Bool.not_eq_true,Bool.not_eq_false] at g4_12;omega) (pv_get (by simp only [Lz,cond_true,cond_false,Bool.and_eq_true,Bool.or_eq_true,Bool.not_eq_true',Bool.not_eq_false',Bool.or_eq_false_iff,Bool.and_eq_false_iff,decide_eq_true_eq,decide_eq_false_iff_not,Bool.not_eq_true,Bool.not_eq_false] at g4_12;omega) (by omega))) O<|f [(30,_)] O O O O P ⟨O,O,T⟩ (fun g4_12=>qL O zAc O) O<|f [(31,_)] O O O O P ⟨O,O,T⟩ (fun g4_12=>zF O one9 O qA O) O<|f [] O O O O P T (fun g4_12=>zE O zAc O) O<|f [(33,_)] O O O O P ⟨O,O,T⟩ (fun g4_12=>zF O one9 O (R 0 O) O) O<|f [(32,_),(34,_)] O O O O P ⟨O,O,O,O,T⟩ (fun g4_12=>det_sgeq O O O) O<|f [(25,_)] O O O O gv1 ⟨O,O,T⟩ (fun g4_9=>kU O O O (fun h=>kE (by assumption) h) O) O<|M O O (zAs O O O O (fun h=>(lzf h)))<|kD<|G<|zD O (fun c2=>?_) (fun c2=>?_)
  ·refine F O<|A O<|G<|o<|X O ?_
   rw [linErr,hp,zKm hx,show badM l.L k x=true from c2];rfl
  ·refine zK<|zQ O<|qJ O ⟨by omega,by omega⟩<|A O<|G ?_
   refine ⟨k+1,⟨by omega,by rw [hp,zKm hx,show badM l.L k x=false from c2];rfl⟩,(by omega),Weak.mk [false,true] ⟨H,H,H,H,T⟩ O⟩
 ·try simp only [I] at c1
  refine qQ<|F O<|A O<|G<|o<|X O ?_
  rw [linErr,hp,monos_end (by omega)];rfl
theorem zCe (l:Lf) (hl:l.L.length<=6000000000000):
    Pur cfg 183 [vLin l] (vB (linOk l)):=by
 refine zT Tryz.func183 O Tryz.ntmps183 Tryz.results183 O ?_
 intro z hz
 refine F O<|zX O O (qN O O) ?_
 rintro _ _ ⟨b1,rfl,rfl⟩
 refine A O<|G<|zJ<|F O<|A O<|G<|zR<|zY ⟨[(3,.c _),(1,.c _)],[_]⟩ (Weak.mk [true] ⟨H,H,T⟩ O)<|qK 1 0 O O (Nat) (fun k=>[(3,vI k)]) (fun k=>[]) (fun k=>k<=l.L.length/\(linOk l=monosOk (prevOf l.L k) (l.L.drop k))) (fun k=>l.L.length-k) ⟨0,⟨by omega,O⟩,Weak.mk [true] ⟨H,H,T⟩ O⟩ ?_
 rintro k ⟨hk,hp⟩
 refine zJ<|F O<|A O<|zH O yT<|zM wE (R 0 O) O<|qC O N<|yD O<|G<|zD O (fun c1=>?_) (fun c1=>?_)
 ·try simp only [I] at c1
  obtain ⟨x,hx⟩:=qV l.L k (by omega)
  refine zK<|zJ<|zR<|zJ<|qY 37 mixed (by kernel_rfl) O O<|M O O (zE O yT O)<|M O O (zF O wE O (R 0 O) O)<|M O O (w O O)<|M O O (qG O N O O (by omega) (Q (by assumption)))<|M O O (qL O zAc O)<|M O O (zF O one9 O qA O)<|M O O (qM O ok60 (zEk _) ⟨H,O,T⟩)<|M O O (kX O O)<|M O O (w O O)<|f [] O O O O gv1 T (fun g4_8=>zE O yT O) O<|f [(20,_)] O O O O gv1 ⟨O,O,T⟩ (fun g4_8=>zF O wE O (R 0 O) O) O<|f [] O O O O gv1 T (fun g4_8=>w O O) O<|f [(21,_),(22,_)] O O O O gv1 ⟨O,O,O,O,T⟩ (fun g4_8=>qG O N O O (by omega) (Q (by assumption))) O<|f [(23,_)] O O O O gv1 ⟨O,O,T⟩ (fun g4_8=>qL O zDd O) O<|f [(24,_)] O O O O gv1 ⟨O,O,T⟩ (fun g4_8=>zF O W O qA O) O<|f [(25,_)] O O O O gv1 ⟨O,O,T⟩ (fun g4_8=>yL O O O) O<|M O O (zAs O O O O (fun h=>(lzf h)))<|M O O (w O O)<|f [] O O O O gv1 T (fun g4_17=>w O O) O<|f [(29,_)] O O O O gv1 ⟨O,O,T⟩ (fun g4_17=>yG O O O) O<|f [(30,_)] O O O O gv1 ⟨O,O,T⟩ (fun g4_17=>w O O) O<|f [] O O O O P T (fun g4_20=>zE O yT O) O<|f [(32,_)] O O O O P ⟨O,O,T⟩ (fun g4_20=>zF O wE O (R 0 O) O) O<|f [] O O O O P T (fun g4_20=>w O O) O<|f [(34,_)] O O O O P ⟨O,O,T⟩ (fun g4_20=>yB O O O ⟨by omega,by omega⟩) O<|f [(33,_),(35,_)] O O O O P ⟨O,O,O,O,T⟩ (fun g4_20=>qG O N O O (by simp only [Lz,cond_true,cond_false,Bool.and_eq_true,Bool.or_eq_true,Bool.not_eq_true',Bool.not_eq_false',Bool.or_eq_false_iff,Bool.and_eq_false_iff,decide_eq_true_eq,decide_eq_false_iff_not,Bool.not_eq_true,Bool.not_eq_false] at g4_20;omega) (pv_get (by simp only [Lz,cond_true,cond_false,Bool.and_eq_true,Bool.or_eq_true,Bool.not_eq_true',Bool.not_eq_false',Bool.or_eq_false_iff,Bool.and_eq_false_iff,decide_eq_true_eq,decide_eq_false_iff_not,Bool.not_eq_true,Bool.not_eq_false] at g4_20;omega) (by omega))) O<|f [(36,_)] O O O O P ⟨O,O,T⟩ (fun g4_20=>qL O zAc O) O<|f [(37,_)] O O O O P ⟨O,O,T⟩ (fun g4_20=>zF O one9 O qA O) O<|f [] O O O O P T (fun g4_20=>zE O yT O) O<|f [(39,_)] O O O O P ⟨O,O,T⟩ (fun g4_20=>zF O wE O (R 0 O) O) O<|f [] O O O O P T (fun g4_20=>w O O) O<|f [(40,_),(41,_)] O O O O P ⟨O,O,O,O,T⟩ (fun g4_20=>qG O N O O (by omega) (Q (by assumption))) O<|f [(42,_)] O O O O P ⟨O,O,T⟩ (fun g4_20=>qL O zAc O) O<|f [(43,_)] O O O O P ⟨O,O,T⟩ (fun g4_20=>zF O one9 O qA O) O<|f [(38,_),(44,_)] O O O O P ⟨O,O,O,O,T⟩ (fun g4_20=>det_sgeq O O O) O<|f [(31,_)] O O O O gv1 ⟨O,O,T⟩ (fun g4_17=>kU O O O (fun h=>kE (by assumption) h) O) O<|M O O (zAs O O O O (fun h=>(lzf h)))<|kD<|G<|zD O (fun c2=>?_) (fun c2=>?_)
  ·refine F O<|A O<|G<|o<|X O ?_
   rw [hp,zKm hx,show badM l.L k x=true from c2];rfl
  ·refine zK<|zQ O<|A O<|qJ O ⟨by omega,by omega⟩<|A O<|G ?_
   refine ⟨k+1,⟨by omega,by rw [hp,zKm hx,show badM l.L k x=false from c2];rfl⟩,(by omega),Weak.mk [true] ⟨H,H,T⟩ O⟩
 ·try simp only [I] at c1
  refine qQ<|F O<|A O<|G<|o<|X O ?_
  rw [hp,monos_end (by omega)]
theorem lin_Var (s:ByteArray):
    Pur cfg 52 [vS s] (vLin (varL s)):=by
 refine zT Tryz.func52 O Tryz.ntmps52 Tryz.results52 O ?_
 intro z hz
 refine F O<|zX O O (qE [none,some 2] O U O) ?_
 rintro _ _ ⟨b1,rfl,rfl⟩
 refine G<|zJ<|F O<|A O<|qI O ok104 (zGe _) ⟨H,O,T⟩<|kO O<|G<|zD O (fun c1=>?_) (fun c1=>?_)
 ·try simp only [I] at c1
  refine F O<|qT [none,some 2] O U pl41<|Y 0 g O<|G<|o<|fin1 (zV yK O (R 0 O) O) ?_
  rw [varL,c1];rfl
 ·try simp only [I] at c1
  refine zK<|F O<|A O<|yP O zr69 pl69<|yZ O N zr69<|yP O U pl41<|Y 0 g O<|G<|o<|fin1 (zV yK O (R 0 O) O) ?_
  rw [varL,c1];rfl
theorem zUe (k:Int):
    Pur cfg 56 [vI k] (vLin ⟨k,[]⟩):=by
 refine zT Tryz.func56 O Tryz.ntmps56 Tryz.results56 O ?_
 intro z hz
 refine F O<|zX O O (qE [none,some 2] O U O) ?_
 rintro _ _ ⟨b1,rfl,rfl⟩
 refine G<|F O<|A O<|qT [none,some 2] O U pl41<|Y 0 g O<|G<|o<|fin1 (zV yK O (R 0 O) O) ?_
 exact O
theorem zBm (s:ByteArray):
    Pur cfg 75 [vS s] (vLin (varL s)):=by
 refine zT Tryz.func75 O Tryz.ntmps75 Tryz.results75 O ?_
 intro z hz
 refine F O<|zX O O (qE [none,some 2] O U O) ?_
 rintro _ _ ⟨b1,rfl,rfl⟩
 refine G<|zJ<|F O<|A O<|qI O ok60 (zEk _) ⟨H,O,T⟩<|kO O<|G<|zD O (fun c1=>?_) (fun c1=>?_)
 ·try simp only [I] at c1
  refine F O<|qT [none,some 2] O U pl41<|Y 0 g O<|G<|o<|fin1 (zV yK O (R 0 O) O) ?_
  rw [varL,c1];rfl
 ·try simp only [I] at c1
  refine zK<|F O<|A O<|yP O zr69 pl69<|yZ O N zr69<|yP O U pl41<|Y 0 g O<|G<|o<|fin1 (zV yK O (R 0 O) O) ?_
  rw [varL,c1];rfl
theorem base_Lin (a b:Lf) (ha:a.L.length<=6000000000000):
    Pur cfg 175 [vLin a,vLin b] (vB (decide (a=b))):=by
 refine zT Tryz.func175 O Tryz.ntmps175 Tryz.results175 O ?_
 intro z hz
 refine F O<|zX O O (qN O O) ?_
 rintro _ _ ⟨b1,rfl,rfl⟩
 refine zX O O (qN O O) ?_
 rintro _ _ ⟨b2,rfl,rfl⟩
 refine A O<|G<|zJ<|F O<|zH O zCg<|zM W (R 1 O) O<|zH O zCg<|zM W (R 0 O) O<|yN O<|A O<|rL0 O (fun g1_5=>zE O yT O) O<|B 12 O (fun g1_5=>zF O wE O (R 1 O) O) O<|B 13 O (fun g1_5=>yC O N O) O<|rL0 O (fun g1_5=>zE O yT O) O<|B 15 O (fun g1_5=>zF O wE O (R 0 O) O) O<|B 16 O (fun g1_5=>yC O N O) O<|rLz [(14,_),(17,_)] O gv1 ⟨O,O,O,O,T⟩ (fun g1_5=>kR O O O) O<|r_or O (fun h=>(lzf h))<|G<|zD O (fun c1=>?_) (fun c1=>?_)
 ·try simp only [I] at c1
  refine F O<|A O<|G<|o<|X O ?_
  rw [yQ (fun h=>by rw [h] at c1;simp at c1)]
 ·try simp only [I] at c1
  refine zK<|zJ<|F O<|A O<|G<|zR<|zY ⟨[(5,.c _),(2,.c _),(3,.c _)],[_,_]⟩ (Weak.mk [true,true] ⟨H,H,H,T⟩ O)<|qK 1 0 O O (Nat) (fun k=>[(5,vI k)]) (fun k=>[]) (fun k=>k<=a.L.length/\(a.L.take k=b.L.take k)) (fun k=>a.L.length-k) ⟨0,⟨by omega,O⟩,Weak.mk [true,true] ⟨H,H,H,T⟩ O⟩ ?_
  rintro k ⟨hk,hp⟩
  refine zJ<|F O<|A O<|zH O yT<|zM wE (R 1 O) O<|qC O N<|yD O<|G<|zD O (fun c2=>?_) (fun c2=>?_)
  ·try simp only [I] at c2
   obtain ⟨x,hx⟩:=qV a.L k (by omega)
   obtain ⟨y,hy⟩:=qV b.L k (by omega)
   refine zK<|zJ<|zR<|zJ<|qY 11 mixed (by kernel_rfl) O O<|M O O (zE O yT O)<|M O O (zF O wE O (R 1 O) O)<|M O O (w O O)<|M O O (qG O N O O (by omega) (Q (by assumption)))<|M O O (zZ O zOd O qA O)<|M O O (zE O yT O)<|M O O (zF O wE O (R 0 O) O)<|M O O (w O O)<|M O O (qG O N O O (by omega) (Q (by assumption)))<|M O O (zZ O zOd O qA O)<|M O O (zBj O fl69 O O O)<|kD<|G<|zD O (fun c3=>?_) (fun c3=>?_)
   ·have hne:=mono_ne c3
    refine F O<|A O<|G<|o<|X O ?_
    rw [yQ (fun h=>zFf hx hy hne (by rw [h]))]
   ·have heq:=mono_eq c3
    refine zK<|zQ O<|A O<|qJ O ⟨by omega,by omega⟩<|A O<|G ?_
    refine ⟨k+1,⟨by omega,zBq hx hy hp heq⟩,(by omega),Weak.mk [true,true] ⟨H,H,H,T⟩ O⟩
  ·try simp only [I] at c2
   refine qQ<|F O<|A O<|G<|o<|X O ?_
   rw [wR (lin_mk (by omega) (zDs hp (by omega) (by omega)))]
theorem zTj (l:Lf) (s:ByteArray) (hl:l.L.length<=6000000000000):
    Pur cfg 74 [vLin l,vS s] (vI (coeffL l.L s)):=by
 refine zT Tryz.func74 O Tryz.ntmps74 Tryz.results74 O ?_
 intro z hz
 refine F O<|zX O O (qN O O) ?_
 rintro _ _ ⟨b1,rfl,rfl⟩
 refine A O<|G<|zJ<|F O<|A O<|G<|zR<|zY ⟨[(5,.c _),(1,.c _),(2,.c _)],[_]⟩ (Weak.mk [true] ⟨H,H,H,T⟩ O)<|qK 1 0 O O (Nat) (fun k=>[(5,vI k)]) (fun k=>[]) (fun k=>k<=l.L.length/\(coeffL l.L s=coeffL (l.L.drop k) s)) (fun k=>l.L.length-k) ⟨0,⟨by omega,O⟩,Weak.mk [true] ⟨H,H,H,T⟩ O⟩ ?_
 rintro k ⟨hk,hp⟩
 refine zJ<|F O<|A O<|zH O yT<|zM wE (R 0 O) O<|qC O N<|yD O<|G<|zD O (fun c1=>?_) (fun c1=>?_)
 ·try simp only [I] at c1
  obtain ⟨x,hx⟩:=qV l.L k (by omega)
  refine zK<|zJ<|zR<|F O<|zH O yT<|zM wE (R 0 O) O<|A O<|qD O N (by omega) (Q (by assumption))<|qP O zAc<|zM one9 qA O<|A O<|zU O (yV O O O)<|G<|zD O (fun c2=>?_) (fun c2=>?_)
  ·try simp only [I] at c2
   refine F O<|zH O yT<|zM wE (R 0 O) O<|A O<|qD O N (by omega) (Q (by assumption))<|qP O zDd<|zM W qA O<|A O<|G<|o<|X O ?_
   rw [hp,qR hx,coeffL,if_pos c2]
  ·try simp only [I] at c2
   refine zK<|zQ O<|A O<|qJ O ⟨by omega,by omega⟩<|A O<|G ?_
   refine ⟨k+1,⟨by omega,by rw [hp,qR hx,coeffL,if_neg c2]⟩,(by omega),Weak.mk [true] ⟨H,H,H,T⟩ O⟩
 ·try simp only [I] at c1
  refine qQ<|F O<|A O<|G<|o<|X O ?_
  rw [hp,kA (by omega)];rfl
theorem zLn (l:List Ix) (c:C) (p:Ix->Bool) (hl:l.length<=6000000000000) (hc:∀x,x∈l->FnPur cfg c [vIndex x] (vB (p x))):
    Pur cfg 295 [vIndices l,.c c] (vI (idxOf p l)):=by
 refine zT Tryz.func295 O Tryz.ntmps295 Tryz.results295 O ?_
 intro z hz
 refine F O<|A O<|G<|zJ<|F O<|A O<|qC O d<|A O<|G<|zR<|zY ⟨[(8,.c _),(0,.c _),(1,.c _),(7,.c _)],[]⟩ (Weak.mk [] ⟨H,H,H,H,T⟩ O)<|qK 1 0 O O (Nat) (fun k=>[(8,vI k)]) (fun k=>[]) (fun k=>k<=l.length/\((l.take k).any p=false)) (fun k=>l.length-k) ⟨0,⟨by omega,O⟩,Weak.mk [] ⟨H,H,H,H,T⟩ O⟩ ?_
 rintro k ⟨hk,hp⟩
 refine F O<|yD O<|G<|zJ<|zD O (fun c1=>?_) (fun c1=>?_)
 ·try simp only [I] at c1
  obtain ⟨x,hx⟩:=qV l k (by omega)
  refine zK<|zJ<|zR<|F O<|A O<|A O<|G<|F O<|A O<|A O<|A O<|qD O d (by omega) (Q (by assumption))<|zP zIb qA O<|zU O (kW O O (hc _ (qB hx)) ⟨H,O,T⟩)<|G<|zD O (fun c2=>?_) (fun c2=>?_)
  ·try simp only [I] at c2
   refine F O<|A O<|A O<|G<|o<|X O ?_
   rw [zRj hx c2 hp]
  ·try simp only [I] at c2
   refine zK<|zQ O<|qJ O ⟨by omega,by omega⟩<|A O<|G ?_
   refine ⟨k+1,⟨by omega,zSa hx hp c2⟩,(by omega),Weak.mk [] ⟨H,H,H,H,T⟩ O⟩
 ·try simp only [I] at c1
  refine qQ<|F O<|A O<|G<|o<|X O ?_
  rw [zKp (by rw [yO (by omega)] at hp;exact hp)]
theorem zBo (l:List Ix) (c:C) (p:Ix->Bool) (hl:l.length<=6000000000000) (hc:∀x,x∈l->FnPur cfg c [vIndex x] (vB (p x))):
    Pur cfg 271 [vIndices l,.c c] (vB (l.any p)):=by
 refine zT Tryz.func271 O Tryz.ntmps271 Tryz.results271 O ?_
 intro z hz
 refine F O<|A O<|G<|F O<|A O<|A O<|qI O ok295 (zLn l c p hl hc) ⟨H,O,H,O,T⟩<|zU O (wH O O O)<|A O<|G<|o<|X O ?_
 rw [zNk]
end Go.W
