/-
  What functions compute.
  Conditions: none.
-/
import Derived.Test.YtdldhbfgfkebjaaGreatDoorFacts
import Derived.Test.YtdldhbfgfkebjaaGreatDoorPlain
set_option linter.unusedSimpArgs false
set_option linter.unusedVariables false
set_option maxRecDepth 10000
namespace Go.W
open Go Go.Eng Go.Proofs Go.L41 Go.Br
attribute [local irreducible] AWP RWP TD fY
theorem kw_ascii:∀(j:Nat) (b:UInt8),(bs kwBytes).data.toList[j]? =some b->b.toNat<128:=by
  intro j b h
  have:(kwBytes.all fun c=>decide (c.toNat<128))=true:=by decide
  rw [List.all_eq_true] at this
  simpa using this b (List.mem_of_getElem? h)
theorem kw_fields:(Lib.fields kwBytes).map bs=dM:=by decide+kernel
theorem nm1 {s:ByteArray} (h:Lz (!decide (s=bs [])&&decide ((s.size:Int)<=16)) true=true):¬s=bs []:=by
  simp only [Lz,cond_true,Bool.and_eq_true,Bool.not_eq_true',decide_eq_false_iff_not] at h
  exact h.1
theorem nm2 {s:ByteArray} {p:Bool} (h:Lz (!decide (s=bs [])&&decide ((s.size:Int)<=16)&&p) true=true):s.size<=1000000:=by
  simp only [Lz,cond_true,Bool.and_eq_true,decide_eq_true_eq] at h
  omega
theorem zDc:lI Tryz.prog 153=some 4:=by kernel_rfl
theorem zKf:lI Tryz.prog 205=some 2:=by kernel_rfl
theorem el51:fA Tryz.prog 51=some (153,4,72):=by kernel_rfl
theorem el52:fA Tryz.prog 52=some (205,2,24):=by kernel_rfl
theorem el78:fA Tryz.prog 78=some (9,1,16):=by kernel_rfl
theorem zKb:bD Tryz.prog 54 0=some (0,2):=by kernel_rfl
theorem zAy:bD Tryz.prog 54 1=some (1,52):=by kernel_rfl
theorem zDl:bD Tryz.prog 205 0=some (0,9):=by kernel_rfl
theorem zKw:bD Tryz.prog 205 1=some (1,2):=by kernel_rfl
theorem fl205:rO Tryz.prog 205=some [.str,.int]:=by kernel_rfl
theorem ik21:tO Tryz.prog 21=some .i32:=by kernel_rfl
theorem mixed:Tryz.prog.follows .mixedOrders=true:=by kernel_rfl
theorem ok94:bA Tryz.prog 94=true:=by kernel_rfl
theorem ok120:bA Tryz.prog 120=true:=by kernel_rfl
theorem ok137:bA Tryz.prog 137=true:=by kernel_rfl
theorem ok138:bA Tryz.prog 138=true:=by kernel_rfl
theorem ok139:bA Tryz.prog 139=true:=by kernel_rfl
theorem ok140:bA Tryz.prog 140=true:=by kernel_rfl
theorem ok156:bA Tryz.prog 156=true:=by kernel_rfl
theorem ok164:bA Tryz.prog 164=true:=by kernel_rfl
theorem ok165:bA Tryz.prog 165=true:=by kernel_rfl
theorem ok166:bA Tryz.prog 166=true:=by kernel_rfl
theorem ok180:bA Tryz.prog 180=true:=by kernel_rfl
theorem ok182:bA Tryz.prog 182=true:=by kernel_rfl
theorem ok191:bA Tryz.prog 191=true:=by kernel_rfl
theorem ok283:bA Tryz.prog 283=true:=by kernel_rfl
theorem ok296:bA Tryz.prog 296=true:=by kernel_rfl
theorem ok299:bA Tryz.prog 299=true:=by kernel_rfl
theorem W:jQ Tryz.prog 2=true:=by kernel_rfl
theorem one9:jQ Tryz.prog 9=true:=by kernel_rfl
theorem zDz:jQ Tryz.prog 52=true:=by kernel_rfl
theorem sz205:(Tryz.prog.info? 205).map (·.size)=some 2:=by kernel_rfl
theorem un9:Tryz.prog.underlying 9=some .string:=by kernel_rfl
theorem us5:(Tryz.prog.underlying 5).isSome=true:=by kernel_rfl
theorem zr9:dS Tryz.prog 9=some [(Value.string (ByteArray.mk #[]))]:=by kernel_rfl
theorem zr205:dS Tryz.prog 205=some [(Value.string (ByteArray.mk #[])),(Value.int IntKind.i64 0)]:=by kernel_rfl
theorem zOr (n:Int):
    Pur cfg 137 [vR n] (vB (mA n)):=by
 refine zU Tryz.func137 O Tryz.ntmps137 Tryz.results137 O ?_
 exact o8
theorem lexer_digit (n:Int):
    Pur cfg 164 [vR n] (vB (sS n)):=by
 refine zU Tryz.func164 O Tryz.ntmps164 Tryz.results164 O ?_
 exact o8
theorem lexer_inWord (n:Int):
    Pur cfg 139 [vR n] (vB (pH n)):=by
 refine zU Tryz.func139 O Tryz.ntmps139 Tryz.results139 O ?_
 intro z hz
 refine R O<|G O<|zA<|R O<|G O<|qN O ok137 (zOr _) ⟨zB,O,T⟩<|G O<|rL0 O (fun g1_2=>zN O O) O<|A 6 O (fun g1_2=>qS O ok164 (lexer_digit _) ⟨zB,O,T⟩) O<|r_or O (fun h=>(lzf h))<|G O<|rL0 O (fun g1_6=>zN O O) O<|A 10 O (fun g1_6=>yO O O O) O<|r_or O (fun h=>(lzf h))<|G O<|zA<|zK<|zR O ?_
 exact O
theorem zNt (s:ByteArray) (hs:s.size<=1000000):
    Pur cfg 138 [vS s,.c (.fn (.func 139) [] [])] (vI (rF gA s.data.toList)):=by
 refine zU Tryz.func138 O Tryz.ntmps138 Tryz.results138 O ?_
 intro z hz
 refine R O<|G O<|zA<|R O<|G O<|zA<|zI<|zP<|zT ⟨[(5,.c _),(0,.c _),(1,.c _)],[]⟩ (Weak.mk [] ⟨zB,zB,zB,T⟩ O)<|qG 1 0 O O (Nat) (fun k=>[(5,vI k)]) (fun k=>[]) (fun k=>k<=s.size/\(s.data.toList.take k).all gA=true) (fun k=>s.size-k) ⟨0,⟨by omega,O⟩,Weak.mk [] ⟨zB,zB,zB,T⟩ O⟩ ?_
 rintro k ⟨hk,hp⟩
 refine zI<|R O<|G O<|G O<|zW O (zAw O un9 O)<|yB O<|G O<|rL0 O (fun g2_4=>zN O O) O<|rL0 O (fun g2_4=>zN O O) O<|rL0 O (fun g2_4=>zN O O) O<|rLz [(12,_),(13,_)] O J ⟨O,O,O,O,T⟩ (fun g2_4=>zDm O un9 O O (by omega) (by simp only [Lz,cond_true,decide_eq_true_eq] at g2_4;omega)) O<|A 14 O (fun g2_4=>zFf O us5 ik21 O) O<|rLz [(11,_),(15,_)] O J ⟨O,O,O,O,T⟩ (fun g2_4=>det_call_fn0 O O ok139 (lexer_inWord _) ⟨zB,O,T⟩) O<|yK O (fun h=>h)<|zA<|zC O (fun c1=>?_) (fun c1=>?_)
 ·try simp only [sx] at c1
  obtain ⟨hlt,hcc⟩:=c1
  have hlt:k<s.size:=by omega
  rw [zKg] at hcc
  refine zJ<|zP<|zM O<|G O<|qB O ⟨by omega,by omega⟩<|G O<|zA ?_
  have hg:=zDr hlt
  refine ⟨k+1,⟨by omega,by rw [zNd hg,hp];exact hcc⟩,(by omega),Weak.mk [] ⟨zB,zB,zB,T⟩ O⟩
 ·try simp only [sx] at c1
  have hsp:rF gA s.data.toList=k:=span_stop hp (by
    by_cases hlt:k<s.size
    · right;refine ⟨_,zDr hlt,?_⟩;rcases c1 with c1|c1;omega;rw [zKg] at c1;exact c1
    · left;simp;omega)
  refine qH<|R O<|G O<|G O<|zA<|zK<|zR O ?_
  rw [hsp]
theorem zHc (l:List ByteArray) (s:ByteArray) (hl:l.length<=6000000000000):
    Pur cfg 182 [vSs l,vS s] (vI (pV l s)):=by
 refine zU Tryz.func182 O Tryz.ntmps182 Tryz.results182 O ?_
 intro z hz
 refine R O<|G O<|zA<|zI<|R O<|G O<|zZ O el78<|G O<|zA<|zP<|zT ⟨[(8,.c _),(0,.c _),(1,.c _),(7,.c _)],[]⟩ (Weak.mk [] ⟨zB,zB,zB,zB,T⟩ O)<|qG 1 0 O O (Nat) (fun k=>[(8,vI k)]) (fun k=>[]) (fun k=>k<=l.length/\bS (l.take k) s=false) (fun k=>l.length-k) ⟨0,⟨by omega,O⟩,Weak.mk [] ⟨zB,zB,zB,zB,T⟩ O⟩ ?_
 rintro k ⟨hk,hp⟩
 refine R O<|yB O<|zA<|zI<|zC O (fun c1=>?_) (fun c1=>?_)
 ·try simp only [sx] at c1
  obtain ⟨t,ht⟩:=qU l k (by omega)
  refine zJ<|zI<|zP<|R O<|G O<|G O<|zA<|R O<|G O<|G O<|G O<|qD O el78 (by omega) (B ht)<|zH one9 zQ O<|zW O (kE O O O)<|zA<|zC O (fun c2=>?_) (fun c2=>?_)
  ·try simp only [sx] at c2
   refine R O<|G O<|G O<|zA<|zK<|zR O ?_
   rw [idxB_some ht c2 hp]
  ·try simp only [sx] at c2
   refine zJ<|zM O<|qB O ⟨by omega,by omega⟩<|G O<|zA ?_
   refine ⟨k+1,⟨by omega,zOt ht hp (fun e=>c2 e.symm)⟩,(by omega),Weak.mk [] ⟨zB,zB,zB,zB,T⟩ O⟩
 ·try simp only [sx] at c1
  refine qH<|R O<|G O<|zA<|zK<|zR O ?_
  rw [idxB_none (by rw [yA (by omega)] at hp;exact hp)]
theorem zCj (l:List ByteArray) (s:ByteArray) (hl:l.length<=6000000000000):
    Pur cfg 165 [vSs l,vS s] (vB (bS l s)):=by
 refine zU Tryz.func165 O Tryz.ntmps165 Tryz.results165 O ?_
 intro z hz
 refine R O<|G O<|zA<|R O<|G O<|G O<|qN O ok182 (zHc l s hl) ⟨zB,O,zB,O,T⟩<|zW O (kN O O O)<|G O<|zA<|zK<|zR O ?_
 rw [idxB_has]
theorem lexer_keywords  :
    Pur cfg 166 [] (vSs dM):=by
 refine zU Tryz.func166 O Tryz.ntmps166 Tryz.results166 O ?_
 intro z hz
 refine R O<|zW O (yX 1 O O)<|zA<|R O<|qN O ok191 (strings_Fields _ (by decide) kw_ascii) ⟨zB,O,T⟩<|G O<|zA<|zK<|zR O ?_
 exact congrArg vSs kw_fields
theorem zSh (s:ByteArray):
    Pur cfg 140 [vS s] (vB (bS dM s)):=by
 refine zU Tryz.func140 O Tryz.ntmps140 Tryz.results140 O ?_
 intro z hz
 refine R O<|G O<|zA<|R O<|qN O ok166 (lexer_keywords) T<|G O<|qN O ok165 (zCj _ _ (by decide)) ⟨zB,O,zB,O,T⟩<|G O<|zA<|zK<|zR O ?_
 exact O
theorem zDt (s:ByteArray):
    Pur cfg 96 [vS s] (vB (bO s)):=by
 refine zU Tryz.func96 O Tryz.ntmps96 Tryz.results96 O ?_
 intro z hz
 refine R O<|G O<|zA<|R O<|G O<|zW O (zAl O O O)<|G O<|rL0 O (fun g1_2=>zN O O) O<|A 6 O (fun g1_2=>zAw O un9 O) O<|A 7 O (fun g1_2=>kQ O O O) O<|yK O (fun h=>h)<|G O<|rL0 O (fun g1_7=>zN O O) O<|A 11 O (fun g1_7=>zDm O un9 O O (by decide) (size_pos (nm1 g1_7))) O<|A 12 O (fun g1_7=>zFf O us5 ik21 O) O<|A 13 O (fun g1_7=>qS O ok137 (zOr _) ⟨zB,O,T⟩) O<|yK O (fun h=>h)<|G O<|rL0 O (fun g1_13=>zN O O) O<|A 17 O (fun g1_13=>qS O ok138 (zNt s (nm2 g1_13)) ⟨zB,O,zB,O,T⟩) O<|rL0 O (fun g1_13=>zN O O) O<|A 19 O (fun g1_13=>zAw O un9 O) O<|rLz [(18,_),(20,_)] O J ⟨O,O,O,O,T⟩ (fun g1_13=>yO O O O) O<|yK O (fun h=>h)<|G O<|rL0 O (fun g1_20=>zN O O) O<|A 24 O (fun g1_20=>qS O ok140 (zSh _) ⟨zB,O,T⟩) O<|A 25 O (fun g1_20=>wA O O) O<|yK O (fun h=>h)<|G O<|zA<|zK<|zR O ?_
 exact congrArg vB (isName_eq s)
theorem base_Words  :
    Pur cfg 156 [] (vSs dM):=by
 refine zU Tryz.func156 O Tryz.ntmps156 Tryz.results156 O ?_
 intro z hz
 refine R O<|zW O (yX 1 O O)<|zA<|R O<|zW O (yM O el78 zr9 O O O O)<|G O<|zA<|zK<|zR O ?_
 exact O
theorem zQo (l:List ByteArray) (s:ByteArray) (hl:l.length<=6000000000000):
    Pur cfg 94 [vSs l,vS s] (vB (bS l s)):=by
 refine zU Tryz.func94 O Tryz.ntmps94 Tryz.results94 O ?_
 intro z hz
 refine R O<|G O<|zA<|zI<|R O<|G O<|zA<|zP<|zT ⟨[(5,.c _),(0,.c _),(1,.c _)],[]⟩ (Weak.mk [] ⟨zB,zB,zB,T⟩ O)<|qG 1 0 O O (Nat) (fun k=>[(5,vI k)]) (fun k=>[]) (fun k=>k<=l.length/\bS (l.take k) s=false) (fun k=>l.length-k) ⟨0,⟨by omega,O⟩,Weak.mk [] ⟨zB,zB,zB,T⟩ O⟩ ?_
 rintro k ⟨hk,hp⟩
 refine zI<|R O<|G O<|G O<|zZ O el78<|yB O<|zA<|zC O (fun c1=>?_) (fun c1=>?_)
 ·try simp only [sx] at c1
  obtain ⟨t,ht⟩:=qU l k (by omega)
  refine zJ<|zI<|zP<|R O<|G O<|G O<|qD O el78 (by omega) (B ht)<|zH one9 zQ O<|G O<|zW O (kE O O O)<|zA<|zC O (fun c2=>?_) (fun c2=>?_)
  ·try simp only [sx] at c2
   refine R O<|G O<|zA<|zK<|zR O ?_
   rw [kF ht c2]
  ·try simp only [sx] at c2
   refine zJ<|zM O<|G O<|qB O ⟨by omega,by omega⟩<|G O<|zA ?_
   refine ⟨k+1,⟨by omega,zOt ht hp c2⟩,(by omega),Weak.mk [] ⟨zB,zB,zB,T⟩ O⟩
 ·try simp only [sx] at c1
  refine qH<|R O<|G O<|zA<|zK<|zR O ?_
  rw [show bS l s=false by rw [yA (by omega)] at hp;exact hp]
theorem zIy (s:ByteArray):
    Pur cfg 120 [vS s] (vB (bO s)):=by
 refine zU Tryz.func120 O Tryz.ntmps120 Tryz.results120 O ?_
 intro z hz
 refine R O<|G O<|zA<|zI<|R O<|G O<|zW O (zAw O un9 O)<|yB O<|G O<|rL0 O (fun g1_3=>zN O O) O<|A 9 O (fun g1_3=>zAw O un9 O) O<|A 10 O (fun g1_3=>yG O O O) O<|r_or O (fun h=>(lzf h))<|G O<|rL0 O (fun g1_8=>qS O ok156 (base_Words) T) O<|rL0 O (fun g1_8=>zN O O) O<|rLz [(14,_),(15,_)] O J ⟨O,O,O,O,T⟩ (fun g1_8=>qS O ok94 (zQo _ _ (by decide)) ⟨zB,O,zB,O,T⟩) O<|r_or O (fun h=>(lzf h))<|zA<|zC O (fun c1=>?_) (fun c1=>?_)
 ·try simp only [sx] at c1
  have hno:=name_short (s:=s) (by simpa using c1)
  refine R O<|G O<|zA<|zK<|zR O ?_
  rw [hno]
 ·try simp only [sx] at c1
  obtain ⟨⟨n1,n2⟩,n3⟩:=c1
  have n1:1<=s.size:=by omega
  have n2:s.size<=16:=by omega
  have hne:=name_end n1 n2 n3
  refine zJ<|zI<|R O<|G O<|zA<|zP<|zT ⟨[(3,.c _),(0,.c _)],[]⟩ (Weak.mk [] ⟨zB,zB,T⟩ O)<|qG 1 0 O O (Nat) (fun k=>[(3,vI k)]) (fun k=>[]) (fun k=>k<=s.size/\pT s k=true) (fun k=>s.size-k) ⟨0,⟨by omega,O⟩,Weak.mk [] ⟨zB,zB,T⟩ O⟩ ?_
  rintro k ⟨hk,hp⟩
  refine zI<|R O<|G O<|G O<|zW O (zAw O un9 O)<|yB O<|zA<|zC O (fun c2=>?_) (fun c2=>?_)
  ·try simp only [sx] at c2
   have hlt:k<s.size:=by omega
   refine zJ<|zI<|zP<|R O<|G O<|G O<|zW O (zDm O un9 O O (by omega) (by omega))<|G O<|zA<|R O<|G O<|zW O (kN O O O)<|G O<|rL0 O (fun g7_2=>zN O O) O<|A 30 O (fun g7_2=>kQ O O O) O<|yK O (fun h=>h)<|G O<|rL0 O (fun g7_6=>zN O O) O<|A 34 O (fun g7_6=>yG O O O) O<|A 35 O (fun g7_6=>zN O O) O<|rLz [] O N T (fun g7_9=>zN O O) O<|rLz [(37,_)] O N ⟨O,O,T⟩ (fun g7_9=>kN O O O) O<|rLz [(38,_)] O N ⟨O,O,T⟩ (fun g7_9=>zN O O) O<|rLz [] O N T (fun g7_12=>zN O O) O<|rLz [(40,_)] O N ⟨O,O,T⟩ (fun g7_12=>kQ O O O) O<|rLz [(39,_)] O N ⟨O,O,T⟩ (fun g7_9=>wU O O O (fun h=>kH (by assumption) h) O) O<|rLz [(42,_)] O N ⟨O,O,T⟩ (fun g7_9=>zN O O) O<|rLz [] O N T (fun g7_16=>zN O O) O<|rLz [(44,_)] O N ⟨O,O,T⟩ (fun g7_16=>yO O O O) O<|rLz [(43,_)] O N ⟨O,O,T⟩ (fun g7_9=>zAz O O O O (fun h=>kH (by assumption) (lzf h))) O<|A 36 O (fun g7_6=>wU O O O (fun h=>kH (by assumption) h) O) O<|r_or O (fun h=>(lzf h))<|kP O<|zA<|zC O (fun c3=>?_) (fun c3=>?_)
   ·have hbad:pT s (k+1)=false:=by rw [okTo_next,show nT k (s.data.toList.getD k 0)=false from (Bool.not_eq_true' _).mp c3];simp
    refine R O<|G O<|zA<|zK<|zR O ?_
    rw [hne];cases ho:pT s s.size;rfl;exact absurd (okTo_le (k:=k+1) (by omega) ho) (by rw [hbad];simp)
   ·have hgood:pT s (k+1)=true:=by rw [okTo_next,hp,show nT k (s.data.toList.getD k 0)=true from (Bool.not_eq_false' _).mp c3];rfl
    refine zJ<|zM O<|G O<|qB O ⟨by omega,by omega⟩<|G O<|zA ?_
    refine ⟨k+1,⟨by omega,hgood⟩,(by omega),Weak.mk [] ⟨zB,zB,T⟩ O⟩
  ·try simp only [sx] at c2
   refine qH<|R O<|G O<|zA<|zK<|zR O ?_
   rw [hne,show s.size=k by omega,hp]
theorem lin_reserved (s:ByteArray):
    Pur cfg 299 [vS s] (vB (bS dM s)):=by
 refine zU Tryz.func299 O Tryz.ntmps299 Tryz.results299 O ?_
 intro z hz
 refine R O<|G O<|zA<|zI<|R O<|G O<|zA<|zP<|zI<|R O<|zW O (kE O O O)<|G O<|zA<|zC O (fun c1=>?_) (fun c1=>?_)
 ·try simp only [sx] at c1
  refine zJ<|zC O (fun c22=>?_) (fun c22=>?_)
  ·refine R O<|G O<|zA<|zK<|zR O ?_
   rw [kF (l:=dM) (k:=0) rfl c1.symm]
  ·try simp only [sx] at c22
   refine zJ<|R O<|G O<|zA<|zK<|zR O ?_
   exact absurd c1 c22
 ·try simp only [sx] at c1
  refine R O<|zW O (kE O O O)<|G O<|zA<|zC O (fun c2=>?_) (fun c2=>?_)
  ·try simp only [sx] at c2
   refine zJ<|zC O (fun c22=>?_) (fun c22=>?_)
   ·refine R O<|G O<|zA<|zK<|zR O ?_
    rw [kF (l:=dM) (k:=1) rfl c2.symm]
   ·try simp only [sx] at c22
    refine zJ<|R O<|G O<|zA<|zK<|zR O ?_
    exact absurd c2 c22
  ·try simp only [sx] at c2
   refine R O<|zW O (kE O O O)<|G O<|zA<|zC O (fun c3=>?_) (fun c3=>?_)
   ·try simp only [sx] at c3
    refine zJ<|zC O (fun c22=>?_) (fun c22=>?_)
    ·refine R O<|G O<|zA<|zK<|zR O ?_
     rw [kF (l:=dM) (k:=2) rfl c3.symm]
    ·try simp only [sx] at c22
     refine zJ<|R O<|G O<|zA<|zK<|zR O ?_
     exact absurd c3 c22
   ·try simp only [sx] at c3
    refine R O<|zW O (kE O O O)<|G O<|zA<|zC O (fun c4=>?_) (fun c4=>?_)
    ·try simp only [sx] at c4
     refine zJ<|zC O (fun c22=>?_) (fun c22=>?_)
     ·refine R O<|G O<|zA<|zK<|zR O ?_
      rw [kF (l:=dM) (k:=3) rfl c4.symm]
     ·try simp only [sx] at c22
      refine zJ<|R O<|G O<|zA<|zK<|zR O ?_
      exact absurd c4 c22
    ·try simp only [sx] at c4
     refine R O<|zW O (kE O O O)<|G O<|zA<|zC O (fun c5=>?_) (fun c5=>?_)
     ·try simp only [sx] at c5
      refine zJ<|zC O (fun c22=>?_) (fun c22=>?_)
      ·refine R O<|G O<|zA<|zK<|zR O ?_
       rw [kF (l:=dM) (k:=4) rfl c5.symm]
      ·try simp only [sx] at c22
       refine zJ<|R O<|G O<|zA<|zK<|zR O ?_
       exact absurd c5 c22
     ·try simp only [sx] at c5
      refine R O<|zW O (kE O O O)<|G O<|zA<|zC O (fun c6=>?_) (fun c6=>?_)
      ·try simp only [sx] at c6
       refine zJ<|zC O (fun c22=>?_) (fun c22=>?_)
       ·refine R O<|G O<|zA<|zK<|zR O ?_
        rw [kF (l:=dM) (k:=5) rfl c6.symm]
       ·try simp only [sx] at c22
        refine zJ<|R O<|G O<|zA<|zK<|zR O ?_
        exact absurd c6 c22
      ·try simp only [sx] at c6
       refine R O<|zW O (kE O O O)<|G O<|zA<|zC O (fun c7=>?_) (fun c7=>?_)
       ·try simp only [sx] at c7
        refine zJ<|zC O (fun c22=>?_) (fun c22=>?_)
        ·refine R O<|G O<|zA<|zK<|zR O ?_
         rw [kF (l:=dM) (k:=6) rfl c7.symm]
        ·try simp only [sx] at c22
         refine zJ<|R O<|G O<|zA<|zK<|zR O ?_
         exact absurd c7 c22
       ·try simp only [sx] at c7
        refine R O<|zW O (kE O O O)<|G O<|zA<|zC O (fun c8=>?_) (fun c8=>?_)
        ·try simp only [sx] at c8
         refine zJ<|zC O (fun c22=>?_) (fun c22=>?_)
         ·refine R O<|G O<|zA<|zK<|zR O ?_
          rw [kF (l:=dM) (k:=7) rfl c8.symm]
         ·try simp only [sx] at c22
          refine zJ<|R O<|G O<|zA<|zK<|zR O ?_
          exact absurd c8 c22
        ·try simp only [sx] at c8
         refine R O<|zW O (kE O O O)<|G O<|zA<|zC O (fun c9=>?_) (fun c9=>?_)
         ·try simp only [sx] at c9
          refine zJ<|zC O (fun c22=>?_) (fun c22=>?_)
          ·refine R O<|G O<|zA<|zK<|zR O ?_
           rw [kF (l:=dM) (k:=8) rfl c9.symm]
          ·try simp only [sx] at c22
           refine zJ<|R O<|G O<|zA<|zK<|zR O ?_
           exact absurd c9 c22
         ·try simp only [sx] at c9
          refine R O<|zW O (kE O O O)<|G O<|zA<|zC O (fun c10=>?_) (fun c10=>?_)
          ·try simp only [sx] at c10
           refine zJ<|zC O (fun c22=>?_) (fun c22=>?_)
           ·refine R O<|G O<|zA<|zK<|zR O ?_
            rw [kF (l:=dM) (k:=9) rfl c10.symm]
           ·try simp only [sx] at c22
            refine zJ<|R O<|G O<|zA<|zK<|zR O ?_
            exact absurd c10 c22
          ·try simp only [sx] at c10
           refine R O<|zW O (kE O O O)<|G O<|zA<|zC O (fun c11=>?_) (fun c11=>?_)
           ·try simp only [sx] at c11
            refine zJ<|zC O (fun c22=>?_) (fun c22=>?_)
            ·refine R O<|G O<|zA<|zK<|zR O ?_
             rw [kF (l:=dM) (k:=10) rfl c11.symm]
            ·try simp only [sx] at c22
             refine zJ<|R O<|G O<|zA<|zK<|zR O ?_
             exact absurd c11 c22
           ·try simp only [sx] at c11
            refine R O<|zW O (kE O O O)<|G O<|zA<|zC O (fun c12=>?_) (fun c12=>?_)
            ·try simp only [sx] at c12
             refine zJ<|zC O (fun c22=>?_) (fun c22=>?_)
             ·refine R O<|G O<|zA<|zK<|zR O ?_
              rw [kF (l:=dM) (k:=11) rfl c12.symm]
             ·try simp only [sx] at c22
              refine zJ<|R O<|G O<|zA<|zK<|zR O ?_
              exact absurd c12 c22
            ·try simp only [sx] at c12
             refine R O<|zW O (kE O O O)<|G O<|zA<|zC O (fun c13=>?_) (fun c13=>?_)
             ·try simp only [sx] at c13
              refine zJ<|zC O (fun c22=>?_) (fun c22=>?_)
              ·refine R O<|G O<|zA<|zK<|zR O ?_
               rw [kF (l:=dM) (k:=12) rfl c13.symm]
              ·try simp only [sx] at c22
               refine zJ<|R O<|G O<|zA<|zK<|zR O ?_
               exact absurd c13 c22
             ·try simp only [sx] at c13
              refine R O<|zW O (kE O O O)<|G O<|zA<|zC O (fun c14=>?_) (fun c14=>?_)
              ·try simp only [sx] at c14
               refine zJ<|zC O (fun c22=>?_) (fun c22=>?_)
               ·refine R O<|G O<|zA<|zK<|zR O ?_
                rw [kF (l:=dM) (k:=13) rfl c14.symm]
               ·try simp only [sx] at c22
                refine zJ<|R O<|G O<|zA<|zK<|zR O ?_
                exact absurd c14 c22
              ·try simp only [sx] at c14
               refine R O<|zW O (kE O O O)<|G O<|zA<|zC O (fun c15=>?_) (fun c15=>?_)
               ·try simp only [sx] at c15
                refine zJ<|zC O (fun c22=>?_) (fun c22=>?_)
                ·refine R O<|G O<|zA<|zK<|zR O ?_
                 rw [kF (l:=dM) (k:=14) rfl c15.symm]
                ·try simp only [sx] at c22
                 refine zJ<|R O<|G O<|zA<|zK<|zR O ?_
                 exact absurd c15 c22
               ·try simp only [sx] at c15
                refine R O<|zW O (kE O O O)<|G O<|zA<|zC O (fun c16=>?_) (fun c16=>?_)
                ·try simp only [sx] at c16
                 refine zJ<|zC O (fun c22=>?_) (fun c22=>?_)
                 ·refine R O<|G O<|zA<|zK<|zR O ?_
                  rw [kF (l:=dM) (k:=15) rfl c16.symm]
                 ·try simp only [sx] at c22
                  refine zJ<|R O<|G O<|zA<|zK<|zR O ?_
                  exact absurd c16 c22
                ·try simp only [sx] at c16
                 refine R O<|zW O (kE O O O)<|G O<|zA<|zC O (fun c17=>?_) (fun c17=>?_)
                 ·try simp only [sx] at c17
                  refine zJ<|zC O (fun c22=>?_) (fun c22=>?_)
                  ·refine R O<|G O<|zA<|zK<|zR O ?_
                   rw [kF (l:=dM) (k:=16) rfl c17.symm]
                  ·try simp only [sx] at c22
                   refine zJ<|R O<|G O<|zA<|zK<|zR O ?_
                   exact absurd c17 c22
                 ·try simp only [sx] at c17
                  refine R O<|zW O (kE O O O)<|G O<|zA<|zC O (fun c18=>?_) (fun c18=>?_)
                  ·try simp only [sx] at c18
                   refine zJ<|zC O (fun c22=>?_) (fun c22=>?_)
                   ·refine R O<|G O<|zA<|zK<|zR O ?_
                    rw [kF (l:=dM) (k:=17) rfl c18.symm]
                   ·try simp only [sx] at c22
                    refine zJ<|R O<|G O<|zA<|zK<|zR O ?_
                    exact absurd c18 c22
                  ·try simp only [sx] at c18
                   refine R O<|zW O (kE O O O)<|G O<|zA<|zC O (fun c19=>?_) (fun c19=>?_)
                   ·try simp only [sx] at c19
                    refine zJ<|zC O (fun c22=>?_) (fun c22=>?_)
                    ·refine R O<|G O<|zA<|zK<|zR O ?_
                     rw [kF (l:=dM) (k:=18) rfl c19.symm]
                    ·try simp only [sx] at c22
                     refine zJ<|R O<|G O<|zA<|zK<|zR O ?_
                     exact absurd c19 c22
                   ·try simp only [sx] at c19
                    refine R O<|zW O (kE O O O)<|G O<|zA<|zC O (fun c20=>?_) (fun c20=>?_)
                    ·try simp only [sx] at c20
                     refine zJ<|zC O (fun c22=>?_) (fun c22=>?_)
                     ·refine R O<|G O<|zA<|zK<|zR O ?_
                      rw [kF (l:=dM) (k:=19) rfl c20.symm]
                     ·try simp only [sx] at c22
                      refine zJ<|R O<|G O<|zA<|zK<|zR O ?_
                      exact absurd c20 c22
                    ·try simp only [sx] at c20
                     refine R O<|zW O (kE O O O)<|G O<|zA<|zC O (fun c21=>?_) (fun c21=>?_)
                     ·try simp only [sx] at c21
                      refine zJ<|zC O (fun c22=>?_) (fun c22=>?_)
                      ·refine R O<|G O<|zA<|zK<|zR O ?_
                       rw [kF (l:=dM) (k:=20) rfl c21.symm]
                      ·try simp only [sx] at c22
                       refine zJ<|R O<|G O<|zA<|zK<|zR O ?_
                       exact absurd c21 c22
                     ·try simp only [sx] at c21
                      refine zM O<|zW O (kE O O O)<|G O<|zA<|zC O (fun c22=>?_) (fun c22=>?_)
                      ·try simp only [sx] at c22
                       refine R O<|G O<|zA<|zK<|zR O ?_
                       rw [kF (l:=dM) (k:=21) rfl c22.symm]
                      ·try simp only [sx] at c22
                       refine zJ<|R O<|G O<|zA<|zK<|zR O ?_
                       rw [show bS dM s=false by
                         simp only [bS,dM,List.any_cons,List.any_nil,Bool.or_eq_false_iff,decide_eq_false_iff_not]
                         exact ⟨fun h=>c1 h.symm,fun h=>c2 h.symm,fun h=>c3 h.symm,fun h=>c4 h.symm,fun h=>c5 h.symm,fun h=>c6 h.symm,fun h=>c7 h.symm,fun h=>c8 h.symm,fun h=>c9 h.symm,fun h=>c10 h.symm,fun h=>c11 h.symm,fun h=>c12 h.symm,fun h=>c13 h.symm,fun h=>c14 h.symm,fun h=>c15 h.symm,fun h=>c16 h.symm,fun h=>c17 h.symm,fun h=>c18 h.symm,fun h=>c19 h.symm,fun h=>c20 h.symm,fun h=>c21 h.symm,fun h=>c22 h.symm,T⟩]
theorem lin_identifier (s:ByteArray):
    Pur cfg 283 [vS s] (vB (bO s)):=by
 refine zU Tryz.func283 O Tryz.ntmps283 Tryz.results283 O ?_
 intro z hz
 refine R O<|G O<|zA<|zI<|R O<|G O<|zW O (zAw O un9 O)<|yB O<|G O<|rL0 O (fun g1_3=>zN O O) O<|A 9 O (fun g1_3=>zAw O un9 O) O<|A 10 O (fun g1_3=>yG O O O) O<|r_or O (fun h=>(lzf h))<|G O<|rL0 O (fun g1_8=>zN O O) O<|A 14 O (fun g1_8=>qS O ok299 (lin_reserved _) ⟨zB,O,T⟩) O<|r_or O (fun h=>(lzf h))<|G O<|rL0 O (fun g1_12=>zN O O) O<|A 18 O (fun g1_12=>zDm O un9 O O (by decide) (by simp only [Lz,cond_true,cond_false,Bool.and_eq_true,Bool.or_eq_true,Bool.not_eq_true',Bool.not_eq_false',Bool.or_eq_false_iff,Bool.and_eq_false_iff,decide_eq_true_eq,decide_eq_false_iff_not,Bool.not_eq_true,Bool.not_eq_false] at g1_12;omega)) O<|A 19 O (fun g1_12=>kM O O O) O<|r_or O (fun h=>(lzf h))<|G O<|rL0 O (fun g1_17=>zN O O) O<|A 23 O (fun g1_17=>zDm O un9 O O (by decide) (by simp only [Lz,cond_true,cond_false,Bool.and_eq_true,Bool.or_eq_true,Bool.not_eq_true',Bool.not_eq_false',Bool.or_eq_false_iff,Bool.and_eq_false_iff,decide_eq_true_eq,decide_eq_false_iff_not,Bool.not_eq_true,Bool.not_eq_false] at g1_17;omega)) O<|A 24 O (fun g1_17=>yG O O O) O<|r_or O (fun h=>(lzf h))<|zA<|zC O (fun c1=>?_) (fun c1=>?_)
 ·have hno:=ident_no c1
  refine R O<|G O<|zA<|zK<|zR O ?_
  rw [hno]
 ·obtain ⟨n1,n2,hne⟩:=ident_yes c1
  refine zJ<|zI<|R O<|G O<|zW O (zAw O un9 O)<|G O<|zA<|zP<|zT ⟨[(29,.c _),(0,.c _),(28,.c _)],[]⟩ (Weak.mk [] ⟨zB,zB,zB,T⟩ O)<|qG 1 0 O O (Nat) (fun k=>[(29,vI k)]) (fun k=>[]) (fun k=>k<=s.size/\(s.data.toList.take k).all gA=true) (fun k=>s.size-k) ⟨0,⟨by omega,O⟩,Weak.mk [] ⟨zB,zB,zB,T⟩ O⟩ ?_
  rintro k ⟨hk,hp⟩
  refine R O<|yB O<|zA<|zI<|zC O (fun c2=>?_) (fun c2=>?_)
  ·try simp only [sx] at c2
   have hlt:k<s.size:=by omega
   refine zJ<|zI<|zP<|R O<|G O<|G O<|zA<|R O<|G O<|G O<|zW O (zDm O un9 O O (by omega) (by omega))<|G O<|zA<|R O<|G O<|yB O<|G O<|rL0 O (fun g7_2=>zN O O) O<|A 38 O (fun g7_2=>yG O O O) O<|r_or O (fun h=>(lzf h))<|G O<|rL0 O (fun g7_6=>zN O O) O<|A 42 O (fun g7_6=>kM O O O) O<|A 43 O (fun g7_6=>zN O O) O<|rLz [] O N T (fun g7_9=>zN O O) O<|rLz [(45,_)] O N ⟨O,O,T⟩ (fun g7_9=>yG O O O) O<|A 44 O (fun g7_6=>zAz O O O O (fun h=>kH (by assumption) (lzf h))) O<|yK O (fun h=>h)<|G O<|rL0 O (fun g7_14=>zN O O) O<|A 50 O (fun g7_14=>zAn O O O) O<|yK O (fun h=>h)<|zA<|zC O (fun c3=>?_) (fun c3=>?_)
   ·have hbad:=word_no hlt c3
    refine R O<|G O<|zA<|zK<|zR O ?_
    rw [hne,hbad]
   ·have hgood:=word_yes hlt hp c3
    refine zJ<|zM O<|qB O ⟨by omega,by omega⟩<|G O<|zA ?_
    refine ⟨k+1,⟨by omega,hgood⟩,(by omega),Weak.mk [] ⟨zB,zB,zB,T⟩ O⟩
  ·try simp only [sx] at c2
   refine qH<|R O<|G O<|zA<|zK<|zR O ?_
   rw [hne,word_all hp (by omega)]
theorem lin_Validate (l:Lf) (hl:l.L.length<=6000000000000):
    Pur cfg 247 [mD l] (vI (nV l)):=by
 refine zU Tryz.func247 O Tryz.ntmps247 Tryz.results247 O ?_
 intro z hz
 refine R O<|zV O O (qO O O) ?_
 rintro _ _ ⟨b1,rfl,rfl⟩
 refine G O<|zA<|zI<|R O<|zG O zAy<|zH zDz (Y 0 O) O<|zZ O el52<|G O<|zA<|zP<|zT ⟨[(8,.c _),(1,.c _),(6,.c _),(7,.c _)],[_]⟩ (Weak.mk [true] ⟨zB,zB,zB,zB,T⟩ O)<|qG 1 0 O O (Nat) (fun k=>[(8,vI k)]) (fun k=>[]) (fun k=>k<=l.L.length/\(gD l=lZ (mT l.L k) (l.L.drop k))) (fun k=>l.L.length-k) ⟨0,⟨by omega,O⟩,Weak.mk [true] ⟨zB,zB,zB,zB,T⟩ O⟩ ?_
 rintro k ⟨hk,hp⟩
 refine R O<|yB O<|zA<|zI<|zC O (fun c1=>?_) (fun c1=>?_)
 ·try simp only [sx] at c1
  obtain ⟨x,hx⟩:=qU l.L k (by omega)
  refine zJ<|zI<|zP<|R O<|G O<|qD O el52 (by omega) (B (by assumption))<|zO zKf zQ O<|zV O O (yN O zr205) ?_
  rintro _ _ ⟨b2,rfl,rfl⟩
  refine G O<|D 0 sz205 O<|zA<|zI<|qW 25 mixed (by kernel_rfl) O O<|zL O O (zD O zDl O)<|zL O O (zF O one9 O (Y 0 O) O)<|zL O O (qS O ok283 (lin_identifier _) ⟨zB,O,T⟩)<|zL O O (wA O O)<|zL O O (zN O O)<|qJ [] O O O O J T (fun g4_4=>zD O zKw O) O<|qJ [(18,_)] O O O O J ⟨O,O,T⟩ (fun g4_4=>zF O W O (Y 0 O) O) O<|qJ [(19,_)] O O O O J ⟨O,O,T⟩ (fun g4_4=>yO O O O) O<|zL O O (zAz O O O O (fun h=>(lzf h)))<|zL O O (zN O O)<|qJ [] O O O O J T (fun g4_9=>zN O O) O<|qJ [(23,_)] O O O O J ⟨O,O,T⟩ (fun g4_9=>yG O O O) O<|qJ [(24,_)] O O O O J ⟨O,O,T⟩ (fun g4_9=>zN O O) O<|qJ [] O O O O N T (fun g4_12=>zD O zAy O) O<|qJ [(26,_)] O O O O N ⟨O,O,T⟩ (fun g4_12=>zF O zDz O (Y 1 O) O) O<|qJ [] O O O O N T (fun g4_12=>zN O O) O<|qJ [(28,_)] O O O O N ⟨O,O,T⟩ (fun g4_12=>kA O O O ⟨by omega,by omega⟩) O<|qJ [(27,_),(29,_)] O O O O N ⟨O,O,O,O,T⟩ (fun g4_12=>qL O el52 O O (by simp only [Lz,cond_true,cond_false,Bool.and_eq_true,Bool.or_eq_true,Bool.not_eq_true',Bool.not_eq_false',Bool.or_eq_false_iff,Bool.and_eq_false_iff,decide_eq_true_eq,decide_eq_false_iff_not,Bool.not_eq_true,Bool.not_eq_false] at g4_12;omega) (pv_get (by simp only [Lz,cond_true,cond_false,Bool.and_eq_true,Bool.or_eq_true,Bool.not_eq_true',Bool.not_eq_false',Bool.or_eq_false_iff,Bool.and_eq_false_iff,decide_eq_true_eq,decide_eq_false_iff_not,Bool.not_eq_true,Bool.not_eq_false] at g4_12;omega) (by omega))) O<|qJ [(30,_)] O O O O N ⟨O,O,T⟩ (fun g4_12=>qF O zDl O) O<|qJ [(31,_)] O O O O N ⟨O,O,T⟩ (fun g4_12=>zF O one9 O zQ O) O<|qJ [] O O O O N T (fun g4_12=>zD O zDl O) O<|qJ [(33,_)] O O O O N ⟨O,O,T⟩ (fun g4_12=>zF O one9 O (Y 0 O) O) O<|qJ [(32,_),(34,_)] O O O O N ⟨O,O,O,O,T⟩ (fun g4_12=>det_sgeq O O O) O<|qJ [(25,_)] O O O O J ⟨O,O,T⟩ (fun g4_9=>wU O O O (fun h=>kH (by assumption) h) O) O<|zL O O (zAz O O O O (fun h=>(lzf h)))<|yJ<|zA<|zC O (fun c2=>?_) (fun c2=>?_)
  ·refine R O<|G O<|zA<|zK<|zR O ?_
   rw [nV,hp,zJf hx,show vX l.L k x=true from c2];rfl
  ·refine zJ<|zM O<|qB O ⟨by omega,by omega⟩<|G O<|zA ?_
   refine ⟨k+1,⟨by omega,by rw [hp,zJf hx,show vX l.L k x=false from c2];rfl⟩,(by omega),Weak.mk [false,true] ⟨zB,zB,zB,zB,T⟩ O⟩
 ·try simp only [sx] at c1
  refine qH<|R O<|G O<|zA<|zK<|zR O ?_
  rw [nV,hp,monos_end (by omega)];rfl
theorem zGz (l:Lf) (hl:l.L.length<=6000000000000):
    Pur cfg 260 [mD l] (vB (gD l)):=by
 refine zU Tryz.func260 O Tryz.ntmps260 Tryz.results260 O ?_
 intro z hz
 refine R O<|zV O O (qO O O) ?_
 rintro _ _ ⟨b1,rfl,rfl⟩
 refine G O<|zA<|zI<|R O<|G O<|zA<|zP<|zT ⟨[(3,.c _),(1,.c _)],[_]⟩ (Weak.mk [true] ⟨zB,zB,T⟩ O)<|qG 1 0 O O (Nat) (fun k=>[(3,vI k)]) (fun k=>[]) (fun k=>k<=l.L.length/\(gD l=lZ (mT l.L k) (l.L.drop k))) (fun k=>l.L.length-k) ⟨0,⟨by omega,O⟩,Weak.mk [true] ⟨zB,zB,T⟩ O⟩ ?_
 rintro k ⟨hk,hp⟩
 refine zI<|R O<|G O<|zG O zAy<|zH zDz (Y 0 O) O<|zZ O el52<|yB O<|zA<|zC O (fun c1=>?_) (fun c1=>?_)
 ·try simp only [sx] at c1
  obtain ⟨x,hx⟩:=qU l.L k (by omega)
  refine zJ<|zI<|zP<|zI<|qW 37 mixed (by kernel_rfl) O O<|zL O O (zD O zAy O)<|zL O O (zF O zDz O (Y 0 O) O)<|zL O O (zN O O)<|zL O O (qL O el52 O O (by omega) (B (by assumption)))<|zL O O (qF O zDl O)<|zL O O (zF O one9 O zQ O)<|zL O O (qS O ok120 (zIy _) ⟨zB,O,T⟩)<|zL O O (wA O O)<|zL O O (zN O O)<|qJ [] O O O O J T (fun g4_8=>zD O zAy O) O<|qJ [(20,_)] O O O O J ⟨O,O,T⟩ (fun g4_8=>zF O zDz O (Y 0 O) O) O<|qJ [] O O O O J T (fun g4_8=>zN O O) O<|qJ [(21,_),(22,_)] O O O O J ⟨O,O,O,O,T⟩ (fun g4_8=>qL O el52 O O (by omega) (B (by assumption))) O<|qJ [(23,_)] O O O O J ⟨O,O,T⟩ (fun g4_8=>qF O zKw O) O<|qJ [(24,_)] O O O O J ⟨O,O,T⟩ (fun g4_8=>zF O W O zQ O) O<|qJ [(25,_)] O O O O J ⟨O,O,T⟩ (fun g4_8=>yO O O O) O<|zL O O (zAz O O O O (fun h=>(lzf h)))<|zL O O (zN O O)<|qJ [] O O O O J T (fun g4_17=>zN O O) O<|qJ [(29,_)] O O O O J ⟨O,O,T⟩ (fun g4_17=>yG O O O) O<|qJ [(30,_)] O O O O J ⟨O,O,T⟩ (fun g4_17=>zN O O) O<|qJ [] O O O O N T (fun g4_20=>zD O zAy O) O<|qJ [(32,_)] O O O O N ⟨O,O,T⟩ (fun g4_20=>zF O zDz O (Y 0 O) O) O<|qJ [] O O O O N T (fun g4_20=>zN O O) O<|qJ [(34,_)] O O O O N ⟨O,O,T⟩ (fun g4_20=>kA O O O ⟨by omega,by omega⟩) O<|qJ [(33,_),(35,_)] O O O O N ⟨O,O,O,O,T⟩ (fun g4_20=>qL O el52 O O (by simp only [Lz,cond_true,cond_false,Bool.and_eq_true,Bool.or_eq_true,Bool.not_eq_true',Bool.not_eq_false',Bool.or_eq_false_iff,Bool.and_eq_false_iff,decide_eq_true_eq,decide_eq_false_iff_not,Bool.not_eq_true,Bool.not_eq_false] at g4_20;omega) (pv_get (by simp only [Lz,cond_true,cond_false,Bool.and_eq_true,Bool.or_eq_true,Bool.not_eq_true',Bool.not_eq_false',Bool.or_eq_false_iff,Bool.and_eq_false_iff,decide_eq_true_eq,decide_eq_false_iff_not,Bool.not_eq_true,Bool.not_eq_false] at g4_20;omega) (by omega))) O<|qJ [(36,_)] O O O O N ⟨O,O,T⟩ (fun g4_20=>qF O zDl O) O<|qJ [(37,_)] O O O O N ⟨O,O,T⟩ (fun g4_20=>zF O one9 O zQ O) O<|qJ [] O O O O N T (fun g4_20=>zD O zAy O) O<|qJ [(39,_)] O O O O N ⟨O,O,T⟩ (fun g4_20=>zF O zDz O (Y 0 O) O) O<|qJ [] O O O O N T (fun g4_20=>zN O O) O<|qJ [(40,_),(41,_)] O O O O N ⟨O,O,O,O,T⟩ (fun g4_20=>qL O el52 O O (by omega) (B (by assumption))) O<|qJ [(42,_)] O O O O N ⟨O,O,T⟩ (fun g4_20=>qF O zDl O) O<|qJ [(43,_)] O O O O N ⟨O,O,T⟩ (fun g4_20=>zF O one9 O zQ O) O<|qJ [(38,_),(44,_)] O O O O N ⟨O,O,O,O,T⟩ (fun g4_20=>det_sgeq O O O) O<|qJ [(31,_)] O O O O J ⟨O,O,T⟩ (fun g4_17=>wU O O O (fun h=>kH (by assumption) h) O) O<|zL O O (zAz O O O O (fun h=>(lzf h)))<|yJ<|zA<|zC O (fun c2=>?_) (fun c2=>?_)
  ·refine R O<|G O<|zA<|zK<|zR O ?_
   rw [hp,zJf hx,show vX l.L k x=true from c2];rfl
  ·refine zJ<|zM O<|G O<|qB O ⟨by omega,by omega⟩<|G O<|zA ?_
   refine ⟨k+1,⟨by omega,by rw [hp,zJf hx,show vX l.L k x=false from c2];rfl⟩,(by omega),Weak.mk [true] ⟨zB,zB,T⟩ O⟩
 ·try simp only [sx] at c1
  refine qH<|R O<|G O<|zA<|zK<|zR O ?_
  rw [hp,monos_end (by omega)]
theorem base_Lin (a b:Lf) (ha:a.L.length<=6000000000000):
    Pur cfg 200 [mD a,mD b] (vB (decide (a=b))):=by
 refine zU Tryz.func200 O Tryz.ntmps200 Tryz.results200 O ?_
 intro z hz
 refine R O<|zV O O (qO O O) ?_
 rintro _ _ ⟨b1,rfl,rfl⟩
 refine zV O O (qO O O) ?_
 rintro _ _ ⟨b2,rfl,rfl⟩
 refine G O<|zA<|zI<|R O<|zG O zKb<|zH W (Y 1 O) O<|zG O zKb<|zH W (Y 0 O) O<|kU O<|G O<|rL0 O (fun g1_5=>zD O zAy O) O<|A 12 O (fun g1_5=>zF O zDz O (Y 1 O) O) O<|A 13 O (fun g1_5=>yW O el52 O) O<|rL0 O (fun g1_5=>zD O zAy O) O<|A 15 O (fun g1_5=>zF O zDz O (Y 0 O) O) O<|A 16 O (fun g1_5=>yW O el52 O) O<|rLz [(14,_),(17,_)] O J ⟨O,O,O,O,T⟩ (fun g1_5=>zAn O O O) O<|r_or O (fun h=>(lzf h))<|zA<|zC O (fun c1=>?_) (fun c1=>?_)
 ·try simp only [sx] at c1
  refine R O<|G O<|zA<|zK<|zR O ?_
  rw [yV (fun h=>by rw [h] at c1;simp at c1)]
 ·try simp only [sx] at c1
  refine zJ<|zI<|R O<|G O<|zA<|zP<|zT ⟨[(5,.c _),(2,.c _),(3,.c _)],[_,_]⟩ (Weak.mk [true,true] ⟨zB,zB,zB,T⟩ O)<|qG 1 0 O O (Nat) (fun k=>[(5,vI k)]) (fun k=>[]) (fun k=>k<=a.L.length/\(a.L.take k=b.L.take k)) (fun k=>a.L.length-k) ⟨0,⟨by omega,O⟩,Weak.mk [true,true] ⟨zB,zB,zB,T⟩ O⟩ ?_
  rintro k ⟨hk,hp⟩
  refine zI<|R O<|G O<|zG O zAy<|zH zDz (Y 1 O) O<|zZ O el52<|yB O<|zA<|zC O (fun c2=>?_) (fun c2=>?_)
  ·try simp only [sx] at c2
   obtain ⟨x,hx⟩:=qU a.L k (by omega)
   obtain ⟨y,hy⟩:=qU b.L k (by omega)
   refine zJ<|zI<|zP<|zI<|qW 11 mixed (by kernel_rfl) O O<|zL O O (zD O zAy O)<|zL O O (zF O zDz O (Y 1 O) O)<|zL O O (zN O O)<|zL O O (qL O el52 O O (by omega) (B (by assumption)))<|zL O O (qC O zKf O zQ O)<|zL O O (zD O zAy O)<|zL O O (zF O zDz O (Y 0 O) O)<|zL O O (zN O O)<|zL O O (qL O el52 O O (by omega) (B (by assumption)))<|zL O O (qC O zKf O zQ O)<|zL O O (zBk O fl205 O O O)<|yJ<|zA<|zC O (fun c3=>?_) (fun c3=>?_)
   ·have hne:=mono_ne c3
    refine R O<|G O<|zA<|zK<|zR O ?_
    rw [yV (fun h=>zLw hx hy hne (by rw [h]))]
   ·have heq:=mono_eq c3
    refine zJ<|zM O<|G O<|qB O ⟨by omega,by omega⟩<|G O<|zA ?_
    refine ⟨k+1,⟨by omega,zEr hx hy hp heq⟩,(by omega),Weak.mk [true,true] ⟨zB,zB,zB,T⟩ O⟩
  ·try simp only [sx] at c2
   refine qH<|R O<|G O<|zA<|zK<|zR O ?_
   rw [zAh (lin_mk (by omega) (zJk hp (by omega) (by omega)))]
theorem zHy (l:List Mono) (c:C) (p:Mono->Bool) (hl:l.length<=6000000000000) (hc:∀x,x∈l->FnPur cfg c [nM x] (vB (p x))):
    Pur cfg 180 [sK l,.c c] (vI (fX p l)):=by
 refine zU Tryz.func180 O Tryz.ntmps180 Tryz.results180 O ?_
 intro z hz
 refine R O<|G O<|zA<|zI<|R O<|G O<|zZ O el52<|G O<|zA<|zP<|zT ⟨[(8,.c _),(0,.c _),(1,.c _),(7,.c _)],[]⟩ (Weak.mk [] ⟨zB,zB,zB,zB,T⟩ O)<|qG 1 0 O O (Nat) (fun k=>[(8,vI k)]) (fun k=>[]) (fun k=>k<=l.length/\((l.take k).any p=false)) (fun k=>l.length-k) ⟨0,⟨by omega,O⟩,Weak.mk [] ⟨zB,zB,zB,zB,T⟩ O⟩ ?_
 rintro k ⟨hk,hp⟩
 refine R O<|yB O<|zA<|zI<|zC O (fun c1=>?_) (fun c1=>?_)
 ·try simp only [sx] at c1
  obtain ⟨x,hx⟩:=qU l k (by omega)
  refine zJ<|zI<|zP<|R O<|G O<|G O<|zA<|R O<|G O<|G O<|G O<|qD O el52 (by omega) (B (by assumption))<|zO zKf zQ O<|zW O (kW O O (hc _ (qA hx)) ⟨zB,O,T⟩)<|zA<|zC O (fun c2=>?_) (fun c2=>?_)
  ·exact j7
  ·exact p8
 ·exact m7
theorem zFr (l:List Mono) (c:C) (p:Mono->Bool) (hl:l.length<=6000000000000) (hc:∀x,x∈l->FnPur cfg c [nM x] (vB (p x))):
    Pur cfg 149 [sK l,.c c] (vB (l.any p)):=by
 refine zU Tryz.func149 O Tryz.ntmps149 Tryz.results149 O ?_
 intro z hz
 refine R O<|G O<|zA<|R O<|G O<|G O<|qN O ok180 (zHy l c p hl hc) ⟨zB,O,zB,O,T⟩<|zW O (kN O O O)<|G O<|zA<|zK<|zR O ?_
 rw [zCb]
theorem zKk (l:List Ix) (c:C) (p:Ix->Bool) (hl:l.length<=6000000000000) (hc:∀x,x∈l->FnPur cfg c [hM x] (vB (p x))):
    Pur cfg 296 [mJ l,.c c] (vI (fX p l)):=by
 refine zU Tryz.func296 O Tryz.ntmps296 Tryz.results296 O ?_
 intro z hz
 refine R O<|G O<|zA<|zI<|R O<|G O<|zZ O el51<|G O<|zA<|zP<|zT ⟨[(8,.c _),(0,.c _),(1,.c _),(7,.c _)],[]⟩ (Weak.mk [] ⟨zB,zB,zB,zB,T⟩ O)<|qG 1 0 O O (Nat) (fun k=>[(8,vI k)]) (fun k=>[]) (fun k=>k<=l.length/\((l.take k).any p=false)) (fun k=>l.length-k) ⟨0,⟨by omega,O⟩,Weak.mk [] ⟨zB,zB,zB,zB,T⟩ O⟩ ?_
 rintro k ⟨hk,hp⟩
 refine R O<|yB O<|zA<|zI<|zC O (fun c1=>?_) (fun c1=>?_)
 ·try simp only [sx] at c1
  obtain ⟨x,hx⟩:=qU l k (by omega)
  refine zJ<|zI<|zP<|R O<|G O<|G O<|zA<|R O<|G O<|G O<|G O<|qD O el51 (by omega) (B (by assumption))<|zO zDc zQ O<|zW O (kW O O (hc _ (qA hx)) ⟨zB,O,T⟩)<|zA<|zC O (fun c2=>?_) (fun c2=>?_)
  ·exact j7
  ·exact p8
 ·exact m7
theorem zBg (l:List Ix) (c:C) (p:Ix->Bool) (hl:l.length<=6000000000000) (hc:∀x,x∈l->FnPur cfg c [hM x] (vB (p x))):
    Pur cfg 273 [mJ l,.c c] (vB (l.any p)):=by
 refine zU Tryz.func273 O Tryz.ntmps273 Tryz.results273 O ?_
 intro z hz
 refine R O<|G O<|zA<|R O<|G O<|G O<|qN O ok296 (zKk l c p hl hc) ⟨zB,O,zB,O,T⟩<|zW O (kN O O O)<|G O<|zA<|zK<|zR O ?_
 rw [zCb]
end Go.W
