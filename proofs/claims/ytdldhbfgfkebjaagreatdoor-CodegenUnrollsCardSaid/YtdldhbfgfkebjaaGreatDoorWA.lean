/-
  What functions compute.
  Conditions: none.
-/
import Derived.Test.YtdldhbfgfkebjaaGreatDoorFacts
import Derived.Test.YtdldhbfgfkebjaaGreatDoorPlain
set_option linter.unusedSimpArgs false
set_option linter.unusedVariables false
set_option maxRecDepth 10000
namespace Go.W
open Go Go.Eng Go.Proofs Go.L41 Go.Br
attribute [local irreducible] AWP RWP TD fP
theorem kw_ascii:∀(j:Nat) (b:UInt8),(bs kwBytes).data.toList[j]? =some b->b.toNat<128:=by
  intro j b h
  have:(kwBytes.all fun c=>decide (c.toNat<128))=true:=by decide
  rw [List.all_eq_true] at this
  simpa using this b (List.mem_of_getElem? h)
theorem kw_fields:(Lib.fields kwBytes).map bs=fD:=by decide+kernel
theorem nm1 {s:ByteArray} (h:Lz (!decide (s=bs [])&&decide ((s.size:Int)<=16)) true=true):¬s=bs []:=by
  simp only [Lz,cond_true,Bool.and_eq_true,Bool.not_eq_true',decide_eq_false_iff_not] at h
  exact h.1
theorem nm2 {s:ByteArray} {p:Bool} (h:Lz (!decide (s=bs [])&&decide ((s.size:Int)<=16)&&p) true=true):s.size<=1000000:=by
  simp only [Lz,cond_true,Bool.and_eq_true,decide_eq_true_eq] at h
  omega
theorem zCr:lK Tryz.prog 153=some 4:=by kernel_rfl
theorem zKw:lK Tryz.prog 205=some 2:=by kernel_rfl
theorem el51:dZ Tryz.prog 51=some (153,4,72):=by kernel_rfl
theorem el52:dZ Tryz.prog 52=some (205,2,24):=by kernel_rfl
theorem el78:dZ Tryz.prog 78=some (9,1,16):=by kernel_rfl
theorem zFp:bD Tryz.prog 54 0=some (0,2):=by kernel_rfl
theorem zAg:bD Tryz.prog 54 1=some (1,52):=by kernel_rfl
theorem zDk:bD Tryz.prog 205 0=some (0,9):=by kernel_rfl
theorem zFz:bD Tryz.prog 205 1=some (1,2):=by kernel_rfl
theorem fl205:pJ Tryz.prog 205=some [.str,.int]:=by kernel_rfl
theorem ik21:tD Tryz.prog 21=some .i32:=by kernel_rfl
theorem mixed:Tryz.prog.follows .mixedOrders=true:=by kernel_rfl
theorem ok94:bA Tryz.prog 94=true:=by kernel_rfl
theorem ok120:bA Tryz.prog 120=true:=by kernel_rfl
theorem ok137:bA Tryz.prog 137=true:=by kernel_rfl
theorem ok138:bA Tryz.prog 138=true:=by kernel_rfl
theorem ok139:bA Tryz.prog 139=true:=by kernel_rfl
theorem ok140:bA Tryz.prog 140=true:=by kernel_rfl
theorem ok156:bA Tryz.prog 156=true:=by kernel_rfl
theorem ok164:bA Tryz.prog 164=true:=by kernel_rfl
theorem ok165:bA Tryz.prog 165=true:=by kernel_rfl
theorem ok166:bA Tryz.prog 166=true:=by kernel_rfl
theorem ok180:bA Tryz.prog 180=true:=by kernel_rfl
theorem ok182:bA Tryz.prog 182=true:=by kernel_rfl
theorem ok191:bA Tryz.prog 191=true:=by kernel_rfl
theorem ok283:bA Tryz.prog 283=true:=by kernel_rfl
theorem ok296:bA Tryz.prog 296=true:=by kernel_rfl
theorem ok299:bA Tryz.prog 299=true:=by kernel_rfl
theorem one2:jK Tryz.prog 2=true:=by kernel_rfl
theorem one9:jK Tryz.prog 9=true:=by kernel_rfl
theorem zCj:jK Tryz.prog 52=true:=by kernel_rfl
theorem sz205:(Tryz.prog.info? 205).map (·.size)=some 2:=by kernel_rfl
theorem un9:Tryz.prog.underlying 9=some .string:=by kernel_rfl
theorem us5:(Tryz.prog.underlying 5).isSome=true:=by kernel_rfl
theorem zr9:dL Tryz.prog 9=some [(Value.string (ByteArray.mk #[]))]:=by kernel_rfl
theorem zr205:dL Tryz.prog 205=some [(Value.string (ByteArray.mk #[])),(Value.int IntKind.i64 0)]:=by kernel_rfl
theorem zPo (n:Int):
    Pur cfg 137 [vR n] (vB (lS n)):=by
 refine zW Tryz.func137 O Tryz.ntmps137 Tryz.results137 O ?_
 exact o6
theorem lexer_digit (n:Int):
    Pur cfg 164 [vR n] (vB (sF n)):=by
 refine zW Tryz.func164 O Tryz.ntmps164 Tryz.results164 O ?_
 exact o6
theorem lexer_inWord (n:Int):
    Pur cfg 139 [vR n] (vB (nY n)):=by
 refine zW Tryz.func139 O Tryz.ntmps139 Tryz.results139 O ?_
 intro z hz
 refine R O<|G O<|zA<|R O<|G O<|qS O ok137 (zPo _) ⟨zB,O,T⟩<|G O<|rL0 O (fun g1_2=>zM O O) O<|B 6 O (fun g1_2=>qR O ok164 (lexer_digit _) ⟨zB,O,T⟩) O<|r_or O (fun h=>(lzf h))<|G O<|rL0 O (fun g1_6=>zM O O) O<|B 10 O (fun g1_6=>kH O O O) O<|r_or O (fun h=>(lzf h))<|G O<|zA<|zN<|zV O ?_
 exact O
theorem zOs (s:ByteArray) (hs:s.size<=1000000):
    Pur cfg 138 [vS s,.c (.fn (.func 139) [] [])] (vI (pW fU s.data.toList)):=by
 refine zW Tryz.func138 O Tryz.ntmps138 Tryz.results138 O ?_
 intro z hz
 refine R O<|G O<|zA<|R O<|G O<|zA<|zF<|zP<|zU ⟨[(5,.c _),(0,.c _),(1,.c _)],[]⟩ (Weak.mk [] ⟨zB,zB,zB,T⟩ O)<|qF 1 0 O O (Nat) (fun k=>[(5,vI k)]) (fun k=>[]) (fun k=>k<=s.size/\(s.data.toList.take k).all fU=true) (fun k=>s.size-k) ⟨0,⟨by omega,O⟩,Weak.mk [] ⟨zB,zB,zB,T⟩ O⟩ ?_
 rintro k ⟨hk,hp⟩
 refine zF<|R O<|G O<|G O<|zZ O (zBg O un9 O)<|yC O<|G O<|rL0 O (fun g2_4=>zM O O) O<|rL0 O (fun g2_4=>zM O O) O<|rL0 O (fun g2_4=>zM O O) O<|rLz [(12,_),(13,_)] O gv1 ⟨O,O,O,O,T⟩ (fun g2_4=>zDt O un9 O O (by omega) (by simp only [Lz,cond_true,decide_eq_true_eq] at g2_4;omega)) O<|B 14 O (fun g2_4=>zFs O us5 ik21 O) O<|rLz [(11,_),(15,_)] O gv1 ⟨O,O,O,O,T⟩ (fun g2_4=>det_call_fn0 O O ok139 (lexer_inWord _) ⟨zB,O,T⟩) O<|yW O (fun h=>h)<|zA<|zD O (fun c1=>?_) (fun c1=>?_)
 ·try simp only [sx] at c1
  obtain ⟨hlt,hcc⟩:=c1
  have hlt:k<s.size:=by omega
  rw [zKy] at hcc
  refine zI<|zP<|zK O<|G O<|qA O ⟨by omega,by omega⟩<|G O<|zA ?_
  have hg:=zDy hlt
  refine ⟨k+1,⟨by omega,by rw [zNy hg,hp];exact hcc⟩,(by omega),Weak.mk [] ⟨zB,zB,zB,T⟩ O⟩
 ·try simp only [sx] at c1
  have hsp:pW fU s.data.toList=k:=span_stop hp (by
    by_cases hlt:k<s.size
    · right;refine ⟨_,zDy hlt,?_⟩;rcases c1 with c1|c1;omega;rw [zKy] at c1;exact c1
    · left;simp;omega)
  refine qK<|R O<|G O<|G O<|zA<|zN<|zV O ?_
  rw [hsp]
theorem zHx (l:List ByteArray) (s:ByteArray) (hl:l.length<=6000000000000):
    Pur cfg 182 [vSs l,vS s] (vI (rB l s)):=by
 refine zW Tryz.func182 O Tryz.ntmps182 Tryz.results182 O ?_
 intro z hz
 refine R O<|G O<|zA<|zF<|R O<|G O<|qD O el78<|G O<|zA<|zP<|zU ⟨[(8,.c _),(0,.c _),(1,.c _),(7,.c _)],[]⟩ (Weak.mk [] ⟨zB,zB,zB,zB,T⟩ O)<|qF 1 0 O O (Nat) (fun k=>[(8,vI k)]) (fun k=>[]) (fun k=>k<=l.length/\bR (l.take k) s=false) (fun k=>l.length-k) ⟨0,⟨by omega,O⟩,Weak.mk [] ⟨zB,zB,zB,zB,T⟩ O⟩ ?_
 rintro k ⟨hk,hp⟩
 refine R O<|yC O<|zA<|zF<|zD O (fun c1=>?_) (fun c1=>?_)
 ·try simp only [sx] at c1
  obtain ⟨t,ht⟩:=qU l k (by omega)
  refine zI<|zF<|zP<|R O<|G O<|G O<|zA<|R O<|G O<|G O<|G O<|zY O el78 (by omega) (v ht)<|zE one9 zO O<|zZ O (kE O O O)<|zA<|zD O (fun c2=>?_) (fun c2=>?_)
  ·try simp only [sx] at c2
   refine R O<|G O<|G O<|zA<|zN<|zV O ?_
   rw [idxB_some ht c2 hp]
  ·try simp only [sx] at c2
   refine zI<|zK O<|qA O ⟨by omega,by omega⟩<|G O<|zA ?_
   refine ⟨k+1,⟨by omega,zJg ht hp (fun e=>c2 e.symm)⟩,(by omega),Weak.mk [] ⟨zB,zB,zB,zB,T⟩ O⟩
 ·try simp only [sx] at c1
  refine qK<|R O<|G O<|zA<|zN<|zV O ?_
  rw [idxB_none (by rw [qX (by omega)] at hp;exact hp)]
theorem zCw (l:List ByteArray) (s:ByteArray) (hl:l.length<=6000000000000):
    Pur cfg 165 [vSs l,vS s] (vB (bR l s)):=by
 refine zW Tryz.func165 O Tryz.ntmps165 Tryz.results165 O ?_
 intro z hz
 refine R O<|G O<|zA<|R O<|G O<|G O<|qS O ok182 (zHx l s hl) ⟨zB,O,zB,O,T⟩<|zZ O (kY O O O)<|G O<|zA<|zN<|zV O ?_
 rw [idxB_has]
theorem lexer_keywords  :
    Pur cfg 166 [] (vSs fD):=by
 refine zW Tryz.func166 O Tryz.ntmps166 Tryz.results166 O ?_
 intro z hz
 refine R O<|zZ O (yO 1 O O)<|zA<|R O<|qS O ok191 (strings_Fields _ (by decide) kw_ascii) ⟨zB,O,T⟩<|G O<|zA<|zN<|zV O ?_
 exact congrArg vSs kw_fields
theorem zTe (s:ByteArray):
    Pur cfg 140 [vS s] (vB (bR fD s)):=by
 refine zW Tryz.func140 O Tryz.ntmps140 Tryz.results140 O ?_
 intro z hz
 refine R O<|G O<|zA<|R O<|qS O ok166 (lexer_keywords) T<|G O<|qS O ok165 (zCw _ _ (by decide)) ⟨zB,O,zB,O,T⟩<|G O<|zA<|zN<|zV O ?_
 exact O
theorem zEb (s:ByteArray):
    Pur cfg 96 [vS s] (vB (bM s)):=by
 refine zW Tryz.func96 O Tryz.ntmps96 Tryz.results96 O ?_
 intro z hz
 refine R O<|G O<|zA<|R O<|G O<|zZ O (zAv O O O)<|G O<|rL0 O (fun g1_2=>zM O O) O<|B 6 O (fun g1_2=>zBg O un9 O) O<|B 7 O (fun g1_2=>wL O O O) O<|yW O (fun h=>h)<|G O<|rL0 O (fun g1_7=>zM O O) O<|B 11 O (fun g1_7=>zDt O un9 O O (by decide) (size_pos (nm1 g1_7))) O<|B 12 O (fun g1_7=>zFs O us5 ik21 O) O<|B 13 O (fun g1_7=>qR O ok137 (zPo _) ⟨zB,O,T⟩) O<|yW O (fun h=>h)<|G O<|rL0 O (fun g1_13=>zM O O) O<|B 17 O (fun g1_13=>qR O ok138 (zOs s (nm2 g1_13)) ⟨zB,O,zB,O,T⟩) O<|rL0 O (fun g1_13=>zM O O) O<|B 19 O (fun g1_13=>zBg O un9 O) O<|rLz [(18,_),(20,_)] O gv1 ⟨O,O,O,O,T⟩ (fun g1_13=>kH O O O) O<|yW O (fun h=>h)<|G O<|rL0 O (fun g1_20=>zM O O) O<|B 24 O (fun g1_20=>qR O ok140 (zTe _) ⟨zB,O,T⟩) O<|B 25 O (fun g1_20=>wJ O O) O<|yW O (fun h=>h)<|G O<|zA<|zN<|zV O ?_
 exact congrArg vB (isName_eq s)
theorem base_Words  :
    Pur cfg 156 [] (vSs fD):=by
 refine zW Tryz.func156 O Tryz.ntmps156 Tryz.results156 O ?_
 intro z hz
 refine R O<|zZ O (yO 1 O O)<|zA<|R O<|zZ O (yJ O el78 zr9 O O O O)<|G O<|zA<|zN<|zV O ?_
 exact O
theorem zRj (l:List ByteArray) (s:ByteArray) (hl:l.length<=6000000000000):
    Pur cfg 94 [vSs l,vS s] (vB (bR l s)):=by
 refine zW Tryz.func94 O Tryz.ntmps94 Tryz.results94 O ?_
 intro z hz
 refine R O<|G O<|zA<|zF<|R O<|G O<|zA<|zP<|zU ⟨[(5,.c _),(0,.c _),(1,.c _)],[]⟩ (Weak.mk [] ⟨zB,zB,zB,T⟩ O)<|qF 1 0 O O (Nat) (fun k=>[(5,vI k)]) (fun k=>[]) (fun k=>k<=l.length/\bR (l.take k) s=false) (fun k=>l.length-k) ⟨0,⟨by omega,O⟩,Weak.mk [] ⟨zB,zB,zB,T⟩ O⟩ ?_
 rintro k ⟨hk,hp⟩
 refine zF<|R O<|G O<|G O<|qD O el78<|yC O<|zA<|zD O (fun c1=>?_) (fun c1=>?_)
 ·try simp only [sx] at c1
  obtain ⟨t,ht⟩:=qU l k (by omega)
  refine zI<|zF<|zP<|R O<|G O<|G O<|zY O el78 (by omega) (v ht)<|zE one9 zO O<|G O<|zZ O (kE O O O)<|zA<|zD O (fun c2=>?_) (fun c2=>?_)
  ·try simp only [sx] at c2
   refine R O<|G O<|zA<|zN<|zV O ?_
   rw [kK ht c2]
  ·try simp only [sx] at c2
   refine zI<|zK O<|G O<|qA O ⟨by omega,by omega⟩<|G O<|zA ?_
   refine ⟨k+1,⟨by omega,zJg ht hp c2⟩,(by omega),Weak.mk [] ⟨zB,zB,zB,T⟩ O⟩
 ·try simp only [sx] at c1
  refine qK<|R O<|G O<|zA<|zN<|zV O ?_
  rw [show bR l s=false by rw [qX (by omega)] at hp;exact hp]
theorem zGv (s:ByteArray):
    Pur cfg 120 [vS s] (vB (bM s)):=by
 refine zW Tryz.func120 O Tryz.ntmps120 Tryz.results120 O ?_
 intro z hz
 refine R O<|G O<|zA<|zF<|R O<|G O<|zZ O (zBg O un9 O)<|yC O<|G O<|rL0 O (fun g1_3=>zM O O) O<|B 9 O (fun g1_3=>zBg O un9 O) O<|B 10 O (fun g1_3=>yH O O O) O<|r_or O (fun h=>(lzf h))<|G O<|rL0 O (fun g1_8=>qR O ok156 (base_Words) T) O<|rL0 O (fun g1_8=>zM O O) O<|rLz [(14,_),(15,_)] O gv1 ⟨O,O,O,O,T⟩ (fun g1_8=>qR O ok94 (zRj _ _ (by decide)) ⟨zB,O,zB,O,T⟩) O<|r_or O (fun h=>(lzf h))<|zA<|zD O (fun c1=>?_) (fun c1=>?_)
 ·try simp only [sx] at c1
  have hno:=name_short (s:=s) (by simpa using c1)
  refine R O<|G O<|zA<|zN<|zV O ?_
  rw [hno]
 ·try simp only [sx] at c1
  obtain ⟨⟨n1,n2⟩,n3⟩:=c1
  have n1:1<=s.size:=by omega
  have n2:s.size<=16:=by omega
  have hne:=name_end n1 n2 n3
  refine zI<|zF<|R O<|G O<|zA<|zP<|zU ⟨[(3,.c _),(0,.c _)],[]⟩ (Weak.mk [] ⟨zB,zB,T⟩ O)<|qF 1 0 O O (Nat) (fun k=>[(3,vI k)]) (fun k=>[]) (fun k=>k<=s.size/\pL s k=true) (fun k=>s.size-k) ⟨0,⟨by omega,O⟩,Weak.mk [] ⟨zB,zB,T⟩ O⟩ ?_
  rintro k ⟨hk,hp⟩
  refine zF<|R O<|G O<|G O<|zZ O (zBg O un9 O)<|yC O<|zA<|zD O (fun c2=>?_) (fun c2=>?_)
  ·try simp only [sx] at c2
   have hlt:k<s.size:=by omega
   refine zI<|zF<|zP<|R O<|G O<|G O<|zZ O (zDt O un9 O O (by omega) (by omega))<|G O<|zA<|R O<|G O<|zZ O (kY O O O)<|G O<|rL0 O (fun g7_2=>zM O O) O<|B 30 O (fun g7_2=>wL O O O) O<|yW O (fun h=>h)<|G O<|rL0 O (fun g7_6=>zM O O) O<|B 34 O (fun g7_6=>yH O O O) O<|B 35 O (fun g7_6=>zM O O) O<|rLz [] O N T (fun g7_9=>zM O O) O<|rLz [(37,_)] O N ⟨O,O,T⟩ (fun g7_9=>kY O O O) O<|rLz [(38,_)] O N ⟨O,O,T⟩ (fun g7_9=>zM O O) O<|rLz [] O N T (fun g7_12=>zM O O) O<|rLz [(40,_)] O N ⟨O,O,T⟩ (fun g7_12=>wL O O O) O<|rLz [(39,_)] O N ⟨O,O,T⟩ (fun g7_9=>wV O O O (fun h=>kO (by assumption) h) O) O<|rLz [(42,_)] O N ⟨O,O,T⟩ (fun g7_9=>zM O O) O<|rLz [] O N T (fun g7_16=>zM O O) O<|rLz [(44,_)] O N ⟨O,O,T⟩ (fun g7_16=>kH O O O) O<|rLz [(43,_)] O N ⟨O,O,T⟩ (fun g7_9=>zAq O O O O (fun h=>kO (by assumption) (lzf h))) O<|B 36 O (fun g7_6=>wV O O O (fun h=>kO (by assumption) h) O) O<|r_or O (fun h=>(lzf h))<|wE O<|zA<|zD O (fun c3=>?_) (fun c3=>?_)
   ·have hbad:pL s (k+1)=false:=by rw [okTo_next,show nI k (s.data.toList.getD k 0)=false from (Bool.not_eq_true' _).mp c3];simp
    refine R O<|G O<|zA<|zN<|zV O ?_
    rw [hne];cases ho:pL s s.size;rfl;exact absurd (okTo_le (k:=k+1) (by omega) ho) (by rw [hbad];simp)
   ·have hgood:pL s (k+1)=true:=by rw [okTo_next,hp,show nI k (s.data.toList.getD k 0)=true from (Bool.not_eq_false' _).mp c3];rfl
    refine zI<|zK O<|G O<|qA O ⟨by omega,by omega⟩<|G O<|zA ?_
    refine ⟨k+1,⟨by omega,hgood⟩,(by omega),Weak.mk [] ⟨zB,zB,T⟩ O⟩
  ·try simp only [sx] at c2
   refine qK<|R O<|G O<|zA<|zN<|zV O ?_
   rw [hne,show s.size=k by omega,hp]
theorem lin_reserved (s:ByteArray):
    Pur cfg 299 [vS s] (vB (bR fD s)):=by
 refine zW Tryz.func299 O Tryz.ntmps299 Tryz.results299 O ?_
 intro z hz
 refine R O<|G O<|zA<|zF<|R O<|G O<|zA<|zP<|zF<|R O<|zZ O (kE O O O)<|G O<|zA<|zD O (fun c1=>?_) (fun c1=>?_)
 ·try simp only [sx] at c1
  refine zI<|zD O (fun c22=>?_) (fun c22=>?_)
  ·refine R O<|G O<|zA<|zN<|zV O ?_
   rw [kK (l:=fD) (k:=0) rfl c1.symm]
  ·try simp only [sx] at c22
   refine zI<|R O<|G O<|zA<|zN<|zV O ?_
   exact absurd c1 c22
 ·try simp only [sx] at c1
  refine R O<|zZ O (kE O O O)<|G O<|zA<|zD O (fun c2=>?_) (fun c2=>?_)
  ·try simp only [sx] at c2
   refine zI<|zD O (fun c22=>?_) (fun c22=>?_)
   ·refine R O<|G O<|zA<|zN<|zV O ?_
    rw [kK (l:=fD) (k:=1) rfl c2.symm]
   ·try simp only [sx] at c22
    refine zI<|R O<|G O<|zA<|zN<|zV O ?_
    exact absurd c2 c22
  ·try simp only [sx] at c2
   refine R O<|zZ O (kE O O O)<|G O<|zA<|zD O (fun c3=>?_) (fun c3=>?_)
   ·try simp only [sx] at c3
    refine zI<|zD O (fun c22=>?_) (fun c22=>?_)
    ·refine R O<|G O<|zA<|zN<|zV O ?_
     rw [kK (l:=fD) (k:=2) rfl c3.symm]
    ·try simp only [sx] at c22
     refine zI<|R O<|G O<|zA<|zN<|zV O ?_
     exact absurd c3 c22
   ·try simp only [sx] at c3
    refine R O<|zZ O (kE O O O)<|G O<|zA<|zD O (fun c4=>?_) (fun c4=>?_)
    ·try simp only [sx] at c4
     refine zI<|zD O (fun c22=>?_) (fun c22=>?_)
     ·refine R O<|G O<|zA<|zN<|zV O ?_
      rw [kK (l:=fD) (k:=3) rfl c4.symm]
     ·try simp only [sx] at c22
      refine zI<|R O<|G O<|zA<|zN<|zV O ?_
      exact absurd c4 c22
    ·try simp only [sx] at c4
     refine R O<|zZ O (kE O O O)<|G O<|zA<|zD O (fun c5=>?_) (fun c5=>?_)
     ·try simp only [sx] at c5
      refine zI<|zD O (fun c22=>?_) (fun c22=>?_)
      ·refine R O<|G O<|zA<|zN<|zV O ?_
       rw [kK (l:=fD) (k:=4) rfl c5.symm]
      ·try simp only [sx] at c22
       refine zI<|R O<|G O<|zA<|zN<|zV O ?_
       exact absurd c5 c22
     ·try simp only [sx] at c5
      refine R O<|zZ O (kE O O O)<|G O<|zA<|zD O (fun c6=>?_) (fun c6=>?_)
      ·try simp only [sx] at c6
       refine zI<|zD O (fun c22=>?_) (fun c22=>?_)
       ·refine R O<|G O<|zA<|zN<|zV O ?_
        rw [kK (l:=fD) (k:=5) rfl c6.symm]
       ·try simp only [sx] at c22
        refine zI<|R O<|G O<|zA<|zN<|zV O ?_
        exact absurd c6 c22
      ·try simp only [sx] at c6
       refine R O<|zZ O (kE O O O)<|G O<|zA<|zD O (fun c7=>?_) (fun c7=>?_)
       ·try simp only [sx] at c7
        refine zI<|zD O (fun c22=>?_) (fun c22=>?_)
        ·refine R O<|G O<|zA<|zN<|zV O ?_
         rw [kK (l:=fD) (k:=6) rfl c7.symm]
        ·try simp only [sx] at c22
         refine zI<|R O<|G O<|zA<|zN<|zV O ?_
         exact absurd c7 c22
       ·try simp only [sx] at c7
        refine R O<|zZ O (kE O O O)<|G O<|zA<|zD O (fun c8=>?_) (fun c8=>?_)
        ·try simp only [sx] at c8
         refine zI<|zD O (fun c22=>?_) (fun c22=>?_)
         ·refine R O<|G O<|zA<|zN<|zV O ?_
          rw [kK (l:=fD) (k:=7) rfl c8.symm]
         ·try simp only [sx] at c22
          refine zI<|R O<|G O<|zA<|zN<|zV O ?_
          exact absurd c8 c22
        ·try simp only [sx] at c8
         refine R O<|zZ O (kE O O O)<|G O<|zA<|zD O (fun c9=>?_) (fun c9=>?_)
         ·try simp only [sx] at c9
          refine zI<|zD O (fun c22=>?_) (fun c22=>?_)
          ·refine R O<|G O<|zA<|zN<|zV O ?_
           rw [kK (l:=fD) (k:=8) rfl c9.symm]
          ·try simp only [sx] at c22
           refine zI<|R O<|G O<|zA<|zN<|zV O ?_
           exact absurd c9 c22
         ·try simp only [sx] at c9
          refine R O<|zZ O (kE O O O)<|G O<|zA<|zD O (fun c10=>?_) (fun c10=>?_)
          ·try simp only [sx] at c10
           refine zI<|zD O (fun c22=>?_) (fun c22=>?_)
           ·refine R O<|G O<|zA<|zN<|zV O ?_
            rw [kK (l:=fD) (k:=9) rfl c10.symm]
           ·try simp only [sx] at c22
            refine zI<|R O<|G O<|zA<|zN<|zV O ?_
            exact absurd c10 c22
          ·try simp only [sx] at c10
           refine R O<|zZ O (kE O O O)<|G O<|zA<|zD O (fun c11=>?_) (fun c11=>?_)
           ·try simp only [sx] at c11
            refine zI<|zD O (fun c22=>?_) (fun c22=>?_)
            ·refine R O<|G O<|zA<|zN<|zV O ?_
             rw [kK (l:=fD) (k:=10) rfl c11.symm]
            ·try simp only [sx] at c22
             refine zI<|R O<|G O<|zA<|zN<|zV O ?_
             exact absurd c11 c22
           ·try simp only [sx] at c11
            refine R O<|zZ O (kE O O O)<|G O<|zA<|zD O (fun c12=>?_) (fun c12=>?_)
            ·try simp only [sx] at c12
             refine zI<|zD O (fun c22=>?_) (fun c22=>?_)
             ·refine R O<|G O<|zA<|zN<|zV O ?_
              rw [kK (l:=fD) (k:=11) rfl c12.symm]
             ·try simp only [sx] at c22
              refine zI<|R O<|G O<|zA<|zN<|zV O ?_
              exact absurd c12 c22
            ·try simp only [sx] at c12
             refine R O<|zZ O (kE O O O)<|G O<|zA<|zD O (fun c13=>?_) (fun c13=>?_)
             ·try simp only [sx] at c13
              refine zI<|zD O (fun c22=>?_) (fun c22=>?_)
              ·refine R O<|G O<|zA<|zN<|zV O ?_
               rw [kK (l:=fD) (k:=12) rfl c13.symm]
              ·try simp only [sx] at c22
               refine zI<|R O<|G O<|zA<|zN<|zV O ?_
               exact absurd c13 c22
             ·try simp only [sx] at c13
              refine R O<|zZ O (kE O O O)<|G O<|zA<|zD O (fun c14=>?_) (fun c14=>?_)
              ·try simp only [sx] at c14
               refine zI<|zD O (fun c22=>?_) (fun c22=>?_)
               ·refine R O<|G O<|zA<|zN<|zV O ?_
                rw [kK (l:=fD) (k:=13) rfl c14.symm]
               ·try simp only [sx] at c22
                refine zI<|R O<|G O<|zA<|zN<|zV O ?_
                exact absurd c14 c22
              ·try simp only [sx] at c14
               refine R O<|zZ O (kE O O O)<|G O<|zA<|zD O (fun c15=>?_) (fun c15=>?_)
               ·try simp only [sx] at c15
                refine zI<|zD O (fun c22=>?_) (fun c22=>?_)
                ·refine R O<|G O<|zA<|zN<|zV O ?_
                 rw [kK (l:=fD) (k:=14) rfl c15.symm]
                ·try simp only [sx] at c22
                 refine zI<|R O<|G O<|zA<|zN<|zV O ?_
                 exact absurd c15 c22
               ·try simp only [sx] at c15
                refine R O<|zZ O (kE O O O)<|G O<|zA<|zD O (fun c16=>?_) (fun c16=>?_)
                ·try simp only [sx] at c16
                 refine zI<|zD O (fun c22=>?_) (fun c22=>?_)
                 ·refine R O<|G O<|zA<|zN<|zV O ?_
                  rw [kK (l:=fD) (k:=15) rfl c16.symm]
                 ·try simp only [sx] at c22
                  refine zI<|R O<|G O<|zA<|zN<|zV O ?_
                  exact absurd c16 c22
                ·try simp only [sx] at c16
                 refine R O<|zZ O (kE O O O)<|G O<|zA<|zD O (fun c17=>?_) (fun c17=>?_)
                 ·try simp only [sx] at c17
                  refine zI<|zD O (fun c22=>?_) (fun c22=>?_)
                  ·refine R O<|G O<|zA<|zN<|zV O ?_
                   rw [kK (l:=fD) (k:=16) rfl c17.symm]
                  ·try simp only [sx] at c22
                   refine zI<|R O<|G O<|zA<|zN<|zV O ?_
                   exact absurd c17 c22
                 ·try simp only [sx] at c17
                  refine R O<|zZ O (kE O O O)<|G O<|zA<|zD O (fun c18=>?_) (fun c18=>?_)
                  ·try simp only [sx] at c18
                   refine zI<|zD O (fun c22=>?_) (fun c22=>?_)
                   ·refine R O<|G O<|zA<|zN<|zV O ?_
                    rw [kK (l:=fD) (k:=17) rfl c18.symm]
                   ·try simp only [sx] at c22
                    refine zI<|R O<|G O<|zA<|zN<|zV O ?_
                    exact absurd c18 c22
                  ·try simp only [sx] at c18
                   refine R O<|zZ O (kE O O O)<|G O<|zA<|zD O (fun c19=>?_) (fun c19=>?_)
                   ·try simp only [sx] at c19
                    refine zI<|zD O (fun c22=>?_) (fun c22=>?_)
                    ·refine R O<|G O<|zA<|zN<|zV O ?_
                     rw [kK (l:=fD) (k:=18) rfl c19.symm]
                    ·try simp only [sx] at c22
                     refine zI<|R O<|G O<|zA<|zN<|zV O ?_
                     exact absurd c19 c22
                   ·try simp only [sx] at c19
                    refine R O<|zZ O (kE O O O)<|G O<|zA<|zD O (fun c20=>?_) (fun c20=>?_)
                    ·try simp only [sx] at c20
                     refine zI<|zD O (fun c22=>?_) (fun c22=>?_)
                     ·refine R O<|G O<|zA<|zN<|zV O ?_
                      rw [kK (l:=fD) (k:=19) rfl c20.symm]
                     ·try simp only [sx] at c22
                      refine zI<|R O<|G O<|zA<|zN<|zV O ?_
                      exact absurd c20 c22
                    ·try simp only [sx] at c20
                     refine R O<|zZ O (kE O O O)<|G O<|zA<|zD O (fun c21=>?_) (fun c21=>?_)
                     ·try simp only [sx] at c21
                      refine zI<|zD O (fun c22=>?_) (fun c22=>?_)
                      ·refine R O<|G O<|zA<|zN<|zV O ?_
                       rw [kK (l:=fD) (k:=20) rfl c21.symm]
                      ·try simp only [sx] at c22
                       refine zI<|R O<|G O<|zA<|zN<|zV O ?_
                       exact absurd c21 c22
                     ·try simp only [sx] at c21
                      refine zK O<|zZ O (kE O O O)<|G O<|zA<|zD O (fun c22=>?_) (fun c22=>?_)
                      ·try simp only [sx] at c22
                       refine R O<|G O<|zA<|zN<|zV O ?_
                       rw [kK (l:=fD) (k:=21) rfl c22.symm]
                      ·try simp only [sx] at c22
                       refine zI<|R O<|G O<|zA<|zN<|zV O ?_
                       rw [show bR fD s=false by
                         simp only [bR,fD,List.any_cons,List.any_nil,Bool.or_eq_false_iff,decide_eq_false_iff_not]
                         exact ⟨fun h=>c1 h.symm,fun h=>c2 h.symm,fun h=>c3 h.symm,fun h=>c4 h.symm,fun h=>c5 h.symm,fun h=>c6 h.symm,fun h=>c7 h.symm,fun h=>c8 h.symm,fun h=>c9 h.symm,fun h=>c10 h.symm,fun h=>c11 h.symm,fun h=>c12 h.symm,fun h=>c13 h.symm,fun h=>c14 h.symm,fun h=>c15 h.symm,fun h=>c16 h.symm,fun h=>c17 h.symm,fun h=>c18 h.symm,fun h=>c19 h.symm,fun h=>c20 h.symm,fun h=>c21 h.symm,fun h=>c22 h.symm,T⟩]
theorem lin_identifier (s:ByteArray):
    Pur cfg 283 [vS s] (vB (bM s)):=by
 refine zW Tryz.func283 O Tryz.ntmps283 Tryz.results283 O ?_
 intro z hz
 refine R O<|G O<|zA<|zF<|R O<|G O<|zZ O (zBg O un9 O)<|yC O<|G O<|rL0 O (fun g1_3=>zM O O) O<|B 9 O (fun g1_3=>zBg O un9 O) O<|B 10 O (fun g1_3=>yH O O O) O<|r_or O (fun h=>(lzf h))<|G O<|rL0 O (fun g1_8=>zM O O) O<|B 14 O (fun g1_8=>qR O ok299 (lin_reserved _) ⟨zB,O,T⟩) O<|r_or O (fun h=>(lzf h))<|G O<|rL0 O (fun g1_12=>zM O O) O<|B 18 O (fun g1_12=>zDt O un9 O O (by decide) (by simp only [Lz,cond_true,cond_false,Bool.and_eq_true,Bool.or_eq_true,Bool.not_eq_true',Bool.not_eq_false',Bool.or_eq_false_iff,Bool.and_eq_false_iff,decide_eq_true_eq,decide_eq_false_iff_not,Bool.not_eq_true,Bool.not_eq_false] at g1_12;omega)) O<|B 19 O (fun g1_12=>kM O O O) O<|r_or O (fun h=>(lzf h))<|G O<|rL0 O (fun g1_17=>zM O O) O<|B 23 O (fun g1_17=>zDt O un9 O O (by decide) (by simp only [Lz,cond_true,cond_false,Bool.and_eq_true,Bool.or_eq_true,Bool.not_eq_true',Bool.not_eq_false',Bool.or_eq_false_iff,Bool.and_eq_false_iff,decide_eq_true_eq,decide_eq_false_iff_not,Bool.not_eq_true,Bool.not_eq_false] at g1_17;omega)) O<|B 24 O (fun g1_17=>yH O O O) O<|r_or O (fun h=>(lzf h))<|zA<|zD O (fun c1=>?_) (fun c1=>?_)
 ·have hno:=ident_no c1
  refine R O<|G O<|zA<|zN<|zV O ?_
  rw [hno]
 ·obtain ⟨n1,n2,hne⟩:=ident_yes c1
  refine zI<|zF<|R O<|G O<|zZ O (zBg O un9 O)<|G O<|zA<|zP<|zU ⟨[(29,.c _),(0,.c _),(28,.c _)],[]⟩ (Weak.mk [] ⟨zB,zB,zB,T⟩ O)<|qF 1 0 O O (Nat) (fun k=>[(29,vI k)]) (fun k=>[]) (fun k=>k<=s.size/\(s.data.toList.take k).all fU=true) (fun k=>s.size-k) ⟨0,⟨by omega,O⟩,Weak.mk [] ⟨zB,zB,zB,T⟩ O⟩ ?_
  rintro k ⟨hk,hp⟩
  refine R O<|yC O<|zA<|zF<|zD O (fun c2=>?_) (fun c2=>?_)
  ·try simp only [sx] at c2
   have hlt:k<s.size:=by omega
   refine zI<|zF<|zP<|R O<|G O<|G O<|zA<|R O<|G O<|G O<|zZ O (zDt O un9 O O (by omega) (by omega))<|G O<|zA<|R O<|G O<|yC O<|G O<|rL0 O (fun g7_2=>zM O O) O<|B 38 O (fun g7_2=>yH O O O) O<|r_or O (fun h=>(lzf h))<|G O<|rL0 O (fun g7_6=>zM O O) O<|B 42 O (fun g7_6=>kM O O O) O<|B 43 O (fun g7_6=>zM O O) O<|rLz [] O N T (fun g7_9=>zM O O) O<|rLz [(45,_)] O N ⟨O,O,T⟩ (fun g7_9=>yH O O O) O<|B 44 O (fun g7_6=>zAq O O O O (fun h=>kO (by assumption) (lzf h))) O<|yW O (fun h=>h)<|G O<|rL0 O (fun g7_14=>zM O O) O<|B 50 O (fun g7_14=>zAi O O O) O<|yW O (fun h=>h)<|zA<|zD O (fun c3=>?_) (fun c3=>?_)
   ·have hbad:=word_no hlt c3
    refine R O<|G O<|zA<|zN<|zV O ?_
    rw [hne,hbad]
   ·have hgood:=word_yes hlt hp c3
    refine zI<|zK O<|qA O ⟨by omega,by omega⟩<|G O<|zA ?_
    refine ⟨k+1,⟨by omega,hgood⟩,(by omega),Weak.mk [] ⟨zB,zB,zB,T⟩ O⟩
  ·try simp only [sx] at c2
   refine qK<|R O<|G O<|zA<|zN<|zV O ?_
   rw [hne,word_all hp (by omega)]
theorem lin_Validate (l:Lf) (hl:l.L.length<=6000000000000):
    Pur cfg 247 [jU l] (vI (nK l)):=by
 refine zW Tryz.func247 O Tryz.ntmps247 Tryz.results247 O ?_
 intro z hz
 refine R O<|zS O O (qP O O) ?_
 rintro _ _ ⟨b1,rfl,rfl⟩
 refine G O<|zA<|zF<|R O<|zJ O zAg<|zE zCj (A 0 O) O<|qD O el52<|G O<|zA<|zP<|zU ⟨[(8,.c _),(1,.c _),(6,.c _),(7,.c _)],[_]⟩ (Weak.mk [true] ⟨zB,zB,zB,zB,T⟩ O)<|qF 1 0 O O (Nat) (fun k=>[(8,vI k)]) (fun k=>[]) (fun k=>k<=l.L.length/\(fW l=lR (mI l.L k) (l.L.drop k))) (fun k=>l.L.length-k) ⟨0,⟨by omega,O⟩,Weak.mk [true] ⟨zB,zB,zB,zB,T⟩ O⟩ ?_
 rintro k ⟨hk,hp⟩
 refine R O<|yC O<|zA<|zF<|zD O (fun c1=>?_) (fun c1=>?_)
 ·try simp only [sx] at c1
  obtain ⟨x,hx⟩:=qU l.L k (by omega)
  refine zI<|zF<|zP<|R O<|G O<|zY O el52 (by omega) (v (by assumption))<|zQ zKw zO O<|zS O O (yZ O zr205) ?_
  rintro _ _ ⟨b2,rfl,rfl⟩
  refine G O<|Y 0 sz205 O<|zA<|zF<|qW 25 mixed (by kernel_rfl) O O<|zL O O (zH O zDk O)<|zL O O (zC O one9 O (A 0 O) O)<|zL O O (qR O ok283 (lin_identifier _) ⟨zB,O,T⟩)<|zL O O (wJ O O)<|zL O O (zM O O)<|qJ [] O O O O gv1 T (fun g4_4=>zH O zFz O) O<|qJ [(18,_)] O O O O gv1 ⟨O,O,T⟩ (fun g4_4=>zC O one2 O (A 0 O) O) O<|qJ [(19,_)] O O O O gv1 ⟨O,O,T⟩ (fun g4_4=>kH O O O) O<|zL O O (zAq O O O O (fun h=>(lzf h)))<|zL O O (zM O O)<|qJ [] O O O O gv1 T (fun g4_9=>zM O O) O<|qJ [(23,_)] O O O O gv1 ⟨O,O,T⟩ (fun g4_9=>yH O O O) O<|qJ [(24,_)] O O O O gv1 ⟨O,O,T⟩ (fun g4_9=>zM O O) O<|qJ [] O O O O N T (fun g4_12=>zH O zAg O) O<|qJ [(26,_)] O O O O N ⟨O,O,T⟩ (fun g4_12=>zC O zCj O (A 1 O) O) O<|qJ [] O O O O N T (fun g4_12=>zM O O) O<|qJ [(28,_)] O O O O N ⟨O,O,T⟩ (fun g4_12=>kI O O O ⟨by omega,by omega⟩) O<|qJ [(27,_),(29,_)] O O O O N ⟨O,O,O,O,T⟩ (fun g4_12=>qH O el52 O O (by simp only [Lz,cond_true,cond_false,Bool.and_eq_true,Bool.or_eq_true,Bool.not_eq_true',Bool.not_eq_false',Bool.or_eq_false_iff,Bool.and_eq_false_iff,decide_eq_true_eq,decide_eq_false_iff_not,Bool.not_eq_true,Bool.not_eq_false] at g4_12;omega) (pv_get (by simp only [Lz,cond_true,cond_false,Bool.and_eq_true,Bool.or_eq_true,Bool.not_eq_true',Bool.not_eq_false',Bool.or_eq_false_iff,Bool.and_eq_false_iff,decide_eq_true_eq,decide_eq_false_iff_not,Bool.not_eq_true,Bool.not_eq_false] at g4_12;omega) (by omega))) O<|qJ [(30,_)] O O O O N ⟨O,O,T⟩ (fun g4_12=>qB O zDk O) O<|qJ [(31,_)] O O O O N ⟨O,O,T⟩ (fun g4_12=>zC O one9 O zO O) O<|qJ [] O O O O N T (fun g4_12=>zH O zDk O) O<|qJ [(33,_)] O O O O N ⟨O,O,T⟩ (fun g4_12=>zC O one9 O (A 0 O) O) O<|qJ [(32,_),(34,_)] O O O O N ⟨O,O,O,O,T⟩ (fun g4_12=>det_sgeq O O O) O<|qJ [(25,_)] O O O O gv1 ⟨O,O,T⟩ (fun g4_9=>wV O O O (fun h=>kO (by assumption) h) O) O<|zL O O (zAq O O O O (fun h=>(lzf h)))<|yM<|zA<|zD O (fun c2=>?_) (fun c2=>?_)
  ·refine R O<|G O<|zA<|zN<|zV O ?_
   rw [nK,hp,zJx hx,show vG l.L k x=true from c2];rfl
  ·refine zI<|zK O<|qA O ⟨by omega,by omega⟩<|G O<|zA ?_
   refine ⟨k+1,⟨by omega,by rw [hp,zJx hx,show vG l.L k x=false from c2];rfl⟩,(by omega),Weak.mk [false,true] ⟨zB,zB,zB,zB,T⟩ O⟩
 ·try simp only [sx] at c1
  refine qK<|R O<|G O<|zA<|zN<|zV O ?_
  rw [nK,hp,monos_end (by omega)];rfl
theorem zHv (l:Lf) (hl:l.L.length<=6000000000000):
    Pur cfg 260 [jU l] (vB (fW l)):=by
 refine zW Tryz.func260 O Tryz.ntmps260 Tryz.results260 O ?_
 intro z hz
 refine R O<|zS O O (qP O O) ?_
 rintro _ _ ⟨b1,rfl,rfl⟩
 refine G O<|zA<|zF<|R O<|G O<|zA<|zP<|zU ⟨[(3,.c _),(1,.c _)],[_]⟩ (Weak.mk [true] ⟨zB,zB,T⟩ O)<|qF 1 0 O O (Nat) (fun k=>[(3,vI k)]) (fun k=>[]) (fun k=>k<=l.L.length/\(fW l=lR (mI l.L k) (l.L.drop k))) (fun k=>l.L.length-k) ⟨0,⟨by omega,O⟩,Weak.mk [true] ⟨zB,zB,T⟩ O⟩ ?_
 rintro k ⟨hk,hp⟩
 refine zF<|R O<|G O<|zJ O zAg<|zE zCj (A 0 O) O<|qD O el52<|yC O<|zA<|zD O (fun c1=>?_) (fun c1=>?_)
 ·try simp only [sx] at c1
  obtain ⟨x,hx⟩:=qU l.L k (by omega)
  refine zI<|zF<|zP<|zF<|qW 37 mixed (by kernel_rfl) O O<|zL O O (zH O zAg O)<|zL O O (zC O zCj O (A 0 O) O)<|zL O O (zM O O)<|zL O O (qH O el52 O O (by omega) (v (by assumption)))<|zL O O (qB O zDk O)<|zL O O (zC O one9 O zO O)<|zL O O (qR O ok120 (zGv _) ⟨zB,O,T⟩)<|zL O O (wJ O O)<|zL O O (zM O O)<|qJ [] O O O O gv1 T (fun g4_8=>zH O zAg O) O<|qJ [(20,_)] O O O O gv1 ⟨O,O,T⟩ (fun g4_8=>zC O zCj O (A 0 O) O) O<|qJ [] O O O O gv1 T (fun g4_8=>zM O O) O<|qJ [(21,_),(22,_)] O O O O gv1 ⟨O,O,O,O,T⟩ (fun g4_8=>qH O el52 O O (by omega) (v (by assumption))) O<|qJ [(23,_)] O O O O gv1 ⟨O,O,T⟩ (fun g4_8=>qB O zFz O) O<|qJ [(24,_)] O O O O gv1 ⟨O,O,T⟩ (fun g4_8=>zC O one2 O zO O) O<|qJ [(25,_)] O O O O gv1 ⟨O,O,T⟩ (fun g4_8=>kH O O O) O<|zL O O (zAq O O O O (fun h=>(lzf h)))<|zL O O (zM O O)<|qJ [] O O O O gv1 T (fun g4_17=>zM O O) O<|qJ [(29,_)] O O O O gv1 ⟨O,O,T⟩ (fun g4_17=>yH O O O) O<|qJ [(30,_)] O O O O gv1 ⟨O,O,T⟩ (fun g4_17=>zM O O) O<|qJ [] O O O O N T (fun g4_20=>zH O zAg O) O<|qJ [(32,_)] O O O O N ⟨O,O,T⟩ (fun g4_20=>zC O zCj O (A 0 O) O) O<|qJ [] O O O O N T (fun g4_20=>zM O O) O<|qJ [(34,_)] O O O O N ⟨O,O,T⟩ (fun g4_20=>kI O O O ⟨by omega,by omega⟩) O<|qJ [(33,_),(35,_)] O O O O N ⟨O,O,O,O,T⟩ (fun g4_20=>qH O el52 O O (by simp only [Lz,cond_true,cond_false,Bool.and_eq_true,Bool.or_eq_true,Bool.not_eq_true',Bool.not_eq_false',Bool.or_eq_false_iff,Bool.and_eq_false_iff,decide_eq_true_eq,decide_eq_false_iff_not,Bool.not_eq_true,Bool.not_eq_false] at g4_20;omega) (pv_get (by simp only [Lz,cond_true,cond_false,Bool.and_eq_true,Bool.or_eq_true,Bool.not_eq_true',Bool.not_eq_false',Bool.or_eq_false_iff,Bool.and_eq_false_iff,decide_eq_true_eq,decide_eq_false_iff_not,Bool.not_eq_true,Bool.not_eq_false] at g4_20;omega) (by omega))) O<|qJ [(36,_)] O O O O N ⟨O,O,T⟩ (fun g4_20=>qB O zDk O) O<|qJ [(37,_)] O O O O N ⟨O,O,T⟩ (fun g4_20=>zC O one9 O zO O) O<|qJ [] O O O O N T (fun g4_20=>zH O zAg O) O<|qJ [(39,_)] O O O O N ⟨O,O,T⟩ (fun g4_20=>zC O zCj O (A 0 O) O) O<|qJ [] O O O O N T (fun g4_20=>zM O O) O<|qJ [(40,_),(41,_)] O O O O N ⟨O,O,O,O,T⟩ (fun g4_20=>qH O el52 O O (by omega) (v (by assumption))) O<|qJ [(42,_)] O O O O N ⟨O,O,T⟩ (fun g4_20=>qB O zDk O) O<|qJ [(43,_)] O O O O N ⟨O,O,T⟩ (fun g4_20=>zC O one9 O zO O) O<|qJ [(38,_),(44,_)] O O O O N ⟨O,O,O,O,T⟩ (fun g4_20=>det_sgeq O O O) O<|qJ [(31,_)] O O O O gv1 ⟨O,O,T⟩ (fun g4_17=>wV O O O (fun h=>kO (by assumption) h) O) O<|zL O O (zAq O O O O (fun h=>(lzf h)))<|yM<|zA<|zD O (fun c2=>?_) (fun c2=>?_)
  ·refine R O<|G O<|zA<|zN<|zV O ?_
   rw [hp,zJx hx,show vG l.L k x=true from c2];rfl
  ·refine zI<|zK O<|G O<|qA O ⟨by omega,by omega⟩<|G O<|zA ?_
   refine ⟨k+1,⟨by omega,by rw [hp,zJx hx,show vG l.L k x=false from c2];rfl⟩,(by omega),Weak.mk [true] ⟨zB,zB,T⟩ O⟩
 ·try simp only [sx] at c1
  refine qK<|R O<|G O<|zA<|zN<|zV O ?_
  rw [hp,monos_end (by omega)]
theorem base_Lin (a b:Lf) (ha:a.L.length<=6000000000000):
    Pur cfg 200 [jU a,jU b] (vB (decide (a=b))):=by
 refine zW Tryz.func200 O Tryz.ntmps200 Tryz.results200 O ?_
 intro z hz
 refine R O<|zS O O (qP O O) ?_
 rintro _ _ ⟨b1,rfl,rfl⟩
 refine zS O O (qP O O) ?_
 rintro _ _ ⟨b2,rfl,rfl⟩
 refine G O<|zA<|zF<|R O<|zJ O zFp<|zE one2 (A 1 O) O<|zJ O zFp<|zE one2 (A 0 O) O<|wA O<|G O<|rL0 O (fun g1_5=>zH O zAg O) O<|B 12 O (fun g1_5=>zC O zCj O (A 1 O) O) O<|B 13 O (fun g1_5=>yV O el52 O) O<|rL0 O (fun g1_5=>zH O zAg O) O<|B 15 O (fun g1_5=>zC O zCj O (A 0 O) O) O<|B 16 O (fun g1_5=>yV O el52 O) O<|rLz [(14,_),(17,_)] O gv1 ⟨O,O,O,O,T⟩ (fun g1_5=>zAi O O O) O<|r_or O (fun h=>(lzf h))<|zA<|zD O (fun c1=>?_) (fun c1=>?_)
 ·try simp only [sx] at c1
  refine R O<|G O<|zA<|zN<|zV O ?_
  rw [kL (fun h=>by rw [h] at c1;simp at c1)]
 ·try simp only [sx] at c1
  refine zI<|zF<|R O<|G O<|zA<|zP<|zU ⟨[(5,.c _),(2,.c _),(3,.c _)],[_,_]⟩ (Weak.mk [true,true] ⟨zB,zB,zB,T⟩ O)<|qF 1 0 O O (Nat) (fun k=>[(5,vI k)]) (fun k=>[]) (fun k=>k<=a.L.length/\(a.L.take k=b.L.take k)) (fun k=>a.L.length-k) ⟨0,⟨by omega,O⟩,Weak.mk [true,true] ⟨zB,zB,zB,T⟩ O⟩ ?_
  rintro k ⟨hk,hp⟩
  refine zF<|R O<|G O<|zJ O zAg<|zE zCj (A 1 O) O<|qD O el52<|yC O<|zA<|zD O (fun c2=>?_) (fun c2=>?_)
  ·try simp only [sx] at c2
   obtain ⟨x,hx⟩:=qU a.L k (by omega)
   obtain ⟨y,hy⟩:=qU b.L k (by omega)
   refine zI<|zF<|zP<|zF<|qW 11 mixed (by kernel_rfl) O O<|zL O O (zH O zAg O)<|zL O O (zC O zCj O (A 1 O) O)<|zL O O (zM O O)<|zL O O (qH O el52 O O (by omega) (v (by assumption)))<|zL O O (qC O zKw O zO O)<|zL O O (zH O zAg O)<|zL O O (zC O zCj O (A 0 O) O)<|zL O O (zM O O)<|zL O O (qH O el52 O O (by omega) (v (by assumption)))<|zL O O (qC O zKw O zO O)<|zL O O (zAw O fl205 O O O)<|yM<|zA<|zD O (fun c3=>?_) (fun c3=>?_)
   ·have hne:=mono_ne c3
    refine R O<|G O<|zA<|zN<|zV O ?_
    rw [kL (fun h=>zMt hx hy hne (by rw [h]))]
   ·have heq:=mono_eq c3
    refine zI<|zK O<|G O<|qA O ⟨by omega,by omega⟩<|G O<|zA ?_
    refine ⟨k+1,⟨by omega,zFe hx hy hp heq⟩,(by omega),Weak.mk [true,true] ⟨zB,zB,zB,T⟩ O⟩
  ·try simp only [sx] at c2
   refine qK<|R O<|G O<|zA<|zN<|zV O ?_
   rw [zAr (lin_mk (by omega) (zKd hp (by omega) (by omega)))]
theorem zIq (l:List Mono) (c:C) (p:Mono->Bool) (hl:l.length<=6000000000000) (hc:∀x,x∈l->FnPur cfg c [mZ x] (vB (p x))):
    Pur cfg 180 [rW l,.c c] (vI (gE p l)):=by
 refine zW Tryz.func180 O Tryz.ntmps180 Tryz.results180 O ?_
 intro z hz
 refine R O<|G O<|zA<|zF<|R O<|G O<|qD O el52<|G O<|zA<|zP<|zU ⟨[(8,.c _),(0,.c _),(1,.c _),(7,.c _)],[]⟩ (Weak.mk [] ⟨zB,zB,zB,zB,T⟩ O)<|qF 1 0 O O (Nat) (fun k=>[(8,vI k)]) (fun k=>[]) (fun k=>k<=l.length/\((l.take k).any p=false)) (fun k=>l.length-k) ⟨0,⟨by omega,O⟩,Weak.mk [] ⟨zB,zB,zB,zB,T⟩ O⟩ ?_
 rintro k ⟨hk,hp⟩
 refine R O<|yC O<|zA<|zF<|zD O (fun c1=>?_) (fun c1=>?_)
 ·try simp only [sx] at c1
  obtain ⟨x,hx⟩:=qU l k (by omega)
  refine zI<|zF<|zP<|R O<|G O<|G O<|zA<|R O<|G O<|G O<|G O<|zY O el52 (by omega) (v (by assumption))<|zQ zKw zO O<|zZ O (wK O O (hc _ (qE hx)) ⟨zB,O,T⟩)<|zA<|zD O (fun c2=>?_) (fun c2=>?_)
  ·exact k8
  ·exact r6
 ·exact m7
theorem zGe (l:List Mono) (c:C) (p:Mono->Bool) (hl:l.length<=6000000000000) (hc:∀x,x∈l->FnPur cfg c [mZ x] (vB (p x))):
    Pur cfg 149 [rW l,.c c] (vB (l.any p)):=by
 refine zW Tryz.func149 O Tryz.ntmps149 Tryz.results149 O ?_
 intro z hz
 refine R O<|G O<|zA<|R O<|G O<|G O<|qS O ok180 (zIq l c p hl hc) ⟨zB,O,zB,O,T⟩<|zZ O (kY O O O)<|G O<|zA<|zN<|zV O ?_
 rw [zDi]
theorem zLb (l:List Ix) (c:C) (p:Ix->Bool) (hl:l.length<=6000000000000) (hc:∀x,x∈l->FnPur cfg c [gK x] (vB (p x))):
    Pur cfg 296 [jQ l,.c c] (vI (gE p l)):=by
 refine zW Tryz.func296 O Tryz.ntmps296 Tryz.results296 O ?_
 intro z hz
 refine R O<|G O<|zA<|zF<|R O<|G O<|qD O el51<|G O<|zA<|zP<|zU ⟨[(8,.c _),(0,.c _),(1,.c _),(7,.c _)],[]⟩ (Weak.mk [] ⟨zB,zB,zB,zB,T⟩ O)<|qF 1 0 O O (Nat) (fun k=>[(8,vI k)]) (fun k=>[]) (fun k=>k<=l.length/\((l.take k).any p=false)) (fun k=>l.length-k) ⟨0,⟨by omega,O⟩,Weak.mk [] ⟨zB,zB,zB,zB,T⟩ O⟩ ?_
 rintro k ⟨hk,hp⟩
 refine R O<|yC O<|zA<|zF<|zD O (fun c1=>?_) (fun c1=>?_)
 ·try simp only [sx] at c1
  obtain ⟨x,hx⟩:=qU l k (by omega)
  refine zI<|zF<|zP<|R O<|G O<|G O<|zA<|R O<|G O<|G O<|G O<|zY O el51 (by omega) (v (by assumption))<|zQ zCr zO O<|zZ O (wK O O (hc _ (qE hx)) ⟨zB,O,T⟩)<|zA<|zD O (fun c2=>?_) (fun c2=>?_)
  ·exact k8
  ·exact r6
 ·exact m7
theorem zBn (l:List Ix) (c:C) (p:Ix->Bool) (hl:l.length<=6000000000000) (hc:∀x,x∈l->FnPur cfg c [gK x] (vB (p x))):
    Pur cfg 273 [jQ l,.c c] (vB (l.any p)):=by
 refine zW Tryz.func273 O Tryz.ntmps273 Tryz.results273 O ?_
 intro z hz
 refine R O<|G O<|zA<|R O<|G O<|G O<|qS O ok296 (zLb l c p hl hc) ⟨zB,O,zB,O,T⟩<|zZ O (kY O O O)<|G O<|zA<|zN<|zV O ?_
 rw [zDi]
end Go.W
