/-
  What functions compute.
  Conditions: none.
-/
import Derived.Test.YtgfomfnjionbeaaGreatDoorFacts
import Derived.Test.YtgfomfnjionbeaaGreatDoorPlain
set_option linter.unusedSimpArgs false
set_option linter.unusedVariables false
set_option maxRecDepth 10000
namespace Go.W
open Go Go.Eng Go.Proofs Go.L41 Go.Br
attribute [local irreducible] AWP RWP TD fQ
theorem kw_ascii:∀(j:Nat) (b:UInt8),(bs kwBytes).data.toList[j]? =some b->b.toNat<128:=by
  intro j b h
  have:(kwBytes.all fun c=>decide (c.toNat<128))=true:=by decide
  rw [List.all_eq_true] at this
  simpa using this b (List.mem_of_getElem? h)
theorem kw_fields:(Lib.fields kwBytes).map bs=fB:=by decide+kernel
theorem nm1 {s:ByteArray} (h:Lz (!decide (s=bs [])&&decide ((s.size:Int)<=16)) true=true):¬s=bs []:=by
  simp only [Lz,cond_true,Bool.and_eq_true,Bool.not_eq_true',decide_eq_false_iff_not] at h
  exact h.1
theorem nm2 {s:ByteArray} {p:Bool} (h:Lz (!decide (s=bs [])&&decide ((s.size:Int)<=16)&&p) true=true):s.size<=1000000:=by
  simp only [Lz,cond_true,Bool.and_eq_true,decide_eq_true_eq] at h
  omega
theorem kD:mJ Tryz.prog 59=some 2:=by kernel_rfl
theorem zJx:mJ Tryz.prog 93=some 4:=by kernel_rfl
theorem zEf:mJ Tryz.prog 139=some 2:=by kernel_rfl
theorem el25:dG Tryz.prog 25=some (9,1,16):=by kernel_rfl
theorem N:dG Tryz.prog 52=some (93,4,72):=by kernel_rfl
theorem U:dG Tryz.prog 57=some (139,2,24):=by kernel_rfl
theorem zEd:bD Tryz.prog 59 0=some (0,2):=by kernel_rfl
theorem wC:bD Tryz.prog 59 1=some (1,57):=by kernel_rfl
theorem wV:bD Tryz.prog 139 0=some (0,9):=by kernel_rfl
theorem zEi:bD Tryz.prog 139 1=some (1,2):=by kernel_rfl
theorem fl139:flatK Tryz.prog 139=some [.str,.int]:=by kernel_rfl
theorem ik21:sZ Tryz.prog 21=some .i32:=by kernel_rfl
theorem mixed:Tryz.prog.follows .mixedOrders=true:=by kernel_rfl
theorem ok20:bA Tryz.prog 20=true:=by kernel_rfl
theorem ok44:bA Tryz.prog 44=true:=by kernel_rfl
theorem ok46:bA Tryz.prog 46=true:=by kernel_rfl
theorem ok53:bA Tryz.prog 53=true:=by kernel_rfl
theorem ok54:bA Tryz.prog 54=true:=by kernel_rfl
theorem ok55:bA Tryz.prog 55=true:=by kernel_rfl
theorem ok56:bA Tryz.prog 56=true:=by kernel_rfl
theorem ok57:bA Tryz.prog 57=true:=by kernel_rfl
theorem ok73:bA Tryz.prog 73=true:=by kernel_rfl
theorem ok102:bA Tryz.prog 102=true:=by kernel_rfl
theorem ok110:bA Tryz.prog 110=true:=by kernel_rfl
theorem ok111:bA Tryz.prog 111=true:=by kernel_rfl
theorem ok136:bA Tryz.prog 136=true:=by kernel_rfl
theorem ok175:bA Tryz.prog 175=true:=by kernel_rfl
theorem ok303:bA Tryz.prog 303=true:=by kernel_rfl
theorem ok315:bA Tryz.prog 315=true:=by kernel_rfl
theorem W:gB Tryz.prog 2=true:=by kernel_rfl
theorem one9:gB Tryz.prog 9=true:=by kernel_rfl
theorem zBe:gB Tryz.prog 57=true:=by kernel_rfl
theorem pl59:dL Tryz.prog 59=some [(0,1),(1,1)]:=by kernel_rfl
theorem pl139:dL Tryz.prog 139=some [(0,1),(1,1)]:=by kernel_rfl
theorem sz59:(Tryz.prog.info? 59).map (·.size)=some 2:=by kernel_rfl
theorem sz139:(Tryz.prog.info? 139).map (·.size)=some 2:=by kernel_rfl
theorem un9:Tryz.prog.underlying 9=some .string:=by kernel_rfl
theorem us5:(Tryz.prog.underlying 5).isSome=true:=by kernel_rfl
theorem zr9:dO Tryz.prog 9=some [(Value.string (ByteArray.mk #[]))]:=by kernel_rfl
theorem zr59:dO Tryz.prog 59=some [(Value.int IntKind.i64 0),(Value.slice none 0 0)]:=by kernel_rfl
theorem zGb:dO Tryz.prog 139=some [(Value.string (ByteArray.mk #[])),(Value.int IntKind.i64 0)]:=by kernel_rfl
theorem zPs (n:Int):
    Pur cfg 53 [vR n] (vB (mN n)):=by
 refine zV Tryz.func53 O Tryz.ntmps53 Tryz.results53 O ?_
 exact o8
theorem lexer_digit (n:Int):
    Pur cfg 110 [vR n] (vB (tS n)):=by
 refine zV Tryz.func110 O Tryz.ntmps110 Tryz.results110 O ?_
 exact o8
theorem lexer_inWord (n:Int):
    Pur cfg 55 [vR n] (vB (rD n)):=by
 refine zV Tryz.func55 O Tryz.ntmps55 Tryz.results55 O ?_
 intro z hz
 refine Y O<|G O<|zA<|Y O<|G O<|qJ O ok53 (zPs _) ⟨zB,O,T⟩<|G O<|rL0 O (fun g1_2=>zP O O) O<|rL1 6 O (fun g1_2=>qS O ok110 (lexer_digit _) ⟨zB,O,T⟩) O<|r_or O (fun h=>(lzf h))<|G O<|rL0 O (fun g1_6=>zP O O) O<|rL1 10 O (fun g1_6=>yR O O O) O<|r_or O (fun h=>(lzf h))<|G O<|zA<|zJ<|zT O ?_
 exact O
theorem zOu (s:ByteArray) (hs:s.size<=1000000):
    Pur cfg 54 [vS s,.c (.fn (.func 55) [] [])] (vI (sJ gG s.data.toList)):=by
 refine zV Tryz.func54 O Tryz.ntmps54 Tryz.results54 O ?_
 intro z hz
 refine Y O<|G O<|zA<|Y O<|G O<|zA<|zH<|zR<|zU ⟨[(5,.c _),(0,.c _),(1,.c _)],[]⟩ (Weak.mk [] ⟨zB,zB,zB,T⟩ O)<|qF 1 0 O O (Nat) (fun k=>[(5,vI k)]) (fun k=>[]) (fun k=>k<=s.size/\(s.data.toList.take k).all gG=true) (fun k=>s.size-k) ⟨0,⟨zC,O⟩,Weak.mk [] ⟨zB,zB,zB,T⟩ O⟩ ?_
 rintro k ⟨hk,hp⟩
 refine zH<|Y O<|G O<|G O<|zW O (zBi O un9 O)<|yA O<|G O<|rL0 O (fun g2_4=>zP O O) O<|rL0 O (fun g2_4=>zP O O) O<|rL0 O (fun g2_4=>zP O O) O<|rLz [(12,_),(13,_)] O gv1 ⟨O,O,O,O,T⟩ (fun g2_4=>zDr O un9 O O zC (by simp only [Lz,cond_true,decide_eq_true_eq] at g2_4;omega)) O<|rL1 14 O (fun g2_4=>zCb O us5 ik21 O) O<|rLz [(11,_),(15,_)] O gv1 ⟨O,O,O,O,T⟩ (fun g2_4=>zCz O O ok55 (lexer_inWord _) ⟨zB,O,T⟩) O<|kB O (fun h=>h)<|zA<|zE O (fun c1=>?_) (fun c1=>?_)
 ·try simp only [sx] at c1
  obtain ⟨hlt,hcc⟩:=c1
  have hlt:k<s.size:=by omega
  rw [zLc] at hcc
  refine zI<|zR<|zO O<|G O<|qH O ⟨zC,zC⟩<|G O<|zA ?_
  have hg:=zDu hlt
  refine ⟨k+1,⟨zC,by rw [zNq hg,hp];exact hcc⟩,zC,Weak.mk [] ⟨zB,zB,zB,T⟩ O⟩
 ·try simp only [sx] at c1
  have hsp:sJ gG s.data.toList=k:=span_stop hp (by
    by_cases hlt:k<s.size
    · right;refine ⟨_,zDu hlt,?_⟩;rcases c1 with c1|c1;omega;rw [zLc] at c1;exact c1
    · left;simp;omega)
  refine qM<|Y O<|G O<|G O<|zA<|zJ<|zT O ?_
  rw [hsp]
theorem zQh (l:List ByteArray) (s:ByteArray) (hl:l.length<=6000000000000):
    Pur cfg 102 [vSs l,vS s] (vI (vW l s)):=by
 refine zV Tryz.func102 O Tryz.ntmps102 Tryz.results102 O ?_
 intro z hz
 refine Y O<|G O<|zA<|zH<|Y O<|G O<|qB O el25<|G O<|zA<|zR<|zU ⟨[(8,.c _),(0,.c _),(1,.c _),(7,.c _)],[]⟩ (Weak.mk [] ⟨zB,zB,zB,zB,T⟩ O)<|qF 1 0 O O (Nat) (fun k=>[(8,vI k)]) (fun k=>[]) (fun k=>k<=l.length/\bQ (l.take k) s=false) (fun k=>l.length-k) ⟨0,⟨zC,O⟩,Weak.mk [] ⟨zB,zB,zB,zB,T⟩ O⟩ ?_
 rintro k ⟨hk,hp⟩
 refine Y O<|yA O<|zA<|zH<|zE O (fun c1=>?_) (fun c1=>?_)
 ·try simp only [sx] at c1
  obtain ⟨t,ht⟩:=qV l k zC
  refine zI<|zH<|zR<|Y O<|G O<|G O<|zA<|Y O<|G O<|G O<|G O<|qE O el25 zC (getm ht)<|zG one9 qD O<|wD O<|zA<|zE O (fun c2=>?_) (fun c2=>?_)
  ·try simp only [sx] at c2
   refine Y O<|G O<|G O<|zA<|zJ<|zT O ?_
   rw [idxB_some ht c2 hp]
  ·try simp only [sx] at c2
   refine zI<|zO O<|qH O ⟨zC,zC⟩<|G O<|zA ?_
   refine ⟨k+1,⟨zC,zPu ht hp (fun e=>c2 e.symm)⟩,zC,Weak.mk [] ⟨zB,zB,zB,zB,T⟩ O⟩
 ·try simp only [sx] at c1
  refine qM<|Y O<|G O<|zA<|zJ<|zT O ?_
  rw [idxB_none (by rw [yD zC] at hp;exact hp)]
theorem zAh (l:List ByteArray) (s:ByteArray) (hl:l.length<=6000000000000):
    Pur cfg 44 [vSs l,vS s] (vB (bQ l s)):=by
 refine zV Tryz.func44 O Tryz.ntmps44 Tryz.results44 O ?_
 intro z hz
 refine Y O<|G O<|zA<|Y O<|G O<|G O<|qJ O ok102 (zQh l s hl) ⟨zB,O,zB,O,T⟩<|zW O (wQ O O O)<|G O<|zA<|zJ<|zT O ?_
 rw [idxB_has]
theorem lexer_keywords  :
    Pur cfg 111 [] (vSs fB):=by
 refine zV Tryz.func111 O Tryz.ntmps111 Tryz.results111 O ?_
 intro z hz
 refine Y O<|qX 1 O<|zA<|Y O<|qJ O ok175 (strings_Fields _ uA kw_ascii) ⟨zB,O,T⟩<|G O<|zA<|zJ<|zT O ?_
 exact congrArg vSs kw_fields
theorem zTi (s:ByteArray):
    Pur cfg 56 [vS s] (vB (bQ fB s)):=by
 refine zV Tryz.func56 O Tryz.ntmps56 Tryz.results56 O ?_
 intro z hz
 refine Y O<|G O<|zA<|Y O<|qJ O ok111 (lexer_keywords) T<|G O<|qJ O ok44 (zAh _ _ uA) ⟨zB,O,zB,O,T⟩<|G O<|zA<|zJ<|zT O ?_
 exact O
theorem zBr (s:ByteArray):
    Pur cfg 19 [vS s] (vB (bC s)):=by
 refine zV Tryz.func19 O Tryz.ntmps19 Tryz.results19 O ?_
 intro z hz
 refine Y O<|G O<|zA<|Y O<|G O<|zW O (zEt O O O)<|G O<|rL0 O (fun g1_2=>zP O O) O<|rL1 6 O (fun g1_2=>zBi O un9 O) O<|rL1 7 O (fun g1_2=>wN O O O) O<|kB O (fun h=>h)<|G O<|rL0 O (fun g1_7=>zP O O) O<|rL1 11 O (fun g1_7=>zDr O un9 O O uA (size_pos (nm1 g1_7))) O<|rL1 12 O (fun g1_7=>zCb O us5 ik21 O) O<|rL1 13 O (fun g1_7=>qS O ok53 (zPs _) ⟨zB,O,T⟩) O<|kB O (fun h=>h)<|G O<|rL0 O (fun g1_13=>zP O O) O<|rL1 17 O (fun g1_13=>qS O ok54 (zOu s (nm2 g1_13)) ⟨zB,O,zB,O,T⟩) O<|rL0 O (fun g1_13=>zP O O) O<|rL1 19 O (fun g1_13=>zBi O un9 O) O<|rLz [(18,_),(20,_)] O gv1 ⟨O,O,O,O,T⟩ (fun g1_13=>yR O O O) O<|kB O (fun h=>h)<|G O<|rL0 O (fun g1_20=>zP O O) O<|rL1 24 O (fun g1_20=>qS O ok56 (zTi _) ⟨zB,O,T⟩) O<|rL1 25 O (fun g1_20=>wJ O O) O<|kB O (fun h=>h)<|G O<|zA<|zJ<|zT O ?_
 exact congrArg vB (isName_eq s)
theorem base_Words  :
    Pur cfg 57 [] (vSs fB):=by
 refine zV Tryz.func57 O Tryz.ntmps57 Tryz.results57 O ?_
 intro z hz
 refine Y O<|qX 1 O<|zA<|Y O<|kA O el25 zr9<|G O<|zA<|zJ<|zT O ?_
 exact O
theorem base_Has (l:List ByteArray) (s:ByteArray) (hl:l.length<=6000000000000):
    Pur cfg 46 [vSs l,vS s] (vB (bQ l s)):=by
 refine zV Tryz.func46 O Tryz.ntmps46 Tryz.results46 O ?_
 intro z hz
 refine Y O<|G O<|zA<|zH<|Y O<|G O<|zA<|zR<|zU ⟨[(5,.c _),(0,.c _),(1,.c _)],[]⟩ (Weak.mk [] ⟨zB,zB,zB,T⟩ O)<|qF 1 0 O O (Nat) (fun k=>[(5,vI k)]) (fun k=>[]) (fun k=>k<=l.length/\bQ (l.take k) s=false) (fun k=>l.length-k) ⟨0,⟨zC,O⟩,Weak.mk [] ⟨zB,zB,zB,T⟩ O⟩ ?_
 rintro k ⟨hk,hp⟩
 refine zH<|Y O<|G O<|G O<|qB O el25<|yA O<|zA<|zE O (fun c1=>?_) (fun c1=>?_)
 ·try simp only [sx] at c1
  obtain ⟨t,ht⟩:=qV l k zC
  refine zI<|zH<|zR<|Y O<|G O<|G O<|qE O el25 zC (getm ht)<|zG one9 qD O<|G O<|wD O<|zA<|zE O (fun c2=>?_) (fun c2=>?_)
  ·try simp only [sx] at c2
   refine Y O<|G O<|zA<|zJ<|zT O ?_
   rw [kH ht c2]
  ·try simp only [sx] at c2
   refine zI<|zO O<|G O<|qH O ⟨zC,zC⟩<|G O<|zA ?_
   refine ⟨k+1,⟨zC,zPu ht hp c2⟩,zC,Weak.mk [] ⟨zB,zB,zB,T⟩ O⟩
 ·try simp only [sx] at c1
  refine qM<|Y O<|G O<|zA<|zJ<|zT O ?_
  rw [show bQ l s=false by rw [yD zC] at hp;exact hp]
theorem zGx (s:ByteArray):
    Pur cfg 20 [vS s] (vB (bC s)):=by
 refine zV Tryz.func20 O Tryz.ntmps20 Tryz.results20 O ?_
 intro z hz
 refine Y O<|G O<|zA<|zH<|Y O<|G O<|zW O (zBi O un9 O)<|yA O<|G O<|rL0 O (fun g1_3=>zP O O) O<|rL1 9 O (fun g1_3=>zBi O un9 O) O<|rL1 10 O (fun g1_3=>yF O O O) O<|r_or O (fun h=>(lzf h))<|G O<|rL0 O (fun g1_8=>qS O ok57 (base_Words) T) O<|rL0 O (fun g1_8=>zP O O) O<|rLz [(14,_),(15,_)] O gv1 ⟨O,O,O,O,T⟩ (fun g1_8=>qS O ok46 (base_Has _ _ uA) ⟨zB,O,zB,O,T⟩) O<|r_or O (fun h=>(lzf h))<|zA<|zE O (fun c1=>?_) (fun c1=>?_)
 ·try simp only [sx] at c1
  have hno:=name_short (s:=s) (by simpa using c1)
  refine Y O<|G O<|zA<|zJ<|zT O ?_
  rw [hno]
 ·try simp only [sx] at c1
  obtain ⟨⟨n1,n2⟩,n3⟩:=c1
  have n1:1<=s.size:=by omega
  have n2:s.size<=16:=by omega
  have hne:=name_end n1 n2 n3
  refine zI<|zH<|Y O<|G O<|zA<|zR<|zU ⟨[(3,.c _),(0,.c _)],[]⟩ (Weak.mk [] ⟨zB,zB,T⟩ O)<|qF 1 0 O O (Nat) (fun k=>[(3,vI k)]) (fun k=>[]) (fun k=>k<=s.size/\rX s k=true) (fun k=>s.size-k) ⟨0,⟨zC,O⟩,Weak.mk [] ⟨zB,zB,T⟩ O⟩ ?_
  rintro k ⟨hk,hp⟩
  refine zH<|Y O<|G O<|G O<|zW O (zBi O un9 O)<|yA O<|zA<|zE O (fun c2=>?_) (fun c2=>?_)
  ·try simp only [sx] at c2
   have hlt:k<s.size:=by omega
   refine zI<|zH<|zR<|Y O<|G O<|G O<|zW O (zDr O un9 O O zC zC)<|G O<|zA<|Y O<|G O<|zW O (wQ O O O)<|G O<|rL0 O (fun g7_2=>zP O O) O<|rL1 30 O (fun g7_2=>wN O O O) O<|kB O (fun h=>h)<|G O<|rL0 O (fun g7_6=>zP O O) O<|rL1 34 O (fun g7_6=>yF O O O) O<|rL1 35 O (fun g7_6=>zP O O) O<|rLz [] O gv2 T (fun g7_9=>zP O O) O<|rLz [(37,_)] O gv2 ⟨O,O,T⟩ (fun g7_9=>wQ O O O) O<|rLz [(38,_)] O gv2 ⟨O,O,T⟩ (fun g7_9=>zP O O) O<|rLz [] O gv2 T (fun g7_12=>zP O O) O<|rLz [(40,_)] O gv2 ⟨O,O,T⟩ (fun g7_12=>wN O O O) O<|rLz [(39,_)] O gv2 ⟨O,O,T⟩ (fun g7_9=>zAc O O O (fun h=>kM uD h) O) O<|rLz [(42,_)] O gv2 ⟨O,O,T⟩ (fun g7_9=>zP O O) O<|rLz [] O gv2 T (fun g7_16=>zP O O) O<|rLz [(44,_)] O gv2 ⟨O,O,T⟩ (fun g7_16=>yR O O O) O<|rLz [(43,_)] O gv2 ⟨O,O,T⟩ (fun g7_9=>zAy O O O O (fun h=>kM uD (lzf h))) O<|rL1 36 O (fun g7_6=>zAc O O O (fun h=>kM uD h) O) O<|r_or O (fun h=>(lzf h))<|kZ O<|zA<|zE O (fun c3=>?_) (fun c3=>?_)
   ·have hbad:rX s (k+1)=false:=by rw [okTo_next,show pQ k (s.data.toList.getD k 0)=false from (Bool.not_eq_true' _).mp c3];simp
    refine Y O<|G O<|zA<|zJ<|zT O ?_
    rw [hne];cases ho:rX s s.size;rfl;exact absurd (okTo_le (k:=k+1) zC ho) (by rw [hbad];simp)
   ·have hgood:rX s (k+1)=true:=by rw [okTo_next,hp,show pQ k (s.data.toList.getD k 0)=true from (Bool.not_eq_false' _).mp c3];rfl
    refine zI<|zO O<|G O<|qH O ⟨zC,zC⟩<|G O<|zA ?_
    refine ⟨k+1,⟨zC,hgood⟩,zC,Weak.mk [] ⟨zB,zB,T⟩ O⟩
  ·try simp only [sx] at c2
   refine qM<|Y O<|G O<|zA<|zJ<|zT O ?_
   rw [hne,show s.size=k by omega,hp]
theorem lin_reserved (s:ByteArray):
    Pur cfg 136 [vS s] (vB (bQ fB s)):=by
 refine zV Tryz.func136 O Tryz.ntmps136 Tryz.results136 O ?_
 intro z hz
 refine Y O<|G O<|zA<|zH<|Y O<|G O<|zA<|zR<|zH<|Y O<|wD O<|G O<|zA<|zE O (fun c1=>?_) (fun c1=>?_)
 ·try simp only [sx] at c1
  refine zI<|zE O (fun c22=>?_) (fun c22=>?_)
  ·refine Y O<|G O<|zA<|zJ<|zT O ?_
   rw [kH (l:=fB) (k:=0) rfl c1.symm]
  ·try simp only [sx] at c22
   refine zI<|Y O<|G O<|zA<|zJ<|zT O ?_
   exact absurd c1 c22
 ·try simp only [sx] at c1
  refine Y O<|wD O<|G O<|zA<|zE O (fun c2=>?_) (fun c2=>?_)
  ·try simp only [sx] at c2
   refine zI<|zE O (fun c22=>?_) (fun c22=>?_)
   ·refine Y O<|G O<|zA<|zJ<|zT O ?_
    rw [kH (l:=fB) (k:=1) rfl c2.symm]
   ·try simp only [sx] at c22
    refine zI<|Y O<|G O<|zA<|zJ<|zT O ?_
    exact absurd c2 c22
  ·try simp only [sx] at c2
   refine Y O<|wD O<|G O<|zA<|zE O (fun c3=>?_) (fun c3=>?_)
   ·try simp only [sx] at c3
    refine zI<|zE O (fun c22=>?_) (fun c22=>?_)
    ·refine Y O<|G O<|zA<|zJ<|zT O ?_
     rw [kH (l:=fB) (k:=2) rfl c3.symm]
    ·try simp only [sx] at c22
     refine zI<|Y O<|G O<|zA<|zJ<|zT O ?_
     exact absurd c3 c22
   ·try simp only [sx] at c3
    refine Y O<|wD O<|G O<|zA<|zE O (fun c4=>?_) (fun c4=>?_)
    ·try simp only [sx] at c4
     refine zI<|zE O (fun c22=>?_) (fun c22=>?_)
     ·refine Y O<|G O<|zA<|zJ<|zT O ?_
      rw [kH (l:=fB) (k:=3) rfl c4.symm]
     ·try simp only [sx] at c22
      refine zI<|Y O<|G O<|zA<|zJ<|zT O ?_
      exact absurd c4 c22
    ·try simp only [sx] at c4
     refine Y O<|wD O<|G O<|zA<|zE O (fun c5=>?_) (fun c5=>?_)
     ·try simp only [sx] at c5
      refine zI<|zE O (fun c22=>?_) (fun c22=>?_)
      ·refine Y O<|G O<|zA<|zJ<|zT O ?_
       rw [kH (l:=fB) (k:=4) rfl c5.symm]
      ·try simp only [sx] at c22
       refine zI<|Y O<|G O<|zA<|zJ<|zT O ?_
       exact absurd c5 c22
     ·try simp only [sx] at c5
      refine Y O<|wD O<|G O<|zA<|zE O (fun c6=>?_) (fun c6=>?_)
      ·try simp only [sx] at c6
       refine zI<|zE O (fun c22=>?_) (fun c22=>?_)
       ·refine Y O<|G O<|zA<|zJ<|zT O ?_
        rw [kH (l:=fB) (k:=5) rfl c6.symm]
       ·try simp only [sx] at c22
        refine zI<|Y O<|G O<|zA<|zJ<|zT O ?_
        exact absurd c6 c22
      ·try simp only [sx] at c6
       refine Y O<|wD O<|G O<|zA<|zE O (fun c7=>?_) (fun c7=>?_)
       ·try simp only [sx] at c7
        refine zI<|zE O (fun c22=>?_) (fun c22=>?_)
        ·refine Y O<|G O<|zA<|zJ<|zT O ?_
         rw [kH (l:=fB) (k:=6) rfl c7.symm]
        ·try simp only [sx] at c22
         refine zI<|Y O<|G O<|zA<|zJ<|zT O ?_
         exact absurd c7 c22
       ·try simp only [sx] at c7
        refine Y O<|wD O<|G O<|zA<|zE O (fun c8=>?_) (fun c8=>?_)
        ·try simp only [sx] at c8
         refine zI<|zE O (fun c22=>?_) (fun c22=>?_)
         ·refine Y O<|G O<|zA<|zJ<|zT O ?_
          rw [kH (l:=fB) (k:=7) rfl c8.symm]
         ·try simp only [sx] at c22
          refine zI<|Y O<|G O<|zA<|zJ<|zT O ?_
          exact absurd c8 c22
        ·try simp only [sx] at c8
         refine Y O<|wD O<|G O<|zA<|zE O (fun c9=>?_) (fun c9=>?_)
         ·try simp only [sx] at c9
          refine zI<|zE O (fun c22=>?_) (fun c22=>?_)
          ·refine Y O<|G O<|zA<|zJ<|zT O ?_
           rw [kH (l:=fB) (k:=8) rfl c9.symm]
          ·try simp only [sx] at c22
           refine zI<|Y O<|G O<|zA<|zJ<|zT O ?_
           exact absurd c9 c22
         ·try simp only [sx] at c9
          refine Y O<|wD O<|G O<|zA<|zE O (fun c10=>?_) (fun c10=>?_)
          ·try simp only [sx] at c10
           refine zI<|zE O (fun c22=>?_) (fun c22=>?_)
           ·refine Y O<|G O<|zA<|zJ<|zT O ?_
            rw [kH (l:=fB) (k:=9) rfl c10.symm]
           ·try simp only [sx] at c22
            refine zI<|Y O<|G O<|zA<|zJ<|zT O ?_
            exact absurd c10 c22
          ·try simp only [sx] at c10
           refine Y O<|wD O<|G O<|zA<|zE O (fun c11=>?_) (fun c11=>?_)
           ·try simp only [sx] at c11
            refine zI<|zE O (fun c22=>?_) (fun c22=>?_)
            ·refine Y O<|G O<|zA<|zJ<|zT O ?_
             rw [kH (l:=fB) (k:=10) rfl c11.symm]
            ·try simp only [sx] at c22
             refine zI<|Y O<|G O<|zA<|zJ<|zT O ?_
             exact absurd c11 c22
           ·try simp only [sx] at c11
            refine Y O<|wD O<|G O<|zA<|zE O (fun c12=>?_) (fun c12=>?_)
            ·try simp only [sx] at c12
             refine zI<|zE O (fun c22=>?_) (fun c22=>?_)
             ·refine Y O<|G O<|zA<|zJ<|zT O ?_
              rw [kH (l:=fB) (k:=11) rfl c12.symm]
             ·try simp only [sx] at c22
              refine zI<|Y O<|G O<|zA<|zJ<|zT O ?_
              exact absurd c12 c22
            ·try simp only [sx] at c12
             refine Y O<|wD O<|G O<|zA<|zE O (fun c13=>?_) (fun c13=>?_)
             ·try simp only [sx] at c13
              refine zI<|zE O (fun c22=>?_) (fun c22=>?_)
              ·refine Y O<|G O<|zA<|zJ<|zT O ?_
               rw [kH (l:=fB) (k:=12) rfl c13.symm]
              ·try simp only [sx] at c22
               refine zI<|Y O<|G O<|zA<|zJ<|zT O ?_
               exact absurd c13 c22
             ·try simp only [sx] at c13
              refine Y O<|wD O<|G O<|zA<|zE O (fun c14=>?_) (fun c14=>?_)
              ·try simp only [sx] at c14
               refine zI<|zE O (fun c22=>?_) (fun c22=>?_)
               ·refine Y O<|G O<|zA<|zJ<|zT O ?_
                rw [kH (l:=fB) (k:=13) rfl c14.symm]
               ·try simp only [sx] at c22
                refine zI<|Y O<|G O<|zA<|zJ<|zT O ?_
                exact absurd c14 c22
              ·try simp only [sx] at c14
               refine Y O<|wD O<|G O<|zA<|zE O (fun c15=>?_) (fun c15=>?_)
               ·try simp only [sx] at c15
                refine zI<|zE O (fun c22=>?_) (fun c22=>?_)
                ·refine Y O<|G O<|zA<|zJ<|zT O ?_
                 rw [kH (l:=fB) (k:=14) rfl c15.symm]
                ·try simp only [sx] at c22
                 refine zI<|Y O<|G O<|zA<|zJ<|zT O ?_
                 exact absurd c15 c22
               ·try simp only [sx] at c15
                refine Y O<|wD O<|G O<|zA<|zE O (fun c16=>?_) (fun c16=>?_)
                ·try simp only [sx] at c16
                 refine zI<|zE O (fun c22=>?_) (fun c22=>?_)
                 ·refine Y O<|G O<|zA<|zJ<|zT O ?_
                  rw [kH (l:=fB) (k:=15) rfl c16.symm]
                 ·try simp only [sx] at c22
                  refine zI<|Y O<|G O<|zA<|zJ<|zT O ?_
                  exact absurd c16 c22
                ·try simp only [sx] at c16
                 refine Y O<|wD O<|G O<|zA<|zE O (fun c17=>?_) (fun c17=>?_)
                 ·try simp only [sx] at c17
                  refine zI<|zE O (fun c22=>?_) (fun c22=>?_)
                  ·refine Y O<|G O<|zA<|zJ<|zT O ?_
                   rw [kH (l:=fB) (k:=16) rfl c17.symm]
                  ·try simp only [sx] at c22
                   refine zI<|Y O<|G O<|zA<|zJ<|zT O ?_
                   exact absurd c17 c22
                 ·try simp only [sx] at c17
                  refine Y O<|wD O<|G O<|zA<|zE O (fun c18=>?_) (fun c18=>?_)
                  ·try simp only [sx] at c18
                   refine zI<|zE O (fun c22=>?_) (fun c22=>?_)
                   ·refine Y O<|G O<|zA<|zJ<|zT O ?_
                    rw [kH (l:=fB) (k:=17) rfl c18.symm]
                   ·try simp only [sx] at c22
                    refine zI<|Y O<|G O<|zA<|zJ<|zT O ?_
                    exact absurd c18 c22
                  ·try simp only [sx] at c18
                   refine Y O<|wD O<|G O<|zA<|zE O (fun c19=>?_) (fun c19=>?_)
                   ·try simp only [sx] at c19
                    refine zI<|zE O (fun c22=>?_) (fun c22=>?_)
                    ·refine Y O<|G O<|zA<|zJ<|zT O ?_
                     rw [kH (l:=fB) (k:=18) rfl c19.symm]
                    ·try simp only [sx] at c22
                     refine zI<|Y O<|G O<|zA<|zJ<|zT O ?_
                     exact absurd c19 c22
                   ·try simp only [sx] at c19
                    refine Y O<|wD O<|G O<|zA<|zE O (fun c20=>?_) (fun c20=>?_)
                    ·try simp only [sx] at c20
                     refine zI<|zE O (fun c22=>?_) (fun c22=>?_)
                     ·refine Y O<|G O<|zA<|zJ<|zT O ?_
                      rw [kH (l:=fB) (k:=19) rfl c20.symm]
                     ·try simp only [sx] at c22
                      refine zI<|Y O<|G O<|zA<|zJ<|zT O ?_
                      exact absurd c20 c22
                    ·try simp only [sx] at c20
                     refine Y O<|wD O<|G O<|zA<|zE O (fun c21=>?_) (fun c21=>?_)
                     ·try simp only [sx] at c21
                      refine zI<|zE O (fun c22=>?_) (fun c22=>?_)
                      ·refine Y O<|G O<|zA<|zJ<|zT O ?_
                       rw [kH (l:=fB) (k:=20) rfl c21.symm]
                      ·try simp only [sx] at c22
                       refine zI<|Y O<|G O<|zA<|zJ<|zT O ?_
                       exact absurd c21 c22
                     ·try simp only [sx] at c21
                      refine zO O<|wD O<|G O<|zA<|zE O (fun c22=>?_) (fun c22=>?_)
                      ·try simp only [sx] at c22
                       refine Y O<|G O<|zA<|zJ<|zT O ?_
                       rw [kH (l:=fB) (k:=21) rfl c22.symm]
                      ·try simp only [sx] at c22
                       refine zI<|Y O<|G O<|zA<|zJ<|zT O ?_
                       rw [show bQ fB s=false by
                         simp only [bQ,fB,List.any_cons,List.any_nil,Bool.or_eq_false_iff,decide_eq_false_iff_not]
                         exact ⟨fun h=>c1 h.symm,fun h=>c2 h.symm,fun h=>c3 h.symm,fun h=>c4 h.symm,fun h=>c5 h.symm,fun h=>c6 h.symm,fun h=>c7 h.symm,fun h=>c8 h.symm,fun h=>c9 h.symm,fun h=>c10 h.symm,fun h=>c11 h.symm,fun h=>c12 h.symm,fun h=>c13 h.symm,fun h=>c14 h.symm,fun h=>c15 h.symm,fun h=>c16 h.symm,fun h=>c17 h.symm,fun h=>c18 h.symm,fun h=>c19 h.symm,fun h=>c20 h.symm,fun h=>c21 h.symm,fun h=>c22 h.symm,T⟩]
theorem zGf (s:ByteArray):
    Pur cfg 73 [vS s] (vB (bC s)):=by
 refine zV Tryz.func73 O Tryz.ntmps73 Tryz.results73 O ?_
 intro z hz
 refine Y O<|G O<|zA<|zH<|Y O<|G O<|zW O (zBi O un9 O)<|yA O<|G O<|rL0 O (fun g1_3=>zP O O) O<|rL1 9 O (fun g1_3=>zBi O un9 O) O<|rL1 10 O (fun g1_3=>yF O O O) O<|r_or O (fun h=>(lzf h))<|G O<|rL0 O (fun g1_8=>zP O O) O<|rL1 14 O (fun g1_8=>qS O ok136 (lin_reserved _) ⟨zB,O,T⟩) O<|r_or O (fun h=>(lzf h))<|G O<|rL0 O (fun g1_12=>zP O O) O<|rL1 18 O (fun g1_12=>zDr O un9 O O uA (by simp only [Lz,cond_true,cond_false,Bool.and_eq_true,Bool.or_eq_true,Bool.not_eq_true',Bool.not_eq_false',Bool.or_eq_false_iff,Bool.and_eq_false_iff,decide_eq_true_eq,decide_eq_false_iff_not,Bool.not_eq_true,Bool.not_eq_false] at g1_12;omega)) O<|rL1 19 O (fun g1_12=>zDk O O O) O<|r_or O (fun h=>(lzf h))<|G O<|rL0 O (fun g1_17=>zP O O) O<|rL1 23 O (fun g1_17=>zDr O un9 O O uA (by simp only [Lz,cond_true,cond_false,Bool.and_eq_true,Bool.or_eq_true,Bool.not_eq_true',Bool.not_eq_false',Bool.or_eq_false_iff,Bool.and_eq_false_iff,decide_eq_true_eq,decide_eq_false_iff_not,Bool.not_eq_true,Bool.not_eq_false] at g1_17;omega)) O<|rL1 24 O (fun g1_17=>yF O O O) O<|r_or O (fun h=>(lzf h))<|zA<|zE O (fun c1=>?_) (fun c1=>?_)
 ·have hno:=ident_no c1
  refine Y O<|G O<|zA<|zJ<|zT O ?_
  rw [hno]
 ·obtain ⟨n1,n2,hne⟩:=ident_yes c1
  refine zI<|zH<|Y O<|G O<|zW O (zBi O un9 O)<|G O<|zA<|zR<|zU ⟨[(29,.c _),(0,.c _),(28,.c _)],[]⟩ (Weak.mk [] ⟨zB,zB,zB,T⟩ O)<|qF 1 0 O O (Nat) (fun k=>[(29,vI k)]) (fun k=>[]) (fun k=>k<=s.size/\(s.data.toList.take k).all gG=true) (fun k=>s.size-k) ⟨0,⟨zC,O⟩,Weak.mk [] ⟨zB,zB,zB,T⟩ O⟩ ?_
  rintro k ⟨hk,hp⟩
  refine Y O<|yA O<|zA<|zH<|zE O (fun c2=>?_) (fun c2=>?_)
  ·try simp only [sx] at c2
   have hlt:k<s.size:=by omega
   refine zI<|zH<|zR<|Y O<|G O<|G O<|zA<|Y O<|G O<|G O<|zW O (zDr O un9 O O zC zC)<|G O<|zA<|Y O<|G O<|yA O<|G O<|rL0 O (fun g7_2=>zP O O) O<|rL1 38 O (fun g7_2=>yF O O O) O<|r_or O (fun h=>(lzf h))<|G O<|rL0 O (fun g7_6=>zP O O) O<|rL1 42 O (fun g7_6=>zDk O O O) O<|rL1 43 O (fun g7_6=>zP O O) O<|rLz [] O gv2 T (fun g7_9=>zP O O) O<|rLz [(45,_)] O gv2 ⟨O,O,T⟩ (fun g7_9=>yF O O O) O<|rL1 44 O (fun g7_6=>zAy O O O O (fun h=>kM uD (lzf h))) O<|kB O (fun h=>h)<|G O<|rL0 O (fun g7_14=>zP O O) O<|rL1 50 O (fun g7_14=>wM O O O) O<|kB O (fun h=>h)<|zA<|zE O (fun c3=>?_) (fun c3=>?_)
   ·have hbad:=word_no hlt c3
    refine Y O<|G O<|zA<|zJ<|zT O ?_
    rw [hne,hbad]
   ·have hgood:=word_yes hlt hp c3
    refine zI<|zO O<|qH O ⟨zC,zC⟩<|G O<|zA ?_
    refine ⟨k+1,⟨zC,hgood⟩,zC,Weak.mk [] ⟨zB,zB,zB,T⟩ O⟩
  ·try simp only [sx] at c2
   refine qM<|Y O<|G O<|zA<|zJ<|zT O ?_
   rw [hne,word_all hp zC]
theorem zAn (l:Lf) (hl:l.L.length<=6000000000000):
    Pur cfg 122 [dP l] (vI (fM l)):=by
 refine zV Tryz.func122 O Tryz.ntmps122 Tryz.results122 O ?_
 intro z hz
 refine Y O<|zY O O (qL O O) ?_
 rintro _ _ ⟨b1,rfl,rfl⟩
 refine G O<|zA<|zH<|Y O<|zD O wC<|zG zBe (J 0 O) O<|qB O U<|G O<|zA<|zR<|zU ⟨[(8,.c _),(1,.c _),(6,.c _),(7,.c _)],[_]⟩ (Weak.mk [true] ⟨zB,zB,zB,zB,T⟩ O)<|qF 1 0 O O (Nat) (fun k=>[(8,vI k)]) (fun k=>[]) (fun k=>k<=l.L.length/\(bP l=bT (nD l.L k) (l.L.drop k))) (fun k=>l.L.length-k) ⟨0,⟨zC,O⟩,Weak.mk [true] ⟨zB,zB,zB,zB,T⟩ O⟩ ?_
 rintro k ⟨hk,hp⟩
 refine Y O<|yA O<|zA<|zH<|zE O (fun c1=>?_) (fun c1=>?_)
 ·try simp only [sx] at c1
  obtain ⟨x,hx⟩:=qV l.L k zC
  refine zI<|zH<|zR<|Y O<|G O<|qE O U zC (getm uD)<|zM zEf qD O<|zY O O (yC O zGb) ?_
  rintro _ _ ⟨b2,rfl,rfl⟩
  refine G O<|D 0 sz139 O<|zA<|zH<|yE 25 mixed uC O O<|zN O O (zF O wV O)<|zN O O (zK O one9 O (J 0 O) O)<|zN O O (qS O ok73 (zGf _) ⟨zB,O,T⟩)<|zN O O (wJ O O)<|zN O O (zP O O)<|qP [] O O O O gv1 T (fun g4_4=>zF O zEi O) O<|qP [(18,_)] O O O O gv1 ⟨O,O,T⟩ (fun g4_4=>zK O W O (J 0 O) O) O<|qP [(19,_)] O O O O gv1 ⟨O,O,T⟩ (fun g4_4=>yR O O O) O<|zN O O (zAy O O O O (fun h=>(lzf h)))<|zN O O (zP O O)<|qP [] O O O O gv1 T (fun g4_9=>zP O O) O<|qP [(23,_)] O O O O gv1 ⟨O,O,T⟩ (fun g4_9=>yF O O O) O<|qP [(24,_)] O O O O gv1 ⟨O,O,T⟩ (fun g4_9=>zP O O) O<|qP [] O O O O gv2 T (fun g4_12=>zF O wC O) O<|qP [(26,_)] O O O O gv2 ⟨O,O,T⟩ (fun g4_12=>zK O zBe O (J 1 O) O) O<|qP [] O O O O gv2 T (fun g4_12=>zP O O) O<|qP [(28,_)] O O O O gv2 ⟨O,O,T⟩ (fun g4_12=>yM O O O ⟨zC,zC⟩) O<|qP [(27,_),(29,_)] O O O O gv2 ⟨O,O,O,O,T⟩ (fun g4_12=>qN O U O O (by simp only [Lz,cond_true,cond_false,Bool.and_eq_true,Bool.or_eq_true,Bool.not_eq_true',Bool.not_eq_false',Bool.or_eq_false_iff,Bool.and_eq_false_iff,decide_eq_true_eq,decide_eq_false_iff_not,Bool.not_eq_true,Bool.not_eq_false] at g4_12;omega) (pv_get (by simp only [Lz,cond_true,cond_false,Bool.and_eq_true,Bool.or_eq_true,Bool.not_eq_true',Bool.not_eq_false',Bool.or_eq_false_iff,Bool.and_eq_false_iff,decide_eq_true_eq,decide_eq_false_iff_not,Bool.not_eq_true,Bool.not_eq_false] at g4_12;omega) zC)) O<|qP [(30,_)] O O O O gv2 ⟨O,O,T⟩ (fun g4_12=>qQ O wV O) O<|qP [(31,_)] O O O O gv2 ⟨O,O,T⟩ (fun g4_12=>zK O one9 O qD O) O<|qP [] O O O O gv2 T (fun g4_12=>zF O wV O) O<|qP [(33,_)] O O O O gv2 ⟨O,O,T⟩ (fun g4_12=>zK O one9 O (J 0 O) O) O<|qP [(32,_),(34,_)] O O O O gv2 ⟨O,O,O,O,T⟩ (fun g4_12=>det_sgeq O O O) O<|qP [(25,_)] O O O O gv1 ⟨O,O,T⟩ (fun g4_9=>zAc O O O (fun h=>kM uD h) O) O<|zN O O (zAy O O O O (fun h=>(lzf h)))<|kE<|zA<|zE O (fun c2=>?_) (fun c2=>?_)
  ·refine Y O<|G O<|zA<|zJ<|zT O ?_
   rw [fM,hp,zKf hx,show xU l.L k x=true from c2];rfl
  ·refine zI<|zO O<|qH O ⟨zC,zC⟩<|G O<|zA ?_
   refine ⟨k+1,⟨zC,by rw [hp,zKf hx,show xU l.L k x=false from c2];rfl⟩,zC,Weak.mk [false,true] ⟨zB,zB,zB,zB,T⟩ O⟩
 ·try simp only [sx] at c1
  refine qM<|Y O<|G O<|zA<|zJ<|zT O ?_
  rw [fM,hp,monos_end zC];rfl
theorem zHx (l:Lf) (hl:l.L.length<=6000000000000):
    Pur cfg 146 [dP l] (vB (bP l)):=by
 refine zV Tryz.func146 O Tryz.ntmps146 Tryz.results146 O ?_
 intro z hz
 refine Y O<|zY O O (qL O O) ?_
 rintro _ _ ⟨b1,rfl,rfl⟩
 refine G O<|zA<|zH<|Y O<|G O<|zA<|zR<|zU ⟨[(3,.c _),(1,.c _)],[_]⟩ (Weak.mk [true] ⟨zB,zB,T⟩ O)<|qF 1 0 O O (Nat) (fun k=>[(3,vI k)]) (fun k=>[]) (fun k=>k<=l.L.length/\(bP l=bT (nD l.L k) (l.L.drop k))) (fun k=>l.L.length-k) ⟨0,⟨zC,O⟩,Weak.mk [true] ⟨zB,zB,T⟩ O⟩ ?_
 rintro k ⟨hk,hp⟩
 refine zH<|Y O<|G O<|zD O wC<|zG zBe (J 0 O) O<|qB O U<|yA O<|zA<|zE O (fun c1=>?_) (fun c1=>?_)
 ·try simp only [sx] at c1
  obtain ⟨x,hx⟩:=qV l.L k zC
  refine zI<|zH<|zR<|zH<|yE 37 mixed uC O O<|zN O O (zF O wC O)<|zN O O (zK O zBe O (J 0 O) O)<|zN O O (zP O O)<|zN O O (qN O U O O zC (getm uD))<|zN O O (qQ O wV O)<|zN O O (zK O one9 O qD O)<|zN O O (qS O ok20 (zGx _) ⟨zB,O,T⟩)<|zN O O (wJ O O)<|zN O O (zP O O)<|qP [] O O O O gv1 T (fun g4_8=>zF O wC O) O<|qP [(20,_)] O O O O gv1 ⟨O,O,T⟩ (fun g4_8=>zK O zBe O (J 0 O) O) O<|qP [] O O O O gv1 T (fun g4_8=>zP O O) O<|qP [(21,_),(22,_)] O O O O gv1 ⟨O,O,O,O,T⟩ (fun g4_8=>qN O U O O zC (getm uD)) O<|qP [(23,_)] O O O O gv1 ⟨O,O,T⟩ (fun g4_8=>qQ O zEi O) O<|qP [(24,_)] O O O O gv1 ⟨O,O,T⟩ (fun g4_8=>zK O W O qD O) O<|qP [(25,_)] O O O O gv1 ⟨O,O,T⟩ (fun g4_8=>yR O O O) O<|zN O O (zAy O O O O (fun h=>(lzf h)))<|zN O O (zP O O)<|qP [] O O O O gv1 T (fun g4_17=>zP O O) O<|qP [(29,_)] O O O O gv1 ⟨O,O,T⟩ (fun g4_17=>yF O O O) O<|qP [(30,_)] O O O O gv1 ⟨O,O,T⟩ (fun g4_17=>zP O O) O<|qP [] O O O O gv2 T (fun g4_20=>zF O wC O) O<|qP [(32,_)] O O O O gv2 ⟨O,O,T⟩ (fun g4_20=>zK O zBe O (J 0 O) O) O<|qP [] O O O O gv2 T (fun g4_20=>zP O O) O<|qP [(34,_)] O O O O gv2 ⟨O,O,T⟩ (fun g4_20=>yM O O O ⟨zC,zC⟩) O<|qP [(33,_),(35,_)] O O O O gv2 ⟨O,O,O,O,T⟩ (fun g4_20=>qN O U O O (by simp only [Lz,cond_true,cond_false,Bool.and_eq_true,Bool.or_eq_true,Bool.not_eq_true',Bool.not_eq_false',Bool.or_eq_false_iff,Bool.and_eq_false_iff,decide_eq_true_eq,decide_eq_false_iff_not,Bool.not_eq_true,Bool.not_eq_false] at g4_20;omega) (pv_get (by simp only [Lz,cond_true,cond_false,Bool.and_eq_true,Bool.or_eq_true,Bool.not_eq_true',Bool.not_eq_false',Bool.or_eq_false_iff,Bool.and_eq_false_iff,decide_eq_true_eq,decide_eq_false_iff_not,Bool.not_eq_true,Bool.not_eq_false] at g4_20;omega) zC)) O<|qP [(36,_)] O O O O gv2 ⟨O,O,T⟩ (fun g4_20=>qQ O wV O) O<|qP [(37,_)] O O O O gv2 ⟨O,O,T⟩ (fun g4_20=>zK O one9 O qD O) O<|qP [] O O O O gv2 T (fun g4_20=>zF O wC O) O<|qP [(39,_)] O O O O gv2 ⟨O,O,T⟩ (fun g4_20=>zK O zBe O (J 0 O) O) O<|qP [] O O O O gv2 T (fun g4_20=>zP O O) O<|qP [(40,_),(41,_)] O O O O gv2 ⟨O,O,O,O,T⟩ (fun g4_20=>qN O U O O zC (getm uD)) O<|qP [(42,_)] O O O O gv2 ⟨O,O,T⟩ (fun g4_20=>qQ O wV O) O<|qP [(43,_)] O O O O gv2 ⟨O,O,T⟩ (fun g4_20=>zK O one9 O qD O) O<|qP [(38,_),(44,_)] O O O O gv2 ⟨O,O,O,O,T⟩ (fun g4_20=>det_sgeq O O O) O<|qP [(31,_)] O O O O gv1 ⟨O,O,T⟩ (fun g4_17=>zAc O O O (fun h=>kM uD h) O) O<|zN O O (zAy O O O O (fun h=>(lzf h)))<|kE<|zA<|zE O (fun c2=>?_) (fun c2=>?_)
  ·refine Y O<|G O<|zA<|zJ<|zT O ?_
   rw [hp,zKf hx,show xU l.L k x=true from c2];rfl
  ·refine zI<|zO O<|G O<|qH O ⟨zC,zC⟩<|G O<|zA ?_
   refine ⟨k+1,⟨zC,by rw [hp,zKf hx,show xU l.L k x=false from c2];rfl⟩,zC,Weak.mk [true] ⟨zB,zB,T⟩ O⟩
 ·try simp only [sx] at c1
  refine qM<|Y O<|G O<|zA<|zJ<|zT O ?_
  rw [hp,monos_end zC]
theorem lin_Var (s:ByteArray):
    Pur cfg 31 [vS s] (dP (gV s)):=by
 refine zV Tryz.func31 O Tryz.ntmps31 Tryz.results31 O ?_
 intro z hz
 refine Y O<|zY O O (qG [none,some 2] O zr59 O) ?_
 rintro _ _ ⟨b1,rfl,rfl⟩
 refine zA<|zH<|Y O<|G O<|qJ O ok73 (zGf _) ⟨zB,O,T⟩<|kZ O<|zA<|zE O (fun c1=>?_) (fun c1=>?_)
 ·try simp only [sx] at c1
  refine Y O<|yZ [none,some 2] O zr59 pl59<|D 0 sz59 O<|zA<|zJ<|fin1 (zZ kD O (J 0 O) O) ?_
  rw [gV,c1];rfl
 ·try simp only [sx] at c1
  refine zI<|Y O<|G O<|yI O zGb pl139<|kA O U zGb<|yI O zr59 pl59<|D 0 sz59 O<|zA<|zJ<|fin1 (zZ kD O (J 0 O) O) ?_
  rw [gV,c1];rfl
theorem lin_Const (k:Int):
    Pur cfg 28 [vI k] (dP ⟨k,[]⟩):=by
 refine zV Tryz.func28 O Tryz.ntmps28 Tryz.results28 O ?_
 intro z hz
 refine Y O<|zY O O (qG [none,some 2] O zr59 O) ?_
 rintro _ _ ⟨b1,rfl,rfl⟩
 refine zA<|Y O<|G O<|yZ [none,some 2] O zr59 pl59<|D 0 sz59 O<|zA<|zJ<|fin1 (zZ kD O (J 0 O) O) ?_
 exact O
theorem zIf (s:ByteArray):
    Pur cfg 52 [vS s] (dP (gV s)):=by
 refine zV Tryz.func52 O Tryz.ntmps52 Tryz.results52 O ?_
 intro z hz
 refine Y O<|zY O O (qG [none,some 2] O zr59 O) ?_
 rintro _ _ ⟨b1,rfl,rfl⟩
 refine zA<|zH<|Y O<|G O<|qJ O ok20 (zGx _) ⟨zB,O,T⟩<|kZ O<|zA<|zE O (fun c1=>?_) (fun c1=>?_)
 ·try simp only [sx] at c1
  refine Y O<|yZ [none,some 2] O zr59 pl59<|D 0 sz59 O<|zA<|zJ<|fin1 (zZ kD O (J 0 O) O) ?_
  rw [gV,c1];rfl
 ·try simp only [sx] at c1
  refine zI<|Y O<|G O<|yI O zGb pl139<|kA O U zGb<|yI O zr59 pl59<|D 0 sz59 O<|zA<|zJ<|fin1 (zZ kD O (J 0 O) O) ?_
  rw [gV,c1];rfl
theorem base_Lin (a b:Lf) (ha:a.L.length<=6000000000000):
    Pur cfg 163 [dP a,dP b] (vB (decide (a=b))):=by
 refine zV Tryz.func163 O Tryz.ntmps163 Tryz.results163 O ?_
 intro z hz
 refine Y O<|zY O O (qL O O) ?_
 rintro _ _ ⟨b1,rfl,rfl⟩
 refine zY O O (qL O O) ?_
 rintro _ _ ⟨b2,rfl,rfl⟩
 refine G O<|zA<|zH<|Y O<|zD O zEd<|zG W (J 1 O) O<|zD O zEd<|zG W (J 0 O) O<|yN O<|G O<|rL0 O (fun g1_5=>zF O wC O) O<|rL1 12 O (fun g1_5=>zK O zBe O (J 1 O) O) O<|rL1 13 O (fun g1_5=>qT O U O) O<|rL0 O (fun g1_5=>zF O wC O) O<|rL1 15 O (fun g1_5=>zK O zBe O (J 0 O) O) O<|rL1 16 O (fun g1_5=>qT O U O) O<|rLz [(14,_),(17,_)] O gv1 ⟨O,O,O,O,T⟩ (fun g1_5=>wM O O O) O<|r_or O (fun h=>(lzf h))<|zA<|zE O (fun c1=>?_) (fun c1=>?_)
 ·try simp only [sx] at c1
  refine Y O<|G O<|zA<|zJ<|zT O ?_
  rw [kF (fun h=>by rw [h] at c1;simp at c1)]
 ·try simp only [sx] at c1
  refine zI<|zH<|Y O<|G O<|zA<|zR<|zU ⟨[(5,.c _),(2,.c _),(3,.c _)],[_,_]⟩ (Weak.mk [true,true] ⟨zB,zB,zB,T⟩ O)<|qF 1 0 O O (Nat) (fun k=>[(5,vI k)]) (fun k=>[]) (fun k=>k<=a.L.length/\(a.L.take k=b.L.take k)) (fun k=>a.L.length-k) ⟨0,⟨zC,O⟩,Weak.mk [true,true] ⟨zB,zB,zB,T⟩ O⟩ ?_
  rintro k ⟨hk,hp⟩
  refine zH<|Y O<|G O<|zD O wC<|zG zBe (J 1 O) O<|qB O U<|yA O<|zA<|zE O (fun c2=>?_) (fun c2=>?_)
  ·try simp only [sx] at c2
   obtain ⟨x,hx⟩:=qV a.L k zC
   obtain ⟨y,hy⟩:=qV b.L k zC
   refine zI<|zH<|zR<|zH<|yE 11 mixed uC O O<|zN O O (zF O wC O)<|zN O O (zK O zBe O (J 1 O) O)<|zN O O (zP O O)<|zN O O (qN O U O O zC (getm uD))<|zN O O (qA O zEf O qD O)<|zN O O (zF O wC O)<|zN O O (zK O zBe O (J 0 O) O)<|zN O O (zP O O)<|zN O O (qN O U O O zC (getm uD))<|zN O O (qA O zEf O qD O)<|zN O O (zAr O fl139 O O O)<|kE<|zA<|zE O (fun c3=>?_) (fun c3=>?_)
   ·have hne:=mono_ne c3
    refine Y O<|G O<|zA<|zJ<|zT O ?_
    rw [kF (fun h=>zMj hx hy hne (by rw [h]))]
   ·have heq:=mono_eq c3
    refine zI<|zO O<|G O<|qH O ⟨zC,zC⟩<|G O<|zA ?_
    refine ⟨k+1,⟨zC,zFv hx hy hp heq⟩,zC,Weak.mk [true,true] ⟨zB,zB,zB,T⟩ O⟩
  ·try simp only [sx] at c2
   refine qM<|Y O<|G O<|zA<|zJ<|zT O ?_
   rw [zAk (lin_mk zC (zKj hp zC zC))]
theorem zLf (l:List Ix) (c:C) (p:Ix->Bool) (hl:l.length<=6000000000000) (hc:∀x,x∈l->FnPur cfg c [jN x] (vB (p x))):
    Pur cfg 303 [lN l,.c c] (vI (dJ p l)):=by
 refine zV Tryz.func303 O Tryz.ntmps303 Tryz.results303 O ?_
 intro z hz
 refine Y O<|G O<|zA<|zH<|Y O<|G O<|qB O N<|G O<|zA<|zR<|zU ⟨[(8,.c _),(0,.c _),(1,.c _),(7,.c _)],[]⟩ (Weak.mk [] ⟨zB,zB,zB,zB,T⟩ O)<|qF 1 0 O O (Nat) (fun k=>[(8,vI k)]) (fun k=>[]) (fun k=>k<=l.length/\((l.take k).any p=false)) (fun k=>l.length-k) ⟨0,⟨zC,O⟩,Weak.mk [] ⟨zB,zB,zB,zB,T⟩ O⟩ ?_
 rintro k ⟨hk,hp⟩
 refine Y O<|yA O<|zA<|zH<|zE O (fun c1=>?_) (fun c1=>?_)
 ·try simp only [sx] at c1
  obtain ⟨x,hx⟩:=qV l k zC
  refine zI<|zH<|zR<|Y O<|G O<|G O<|zA<|Y O<|G O<|G O<|G O<|qE O N zC (getm uD)<|zM zJx qD O<|zW O (kX O O (hc _ (qC hx)) ⟨zB,O,T⟩)<|zA<|zE O (fun c2=>?_) (fun c2=>?_)
  ·exact v37
  ·exact m8
 ·exact v15
theorem zBl (l:List Ix) (c:C) (p:Ix->Bool) (hl:l.length<=6000000000000) (hc:∀x,x∈l->FnPur cfg c [jN x] (vB (p x))):
    Pur cfg 285 [lN l,.c c] (vB (l.any p)):=by
 refine zV Tryz.func285 O Tryz.ntmps285 Tryz.results285 O ?_
 intro z hz
 refine Y O<|G O<|zA<|Y O<|G O<|G O<|qJ O ok303 (zLf l c p hl hc) ⟨zB,O,zB,O,T⟩<|zW O (wQ O O O)<|G O<|zA<|zJ<|zT O ?_
 rw [zMv]
end Go.W
