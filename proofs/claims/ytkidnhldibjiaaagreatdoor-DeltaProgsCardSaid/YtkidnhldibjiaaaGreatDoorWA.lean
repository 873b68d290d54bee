/-
  What functions compute.
  Conditions: none.
-/
import Derived.Test.YtkidnhldibjiaaaGreatDoorFacts
import Derived.Test.YtkidnhldibjiaaaGreatDoorPlain
set_option linter.unusedSimpArgs false
set_option linter.unusedVariables false
set_option maxRecDepth 10000
namespace Go.W
open Go Go.Eng Go.Proofs Go.L41 Go.Br
attribute [local irreducible] AWP RWP TD fL
theorem kw_ascii:∀(j:Nat) (b:UInt8),(bs kwBytes).data.toList[j]? =some b->b.toNat<128:=by
  intro j b h
  have:(kwBytes.all fun c=>decide (c.toNat<128))=true:=by decide
  rw [List.all_eq_true] at this
  simpa using this b (List.mem_of_getElem? h)
theorem kw_fields:(Lib.fields kwBytes).map bs=fC:=by decide+kernel
theorem nm1 {s:ByteArray} (h:Lz (!decide (s=bs [])&&decide ((s.size:Int)<=16)) true=true):¬s=bs []:=by
  simp only [Lz,cond_true,Bool.and_eq_true,Bool.not_eq_true',decide_eq_false_iff_not] at h
  exact h.1
theorem nm2 {s:ByteArray} {p:Bool} (h:Lz (!decide (s=bs [])&&decide ((s.size:Int)<=16)&&p) true=true):s.size<=1000000:=by
  simp only [Lz,cond_true,Bool.and_eq_true,decide_eq_true_eq] at h
  omega
theorem yB:mY Tryz.prog 40=some 2:=by kernel_rfl
theorem zHg:mY Tryz.prog 107=some 2:=by kernel_rfl
theorem zDv:mY Tryz.prog 115=some 4:=by kernel_rfl
theorem el22:dM Tryz.prog 22=some (9,1,16):=by kernel_rfl
theorem D:dM Tryz.prog 38=some (107,2,24):=by kernel_rfl
theorem el41:dM Tryz.prog 41=some (115,4,72):=by kernel_rfl
theorem zCk:bM Tryz.prog 40 0=some (0,2):=by kernel_rfl
theorem yP:bM Tryz.prog 40 1=some (1,38):=by kernel_rfl
theorem wF:bM Tryz.prog 107 0=some (0,9):=by kernel_rfl
theorem zCq:bM Tryz.prog 107 1=some (1,2):=by kernel_rfl
theorem fl107:rF Tryz.prog 107=some [.str,.int]:=by kernel_rfl
theorem ik21:rX Tryz.prog 21=some .i32:=by kernel_rfl
theorem mixed:Tryz.prog.follows .mixedOrders=true:=by kernel_rfl
theorem ok21:bA Tryz.prog 21=true:=by kernel_rfl
theorem ok52:bA Tryz.prog 52=true:=by kernel_rfl
theorem ok105:bA Tryz.prog 105=true:=by kernel_rfl
theorem ok137:bA Tryz.prog 137=true:=by kernel_rfl
theorem ok158:bA Tryz.prog 158=true:=by kernel_rfl
theorem ok168:bA Tryz.prog 168=true:=by kernel_rfl
theorem ok185:bA Tryz.prog 185=true:=by kernel_rfl
theorem ok186:bA Tryz.prog 186=true:=by kernel_rfl
theorem ok187:bA Tryz.prog 187=true:=by kernel_rfl
theorem ok188:bA Tryz.prog 188=true:=by kernel_rfl
theorem ok189:bA Tryz.prog 189=true:=by kernel_rfl
theorem ok211:bA Tryz.prog 211=true:=by kernel_rfl
theorem ok226:bA Tryz.prog 226=true:=by kernel_rfl
theorem ok233:bA Tryz.prog 233=true:=by kernel_rfl
theorem ok234:bA Tryz.prog 234=true:=by kernel_rfl
theorem ok282:bA Tryz.prog 282=true:=by kernel_rfl
theorem ok305:bA Tryz.prog 305=true:=by kernel_rfl
theorem one2:lS Tryz.prog 2=true:=by kernel_rfl
theorem one9:lS Tryz.prog 9=true:=by kernel_rfl
theorem kQ:lS Tryz.prog 38=true:=by kernel_rfl
theorem pl40:fR Tryz.prog 40=some [(0,1),(1,1)]:=by kernel_rfl
theorem pl107:fR Tryz.prog 107=some [(0,1),(1,1)]:=by kernel_rfl
theorem sz40:(Tryz.prog.info? 40).map (·.size)=some 2:=by kernel_rfl
theorem sz107:(Tryz.prog.info? 107).map (·.size)=some 2:=by kernel_rfl
theorem un9:Tryz.prog.underlying 9=some .string:=by kernel_rfl
theorem us5:(Tryz.prog.underlying 5).isSome=true:=by kernel_rfl
theorem zr9:fD Tryz.prog 9=some [(Value.string (ByteArray.mk #[]))]:=by kernel_rfl
theorem v:fD Tryz.prog 40=some [(Value.int IntKind.i64 0),(Value.slice none 0 0)]:=by kernel_rfl
theorem zCy:fD Tryz.prog 107=some [(Value.string (ByteArray.mk #[])),(Value.int IntKind.i64 0)]:=by kernel_rfl
theorem zNz (n:Int):
    Pur cfg 186 [vR n] (vB (lY n)):=by
 refine zW Tryz.func186 O Tryz.ntmps186 Tryz.results186 O ?_
 intro z hz
 refine Y O<|G O<|W<|Y O<|G O<|qA O (wJ O O O)<|G O<|rL0 O (fun g1_2=>zS O O) O<|rL1 6 O (fun g1_2=>wU O O O) O<|yZ O (fun h=>h)<|G O<|W<|zO<|zV O ?_
 exact O
theorem lexer_digit (n:Int):
    Pur cfg 233 [vR n] (vB (rZ n)):=by
 refine zW Tryz.func233 O Tryz.ntmps233 Tryz.results233 O ?_
 intro z hz
 refine Y O<|G O<|W<|Y O<|G O<|qA O (wJ O O O)<|G O<|rL0 O (fun g1_2=>zS O O) O<|rL1 6 O (fun g1_2=>wU O O O) O<|yZ O (fun h=>h)<|G O<|W<|zO<|zV O ?_
 exact O
theorem lexer_inWord (n:Int):
    Pur cfg 188 [vR n] (vB (nZ n)):=by
 refine zW Tryz.func188 O Tryz.ntmps188 Tryz.results188 O ?_
 intro z hz
 refine Y O<|G O<|W<|Y O<|G O<|qQ O ok186 (zNz _) ⟨U,O,T⟩<|G O<|rL0 O (fun g1_2=>zS O O) O<|rL1 6 O (fun g1_2=>qL O ok233 (lexer_digit _) ⟨U,O,T⟩) O<|r_or O (fun h=>(lzf h))<|G O<|rL0 O (fun g1_6=>zS O O) O<|rL1 10 O (fun g1_6=>yM O O O) O<|r_or O (fun h=>(lzf h))<|G O<|W<|zO<|zV O ?_
 exact O
theorem zNk (s:ByteArray) (hs:s.size<=1000000):
    Pur cfg 187 [vS s,.c (.fn (.func 188) [] [])] (vI (pV fY s.data.toList)):=by
 refine zW Tryz.func187 O Tryz.ntmps187 Tryz.results187 O ?_
 intro z hz
 refine Y O<|G O<|W<|Y O<|G O<|W<|zM<|zR<|qC ⟨[(5,.c _),(0,.c _),(1,.c _)],[]⟩ (Weak.mk [] ⟨U,U,U,T⟩ O)<|qG 1 0 O O (Nat) (fun k=>[(5,vI k)]) (fun k=>[]) (fun k=>k<=s.size/\(s.data.toList.take k).all fY=true) (fun k=>s.size-k) ⟨0,⟨by omega,O⟩,Weak.mk [] ⟨U,U,U,T⟩ O⟩ ?_
 rintro k ⟨hk,hp⟩
 refine zM<|Y O<|G O<|G O<|qA O (zBa O un9 O)<|yI O<|G O<|rL0 O (fun g2_4=>zS O O) O<|rL0 O (fun g2_4=>zS O O) O<|rL0 O (fun g2_4=>zS O O) O<|rLz [(12,_),(13,_)] O gv1 ⟨O,O,O,O,T⟩ (fun g2_4=>zDg O un9 O O (by omega) (by simp only [Lz,cond_true,decide_eq_true_eq] at g2_4;omega)) O<|rL1 14 O (fun g2_4=>kK O us5 ik21 O) O<|rLz [(11,_),(15,_)] O gv1 ⟨O,O,O,O,T⟩ (fun g2_4=>zCm O O ok188 (lexer_inWord _) ⟨U,O,T⟩) O<|yZ O (fun h=>h)<|W<|zH O (fun c1=>?_) (fun c1=>?_)
 ·try simp only [sx] at c1
  obtain ⟨hlt,hcc⟩:=c1
  have hlt:k<s.size:=by omega
  rw [zJl] at hcc
  refine zN<|zR<|zT O<|G O<|qK O ⟨by omega,by omega⟩<|G O<|W ?_
  have hg:=zDo hlt
  refine ⟨k+1,⟨by omega,by rw [zMe hg,hp];exact hcc⟩,(by omega),Weak.mk [] ⟨U,U,U,T⟩ O⟩
 ·try simp only [sx] at c1
  have hsp:pV fY s.data.toList=k:=span_stop hp (by
    by_cases hlt:k<s.size
    · right;refine ⟨_,zDo hlt,?_⟩;rcases c1 with c1|c1;omega;rw [zJl] at c1;exact c1
    · left;simp;omega)
  refine qO<|Y O<|G O<|G O<|W<|zO<|zV O ?_
  rw [hsp]
theorem zOm (l:List ByteArray) (s:ByteArray) (hl:l.length<=6000000000000):
    Pur cfg 105 [vSs l,vS s] (vI (sV l s)):=by
 refine zW Tryz.func105 O Tryz.ntmps105 Tryz.results105 O ?_
 intro z hz
 refine Y O<|G O<|W<|zM<|Y O<|G O<|qB O el22<|G O<|W<|zR<|qC ⟨[(8,.c _),(0,.c _),(1,.c _),(7,.c _)],[]⟩ (Weak.mk [] ⟨U,U,U,U,T⟩ O)<|qG 1 0 O O (Nat) (fun k=>[(8,vI k)]) (fun k=>[]) (fun k=>k<=l.length/\bR (l.take k) s=false) (fun k=>l.length-k) ⟨0,⟨by omega,O⟩,Weak.mk [] ⟨U,U,U,U,T⟩ O⟩ ?_
 rintro k ⟨hk,hp⟩
 refine Y O<|yI O<|W<|zM<|zH O (fun c1=>?_) (fun c1=>?_)
 ·try simp only [sx] at c1
  obtain ⟨t,ht⟩:=qU l k (by omega)
  refine zN<|zM<|zR<|Y O<|G O<|G O<|W<|Y O<|G O<|G O<|G O<|qJ O el22 (by omega) (getm ht)<|zK one9 qE O<|wD O<|W<|zH O (fun c2=>?_) (fun c2=>?_)
  ·try simp only [sx] at c2
   refine Y O<|G O<|G O<|W<|zO<|zV O ?_
   rw [idxB_some ht c2 hp]
  ·try simp only [sx] at c2
   refine zN<|zT O<|qK O ⟨by omega,by omega⟩<|G O<|W ?_
   refine ⟨k+1,⟨by omega,zOc ht hp (fun e=>c2 e.symm)⟩,(by omega),Weak.mk [] ⟨U,U,U,U,T⟩ O⟩
 ·try simp only [sx] at c1
  refine qO<|Y O<|G O<|W<|zO<|zV O ?_
  rw [idxB_none (by rw [qY (by omega)] at hp;exact hp)]
theorem zEo (l:List ByteArray) (s:ByteArray) (hl:l.length<=6000000000000):
    Pur cfg 52 [vSs l,vS s] (vB (bR l s)):=by
 refine zW Tryz.func52 O Tryz.ntmps52 Tryz.results52 O ?_
 intro z hz
 refine Y O<|G O<|W<|Y O<|G O<|G O<|qQ O ok105 (zOm l s hl) ⟨U,O,U,O,T⟩<|qA O (wJ O O O)<|G O<|W<|zO<|zV O ?_
 rw [idxB_has]
theorem lexer_keywords  :
    Pur cfg 234 [] (vSs fC):=by
 refine zW Tryz.func234 O Tryz.ntmps234 Tryz.results234 O ?_
 intro z hz
 refine Y O<|qA O (yQ 1 O O)<|W<|Y O<|qQ O ok282 (strings_Fields _ (by decide) kw_ascii) ⟨U,O,T⟩<|G O<|W<|zO<|zV O ?_
 exact congrArg vSs kw_fields
theorem zRp (s:ByteArray):
    Pur cfg 189 [vS s] (vB (bR fC s)):=by
 refine zW Tryz.func189 O Tryz.ntmps189 Tryz.results189 O ?_
 intro z hz
 refine Y O<|G O<|W<|Y O<|qQ O ok234 (lexer_keywords) T<|G O<|qQ O ok52 (zEo _ _ (by decide)) ⟨U,O,U,O,T⟩<|G O<|W<|zO<|zV O ?_
 exact O
theorem zFe (s:ByteArray):
    Pur cfg 138 [vS s] (vB (bD s)):=by
 refine zW Tryz.func138 O Tryz.ntmps138 Tryz.results138 O ?_
 intro z hz
 refine Y O<|G O<|W<|Y O<|G O<|qA O (zEe O O O)<|G O<|rL0 O (fun g1_2=>zS O O) O<|rL1 6 O (fun g1_2=>zBa O un9 O) O<|rL1 7 O (fun g1_2=>wU O O O) O<|yZ O (fun h=>h)<|G O<|rL0 O (fun g1_7=>zS O O) O<|rL1 11 O (fun g1_7=>zDg O un9 O O (by decide) (size_pos (nm1 g1_7))) O<|rL1 12 O (fun g1_7=>kK O us5 ik21 O) O<|rL1 13 O (fun g1_7=>qL O ok186 (zNz _) ⟨U,O,T⟩) O<|yZ O (fun h=>h)<|G O<|rL0 O (fun g1_13=>zS O O) O<|rL1 17 O (fun g1_13=>qL O ok187 (zNk s (nm2 g1_13)) ⟨U,O,U,O,T⟩) O<|rL0 O (fun g1_13=>zS O O) O<|rL1 19 O (fun g1_13=>zBa O un9 O) O<|rLz [(18,_),(20,_)] O gv1 ⟨O,O,O,O,T⟩ (fun g1_13=>yM O O O) O<|yZ O (fun h=>h)<|G O<|rL0 O (fun g1_20=>zS O O) O<|rL1 24 O (fun g1_20=>qL O ok189 (zRp _) ⟨U,O,T⟩) O<|rL1 25 O (fun g1_20=>kT O O) O<|yZ O (fun h=>h)<|G O<|W<|zO<|zV O ?_
 exact congrArg vB (isName_eq s)
theorem base_Words  :
    Pur cfg 185 [] (vSs fC):=by
 refine zW Tryz.func185 O Tryz.ntmps185 Tryz.results185 O ?_
 intro z hz
 refine Y O<|qA O (yQ 1 O O)<|W<|Y O<|yV O el22 zr9<|G O<|W<|zO<|zV O ?_
 exact O
theorem zMc (l:List ByteArray) (s:ByteArray) (hl:l.length<=6000000000000):
    Pur cfg 21 [vSs l,vS s] (vB (bR l s)):=by
 refine zW Tryz.func21 O Tryz.ntmps21 Tryz.results21 O ?_
 intro z hz
 refine Y O<|G O<|W<|zM<|Y O<|G O<|W<|zR<|qC ⟨[(5,.c _),(0,.c _),(1,.c _)],[]⟩ (Weak.mk [] ⟨U,U,U,T⟩ O)<|qG 1 0 O O (Nat) (fun k=>[(5,vI k)]) (fun k=>[]) (fun k=>k<=l.length/\bR (l.take k) s=false) (fun k=>l.length-k) ⟨0,⟨by omega,O⟩,Weak.mk [] ⟨U,U,U,T⟩ O⟩ ?_
 rintro k ⟨hk,hp⟩
 refine zM<|Y O<|G O<|G O<|qB O el22<|yI O<|W<|zH O (fun c1=>?_) (fun c1=>?_)
 ·try simp only [sx] at c1
  obtain ⟨t,ht⟩:=qU l k (by omega)
  refine zN<|zM<|zR<|Y O<|G O<|G O<|qJ O el22 (by omega) (getm ht)<|zK one9 qE O<|G O<|wD O<|W<|zH O (fun c2=>?_) (fun c2=>?_)
  ·try simp only [sx] at c2
   refine Y O<|G O<|W<|zO<|zV O ?_
   rw [kA ht c2]
  ·try simp only [sx] at c2
   refine zN<|zT O<|G O<|qK O ⟨by omega,by omega⟩<|G O<|W ?_
   refine ⟨k+1,⟨by omega,zOc ht hp c2⟩,(by omega),Weak.mk [] ⟨U,U,U,T⟩ O⟩
 ·try simp only [sx] at c1
  refine qO<|Y O<|G O<|W<|zO<|zV O ?_
  rw [show bR l s=false by rw [qY (by omega)] at hp;exact hp]
theorem zEw (s:ByteArray):
    Pur cfg 137 [vS s] (vB (bD s)):=by
 refine zW Tryz.func137 O Tryz.ntmps137 Tryz.results137 O ?_
 intro z hz
 refine Y O<|G O<|W<|zM<|Y O<|G O<|qA O (zBa O un9 O)<|yI O<|G O<|rL0 O (fun g1_3=>zS O O) O<|rL1 9 O (fun g1_3=>zBa O un9 O) O<|rL1 10 O (fun g1_3=>yL O O O) O<|r_or O (fun h=>(lzf h))<|G O<|rL0 O (fun g1_8=>qL O ok185 (base_Words) T) O<|rL0 O (fun g1_8=>zS O O) O<|rLz [(14,_),(15,_)] O gv1 ⟨O,O,O,O,T⟩ (fun g1_8=>qL O ok21 (zMc _ _ (by decide)) ⟨U,O,U,O,T⟩) O<|r_or O (fun h=>(lzf h))<|W<|zH O (fun c1=>?_) (fun c1=>?_)
 ·try simp only [sx] at c1
  have hno:=name_short (s:=s) (by simpa using c1)
  refine Y O<|G O<|W<|zO<|zV O ?_
  rw [hno]
 ·try simp only [sx] at c1
  obtain ⟨⟨n1,n2⟩,n3⟩:=c1
  have n1:1<=s.size:=by omega
  have n2:s.size<=16:=by omega
  have hne:=name_end n1 n2 n3
  refine zN<|zM<|Y O<|G O<|W<|zR<|qC ⟨[(3,.c _),(0,.c _)],[]⟩ (Weak.mk [] ⟨U,U,T⟩ O)<|qG 1 0 O O (Nat) (fun k=>[(3,vI k)]) (fun k=>[]) (fun k=>k<=s.size/\pN s k=true) (fun k=>s.size-k) ⟨0,⟨by omega,O⟩,Weak.mk [] ⟨U,U,T⟩ O⟩ ?_
  rintro k ⟨hk,hp⟩
  refine zM<|Y O<|G O<|G O<|qA O (zBa O un9 O)<|yI O<|W<|zH O (fun c2=>?_) (fun c2=>?_)
  ·try simp only [sx] at c2
   have hlt:k<s.size:=by omega
   refine zN<|zM<|zR<|Y O<|G O<|G O<|qA O (zDg O un9 O O (by omega) (by omega))<|G O<|W<|Y O<|G O<|qA O (wJ O O O)<|G O<|rL0 O (fun g7_2=>zS O O) O<|rL1 30 O (fun g7_2=>wU O O O) O<|yZ O (fun h=>h)<|G O<|rL0 O (fun g7_6=>zS O O) O<|rL1 34 O (fun g7_6=>yL O O O) O<|rL1 35 O (fun g7_6=>zS O O) O<|rLz [] O q T (fun g7_9=>zS O O) O<|rLz [(37,_)] O q ⟨O,O,T⟩ (fun g7_9=>wJ O O O) O<|rLz [(38,_)] O q ⟨O,O,T⟩ (fun g7_9=>zS O O) O<|rLz [] O q T (fun g7_12=>zS O O) O<|rLz [(40,_)] O q ⟨O,O,T⟩ (fun g7_12=>wU O O O) O<|rLz [(39,_)] O q ⟨O,O,T⟩ (fun g7_9=>wK O O O (fun h=>kH (by assumption) h) O) O<|rLz [(42,_)] O q ⟨O,O,T⟩ (fun g7_9=>zS O O) O<|rLz [] O q T (fun g7_16=>zS O O) O<|rLz [(44,_)] O q ⟨O,O,T⟩ (fun g7_16=>yM O O O) O<|rLz [(43,_)] O q ⟨O,O,T⟩ (fun g7_9=>zBc O O O O (fun h=>kH (by assumption) (lzf h))) O<|rL1 36 O (fun g7_6=>wK O O O (fun h=>kH (by assumption) h) O) O<|r_or O (fun h=>(lzf h))<|wE O<|W<|zH O (fun c3=>?_) (fun c3=>?_)
   ·have hbad:pN s (k+1)=false:=by rw [okTo_next,show nS k (s.data.toList.getD k 0)=false from (Bool.not_eq_true' _).mp c3];simp
    refine Y O<|G O<|W<|zO<|zV O ?_
    rw [hne];cases ho:pN s s.size;rfl;exact absurd (okTo_le (k:=k+1) (by omega) ho) (by rw [hbad];simp)
   ·have hgood:pN s (k+1)=true:=by rw [okTo_next,hp,show nS k (s.data.toList.getD k 0)=true from (Bool.not_eq_false' _).mp c3];rfl
    refine zN<|zT O<|G O<|qK O ⟨by omega,by omega⟩<|G O<|W ?_
    refine ⟨k+1,⟨by omega,hgood⟩,(by omega),Weak.mk [] ⟨U,U,T⟩ O⟩
  ·try simp only [sx] at c2
   refine qO<|Y O<|G O<|W<|zO<|zV O ?_
   rw [hne,show s.size=k by omega,hp]
theorem lin_reserved (s:ByteArray):
    Pur cfg 211 [vS s] (vB (bR fC s)):=by
 refine zW Tryz.func211 O Tryz.ntmps211 Tryz.results211 O ?_
 intro z hz
 refine Y O<|G O<|W<|zM<|Y O<|G O<|W<|zR<|zM<|Y O<|wD O<|G O<|W<|zH O (fun c1=>?_) (fun c1=>?_)
 ·try simp only [sx] at c1
  refine zN<|zH O (fun c22=>?_) (fun c22=>?_)
  ·refine Y O<|G O<|W<|zO<|zV O ?_
   rw [kA (l:=fC) (k:=0) rfl c1.symm]
  ·try simp only [sx] at c22
   refine zN<|Y O<|G O<|W<|zO<|zV O ?_
   exact absurd c1 c22
 ·try simp only [sx] at c1
  refine Y O<|wD O<|G O<|W<|zH O (fun c2=>?_) (fun c2=>?_)
  ·try simp only [sx] at c2
   refine zN<|zH O (fun c22=>?_) (fun c22=>?_)
   ·refine Y O<|G O<|W<|zO<|zV O ?_
    rw [kA (l:=fC) (k:=1) rfl c2.symm]
   ·try simp only [sx] at c22
    refine zN<|Y O<|G O<|W<|zO<|zV O ?_
    exact absurd c2 c22
  ·try simp only [sx] at c2
   refine Y O<|wD O<|G O<|W<|zH O (fun c3=>?_) (fun c3=>?_)
   ·try simp only [sx] at c3
    refine zN<|zH O (fun c22=>?_) (fun c22=>?_)
    ·refine Y O<|G O<|W<|zO<|zV O ?_
     rw [kA (l:=fC) (k:=2) rfl c3.symm]
    ·try simp only [sx] at c22
     refine zN<|Y O<|G O<|W<|zO<|zV O ?_
     exact absurd c3 c22
   ·try simp only [sx] at c3
    refine Y O<|wD O<|G O<|W<|zH O (fun c4=>?_) (fun c4=>?_)
    ·try simp only [sx] at c4
     refine zN<|zH O (fun c22=>?_) (fun c22=>?_)
     ·refine Y O<|G O<|W<|zO<|zV O ?_
      rw [kA (l:=fC) (k:=3) rfl c4.symm]
     ·try simp only [sx] at c22
      refine zN<|Y O<|G O<|W<|zO<|zV O ?_
      exact absurd c4 c22
    ·try simp only [sx] at c4
     refine Y O<|wD O<|G O<|W<|zH O (fun c5=>?_) (fun c5=>?_)
     ·try simp only [sx] at c5
      refine zN<|zH O (fun c22=>?_) (fun c22=>?_)
      ·refine Y O<|G O<|W<|zO<|zV O ?_
       rw [kA (l:=fC) (k:=4) rfl c5.symm]
      ·try simp only [sx] at c22
       refine zN<|Y O<|G O<|W<|zO<|zV O ?_
       exact absurd c5 c22
     ·try simp only [sx] at c5
      refine Y O<|wD O<|G O<|W<|zH O (fun c6=>?_) (fun c6=>?_)
      ·try simp only [sx] at c6
       refine zN<|zH O (fun c22=>?_) (fun c22=>?_)
       ·refine Y O<|G O<|W<|zO<|zV O ?_
        rw [kA (l:=fC) (k:=5) rfl c6.symm]
       ·try simp only [sx] at c22
        refine zN<|Y O<|G O<|W<|zO<|zV O ?_
        exact absurd c6 c22
      ·try simp only [sx] at c6
       refine Y O<|wD O<|G O<|W<|zH O (fun c7=>?_) (fun c7=>?_)
       ·try simp only [sx] at c7
        refine zN<|zH O (fun c22=>?_) (fun c22=>?_)
        ·refine Y O<|G O<|W<|zO<|zV O ?_
         rw [kA (l:=fC) (k:=6) rfl c7.symm]
        ·try simp only [sx] at c22
         refine zN<|Y O<|G O<|W<|zO<|zV O ?_
         exact absurd c7 c22
       ·try simp only [sx] at c7
        refine Y O<|wD O<|G O<|W<|zH O (fun c8=>?_) (fun c8=>?_)
        ·try simp only [sx] at c8
         refine zN<|zH O (fun c22=>?_) (fun c22=>?_)
         ·refine Y O<|G O<|W<|zO<|zV O ?_
          rw [kA (l:=fC) (k:=7) rfl c8.symm]
         ·try simp only [sx] at c22
          refine zN<|Y O<|G O<|W<|zO<|zV O ?_
          exact absurd c8 c22
        ·try simp only [sx] at c8
         refine Y O<|wD O<|G O<|W<|zH O (fun c9=>?_) (fun c9=>?_)
         ·try simp only [sx] at c9
          refine zN<|zH O (fun c22=>?_) (fun c22=>?_)
          ·refine Y O<|G O<|W<|zO<|zV O ?_
           rw [kA (l:=fC) (k:=8) rfl c9.symm]
          ·try simp only [sx] at c22
           refine zN<|Y O<|G O<|W<|zO<|zV O ?_
           exact absurd c9 c22
         ·try simp only [sx] at c9
          refine Y O<|wD O<|G O<|W<|zH O (fun c10=>?_) (fun c10=>?_)
          ·try simp only [sx] at c10
           refine zN<|zH O (fun c22=>?_) (fun c22=>?_)
           ·refine Y O<|G O<|W<|zO<|zV O ?_
            rw [kA (l:=fC) (k:=9) rfl c10.symm]
           ·try simp only [sx] at c22
            refine zN<|Y O<|G O<|W<|zO<|zV O ?_
            exact absurd c10 c22
          ·try simp only [sx] at c10
           refine Y O<|wD O<|G O<|W<|zH O (fun c11=>?_) (fun c11=>?_)
           ·try simp only [sx] at c11
            refine zN<|zH O (fun c22=>?_) (fun c22=>?_)
            ·refine Y O<|G O<|W<|zO<|zV O ?_
             rw [kA (l:=fC) (k:=10) rfl c11.symm]
            ·try simp only [sx] at c22
             refine zN<|Y O<|G O<|W<|zO<|zV O ?_
             exact absurd c11 c22
           ·try simp only [sx] at c11
            refine Y O<|wD O<|G O<|W<|zH O (fun c12=>?_) (fun c12=>?_)
            ·try simp only [sx] at c12
             refine zN<|zH O (fun c22=>?_) (fun c22=>?_)
             ·refine Y O<|G O<|W<|zO<|zV O ?_
              rw [kA (l:=fC) (k:=11) rfl c12.symm]
             ·try simp only [sx] at c22
              refine zN<|Y O<|G O<|W<|zO<|zV O ?_
              exact absurd c12 c22
            ·try simp only [sx] at c12
             refine Y O<|wD O<|G O<|W<|zH O (fun c13=>?_) (fun c13=>?_)
             ·try simp only [sx] at c13
              refine zN<|zH O (fun c22=>?_) (fun c22=>?_)
              ·refine Y O<|G O<|W<|zO<|zV O ?_
               rw [kA (l:=fC) (k:=12) rfl c13.symm]
              ·try simp only [sx] at c22
               refine zN<|Y O<|G O<|W<|zO<|zV O ?_
               exact absurd c13 c22
             ·try simp only [sx] at c13
              refine Y O<|wD O<|G O<|W<|zH O (fun c14=>?_) (fun c14=>?_)
              ·try simp only [sx] at c14
               refine zN<|zH O (fun c22=>?_) (fun c22=>?_)
               ·refine Y O<|G O<|W<|zO<|zV O ?_
                rw [kA (l:=fC) (k:=13) rfl c14.symm]
               ·try simp only [sx] at c22
                refine zN<|Y O<|G O<|W<|zO<|zV O ?_
                exact absurd c14 c22
              ·try simp only [sx] at c14
               refine Y O<|wD O<|G O<|W<|zH O (fun c15=>?_) (fun c15=>?_)
               ·try simp only [sx] at c15
                refine zN<|zH O (fun c22=>?_) (fun c22=>?_)
                ·refine Y O<|G O<|W<|zO<|zV O ?_
                 rw [kA (l:=fC) (k:=14) rfl c15.symm]
                ·try simp only [sx] at c22
                 refine zN<|Y O<|G O<|W<|zO<|zV O ?_
                 exact absurd c15 c22
               ·try simp only [sx] at c15
                refine Y O<|wD O<|G O<|W<|zH O (fun c16=>?_) (fun c16=>?_)
                ·try simp only [sx] at c16
                 refine zN<|zH O (fun c22=>?_) (fun c22=>?_)
                 ·refine Y O<|G O<|W<|zO<|zV O ?_
                  rw [kA (l:=fC) (k:=15) rfl c16.symm]
                 ·try simp only [sx] at c22
                  refine zN<|Y O<|G O<|W<|zO<|zV O ?_
                  exact absurd c16 c22
                ·try simp only [sx] at c16
                 refine Y O<|wD O<|G O<|W<|zH O (fun c17=>?_) (fun c17=>?_)
                 ·try simp only [sx] at c17
                  refine zN<|zH O (fun c22=>?_) (fun c22=>?_)
                  ·refine Y O<|G O<|W<|zO<|zV O ?_
                   rw [kA (l:=fC) (k:=16) rfl c17.symm]
                  ·try simp only [sx] at c22
                   refine zN<|Y O<|G O<|W<|zO<|zV O ?_
                   exact absurd c17 c22
                 ·try simp only [sx] at c17
                  refine Y O<|wD O<|G O<|W<|zH O (fun c18=>?_) (fun c18=>?_)
                  ·try simp only [sx] at c18
                   refine zN<|zH O (fun c22=>?_) (fun c22=>?_)
                   ·refine Y O<|G O<|W<|zO<|zV O ?_
                    rw [kA (l:=fC) (k:=17) rfl c18.symm]
                   ·try simp only [sx] at c22
                    refine zN<|Y O<|G O<|W<|zO<|zV O ?_
                    exact absurd c18 c22
                  ·try simp only [sx] at c18
                   refine Y O<|wD O<|G O<|W<|zH O (fun c19=>?_) (fun c19=>?_)
                   ·try simp only [sx] at c19
                    refine zN<|zH O (fun c22=>?_) (fun c22=>?_)
                    ·refine Y O<|G O<|W<|zO<|zV O ?_
                     rw [kA (l:=fC) (k:=18) rfl c19.symm]
                    ·try simp only [sx] at c22
                     refine zN<|Y O<|G O<|W<|zO<|zV O ?_
                     exact absurd c19 c22
                   ·try simp only [sx] at c19
                    refine Y O<|wD O<|G O<|W<|zH O (fun c20=>?_) (fun c20=>?_)
                    ·try simp only [sx] at c20
                     refine zN<|zH O (fun c22=>?_) (fun c22=>?_)
                     ·refine Y O<|G O<|W<|zO<|zV O ?_
                      rw [kA (l:=fC) (k:=19) rfl c20.symm]
                     ·try simp only [sx] at c22
                      refine zN<|Y O<|G O<|W<|zO<|zV O ?_
                      exact absurd c20 c22
                    ·try simp only [sx] at c20
                     refine Y O<|wD O<|G O<|W<|zH O (fun c21=>?_) (fun c21=>?_)
                     ·try simp only [sx] at c21
                      refine zN<|zH O (fun c22=>?_) (fun c22=>?_)
                      ·refine Y O<|G O<|W<|zO<|zV O ?_
                       rw [kA (l:=fC) (k:=20) rfl c21.symm]
                      ·try simp only [sx] at c22
                       refine zN<|Y O<|G O<|W<|zO<|zV O ?_
                       exact absurd c21 c22
                     ·try simp only [sx] at c21
                      refine zT O<|wD O<|G O<|W<|zH O (fun c22=>?_) (fun c22=>?_)
                      ·try simp only [sx] at c22
                       refine Y O<|G O<|W<|zO<|zV O ?_
                       rw [kA (l:=fC) (k:=21) rfl c22.symm]
                      ·try simp only [sx] at c22
                       refine zN<|Y O<|G O<|W<|zO<|zV O ?_
                       rw [show bR fC s=false by
                         simp only [bR,fC,List.any_cons,List.any_nil,Bool.or_eq_false_iff,decide_eq_false_iff_not]
                         exact ⟨fun h=>c1 h.symm,fun h=>c2 h.symm,fun h=>c3 h.symm,fun h=>c4 h.symm,fun h=>c5 h.symm,fun h=>c6 h.symm,fun h=>c7 h.symm,fun h=>c8 h.symm,fun h=>c9 h.symm,fun h=>c10 h.symm,fun h=>c11 h.symm,fun h=>c12 h.symm,fun h=>c13 h.symm,fun h=>c14 h.symm,fun h=>c15 h.symm,fun h=>c16 h.symm,fun h=>c17 h.symm,fun h=>c18 h.symm,fun h=>c19 h.symm,fun h=>c20 h.symm,fun h=>c21 h.symm,fun h=>c22 h.symm,T⟩]
theorem zFo (s:ByteArray):
    Pur cfg 158 [vS s] (vB (bD s)):=by
 refine zW Tryz.func158 O Tryz.ntmps158 Tryz.results158 O ?_
 intro z hz
 refine Y O<|G O<|W<|zM<|Y O<|G O<|qA O (zBa O un9 O)<|yI O<|G O<|rL0 O (fun g1_3=>zS O O) O<|rL1 9 O (fun g1_3=>zBa O un9 O) O<|rL1 10 O (fun g1_3=>yL O O O) O<|r_or O (fun h=>(lzf h))<|G O<|rL0 O (fun g1_8=>zS O O) O<|rL1 14 O (fun g1_8=>qL O ok211 (lin_reserved _) ⟨U,O,T⟩) O<|r_or O (fun h=>(lzf h))<|G O<|rL0 O (fun g1_12=>zS O O) O<|rL1 18 O (fun g1_12=>zDg O un9 O O (by decide) (by simp only [Lz,cond_true,cond_false,Bool.and_eq_true,Bool.or_eq_true,Bool.not_eq_true',Bool.not_eq_false',Bool.or_eq_false_iff,Bool.and_eq_false_iff,decide_eq_true_eq,decide_eq_false_iff_not,Bool.not_eq_true,Bool.not_eq_false] at g1_12;omega)) O<|rL1 19 O (fun g1_12=>zBs O O O) O<|r_or O (fun h=>(lzf h))<|G O<|rL0 O (fun g1_17=>zS O O) O<|rL1 23 O (fun g1_17=>zDg O un9 O O (by decide) (by simp only [Lz,cond_true,cond_false,Bool.and_eq_true,Bool.or_eq_true,Bool.not_eq_true',Bool.not_eq_false',Bool.or_eq_false_iff,Bool.and_eq_false_iff,decide_eq_true_eq,decide_eq_false_iff_not,Bool.not_eq_true,Bool.not_eq_false] at g1_17;omega)) O<|rL1 24 O (fun g1_17=>yL O O O) O<|r_or O (fun h=>(lzf h))<|W<|zH O (fun c1=>?_) (fun c1=>?_)
 ·have hno:=ident_no c1
  refine Y O<|G O<|W<|zO<|zV O ?_
  rw [hno]
 ·obtain ⟨n1,n2,hne⟩:=ident_yes c1
  refine zN<|zM<|Y O<|G O<|qA O (zBa O un9 O)<|G O<|W<|zR<|qC ⟨[(29,.c _),(0,.c _),(28,.c _)],[]⟩ (Weak.mk [] ⟨U,U,U,T⟩ O)<|qG 1 0 O O (Nat) (fun k=>[(29,vI k)]) (fun k=>[]) (fun k=>k<=s.size/\(s.data.toList.take k).all fY=true) (fun k=>s.size-k) ⟨0,⟨by omega,O⟩,Weak.mk [] ⟨U,U,U,T⟩ O⟩ ?_
  rintro k ⟨hk,hp⟩
  refine Y O<|yI O<|W<|zM<|zH O (fun c2=>?_) (fun c2=>?_)
  ·try simp only [sx] at c2
   have hlt:k<s.size:=by omega
   refine zN<|zM<|zR<|Y O<|G O<|G O<|W<|Y O<|G O<|G O<|qA O (zDg O un9 O O (by omega) (by omega))<|G O<|W<|Y O<|G O<|yI O<|G O<|rL0 O (fun g7_2=>zS O O) O<|rL1 38 O (fun g7_2=>yL O O O) O<|r_or O (fun h=>(lzf h))<|G O<|rL0 O (fun g7_6=>zS O O) O<|rL1 42 O (fun g7_6=>zBs O O O) O<|rL1 43 O (fun g7_6=>zS O O) O<|rLz [] O q T (fun g7_9=>zS O O) O<|rLz [(45,_)] O q ⟨O,O,T⟩ (fun g7_9=>yL O O O) O<|rL1 44 O (fun g7_6=>zBc O O O O (fun h=>kH (by assumption) (lzf h))) O<|yZ O (fun h=>h)<|G O<|rL0 O (fun g7_14=>zS O O) O<|rL1 50 O (fun g7_14=>zAg O O O) O<|yZ O (fun h=>h)<|W<|zH O (fun c3=>?_) (fun c3=>?_)
   ·have hbad:=word_no hlt c3
    refine Y O<|G O<|W<|zO<|zV O ?_
    rw [hne,hbad]
   ·have hgood:=word_yes hlt hp c3
    refine zN<|zT O<|qK O ⟨by omega,by omega⟩<|G O<|W ?_
    refine ⟨k+1,⟨by omega,hgood⟩,(by omega),Weak.mk [] ⟨U,U,U,T⟩ O⟩
  ·try simp only [sx] at c2
   refine qO<|Y O<|G O<|W<|zO<|zV O ?_
   rw [hne,word_all hp (by omega)]
theorem zAx (l:Lf) (hl:l.L.length<=6000000000000):
    Pur cfg 190 [dK l] (vI (fZ l)):=by
 refine zW Tryz.func190 O Tryz.ntmps190 Tryz.results190 O ?_
 intro z hz
 refine Y O<|zY O O (qN O O) ?_
 rintro _ _ ⟨b1,rfl,rfl⟩
 refine G O<|W<|zM<|Y O<|zF O yP<|zK kQ (J 0 O) O<|qB O D<|G O<|W<|zR<|qC ⟨[(8,.c _),(1,.c _),(6,.c _),(7,.c _)],[_]⟩ (Weak.mk [true] ⟨U,U,U,U,T⟩ O)<|qG 1 0 O O (Nat) (fun k=>[(8,vI k)]) (fun k=>[]) (fun k=>k<=l.L.length/\(bJ l=dC (mM l.L k) (l.L.drop k))) (fun k=>l.L.length-k) ⟨0,⟨by omega,O⟩,Weak.mk [true] ⟨U,U,U,U,T⟩ O⟩ ?_
 rintro k ⟨hk,hp⟩
 refine Y O<|yI O<|W<|zM<|zH O (fun c1=>?_) (fun c1=>?_)
 ·try simp only [sx] at c1
  obtain ⟨x,hx⟩:=qU l.L k (by omega)
  refine zN<|zM<|zR<|Y O<|G O<|qJ O D (by omega) (getm (by assumption))<|zP zHg qE O<|zY O O (yJ O zCy) ?_
  rintro _ _ ⟨b2,rfl,rfl⟩
  refine G O<|rStR 0 sz107 O<|W<|zM<|qW 25 mixed (by kernel_rfl) O O<|zQ O O (zE O wF O)<|zQ O O (zJ O one9 O (J 0 O) O)<|zQ O O (qL O ok158 (zFo _) ⟨U,O,T⟩)<|zQ O O (kT O O)<|zQ O O (zS O O)<|qI [] O O O O gv1 T (fun g4_4=>zE O zCq O) O<|qI [(18,_)] O O O O gv1 ⟨O,O,T⟩ (fun g4_4=>zJ O one2 O (J 0 O) O) O<|qI [(19,_)] O O O O gv1 ⟨O,O,T⟩ (fun g4_4=>yM O O O) O<|zQ O O (zBc O O O O (fun h=>(lzf h)))<|zQ O O (zS O O)<|qI [] O O O O gv1 T (fun g4_9=>zS O O) O<|qI [(23,_)] O O O O gv1 ⟨O,O,T⟩ (fun g4_9=>yL O O O) O<|qI [(24,_)] O O O O gv1 ⟨O,O,T⟩ (fun g4_9=>zS O O) O<|qI [] O O O O q T (fun g4_12=>zE O yP O) O<|qI [(26,_)] O O O O q ⟨O,O,T⟩ (fun g4_12=>zJ O kQ O (J 1 O) O) O<|qI [] O O O O q T (fun g4_12=>zS O O) O<|qI [(28,_)] O O O O q ⟨O,O,T⟩ (fun g4_12=>kP O O O ⟨by omega,by omega⟩) O<|qI [(27,_),(29,_)] O O O O q ⟨O,O,O,O,T⟩ (fun g4_12=>qH O D O O (by simp only [Lz,cond_true,cond_false,Bool.and_eq_true,Bool.or_eq_true,Bool.not_eq_true',Bool.not_eq_false',Bool.or_eq_false_iff,Bool.and_eq_false_iff,decide_eq_true_eq,decide_eq_false_iff_not,Bool.not_eq_true,Bool.not_eq_false] at g4_12;omega) (pv_get (by simp only [Lz,cond_true,cond_false,Bool.and_eq_true,Bool.or_eq_true,Bool.not_eq_true',Bool.not_eq_false',Bool.or_eq_false_iff,Bool.and_eq_false_iff,decide_eq_true_eq,decide_eq_false_iff_not,Bool.not_eq_true,Bool.not_eq_false] at g4_12;omega) (by omega))) O<|qI [(30,_)] O O O O q ⟨O,O,T⟩ (fun g4_12=>qP O wF O) O<|qI [(31,_)] O O O O q ⟨O,O,T⟩ (fun g4_12=>zJ O one9 O qE O) O<|qI [] O O O O q T (fun g4_12=>zE O wF O) O<|qI [(33,_)] O O O O q ⟨O,O,T⟩ (fun g4_12=>zJ O one9 O (J 0 O) O) O<|qI [(32,_),(34,_)] O O O O q ⟨O,O,O,O,T⟩ (fun g4_12=>det_sgeq O O O) O<|qI [(25,_)] O O O O gv1 ⟨O,O,T⟩ (fun g4_9=>wK O O O (fun h=>kH (by assumption) h) O) O<|zQ O O (zBc O O O O (fun h=>(lzf h)))<|yR<|W<|zH O (fun c2=>?_) (fun c2=>?_)
  ·refine Y O<|G O<|W<|zO<|zV O ?_
   rw [fZ,hp,zIn hx,show tL l.L k x=true from c2];rfl
  ·refine zN<|zT O<|qK O ⟨by omega,by omega⟩<|G O<|W ?_
   refine ⟨k+1,⟨by omega,by rw [hp,zIn hx,show tL l.L k x=false from c2];rfl⟩,(by omega),Weak.mk [false,true] ⟨U,U,U,U,T⟩ O⟩
 ·try simp only [sx] at c1
  refine qO<|Y O<|G O<|W<|zO<|zV O ?_
  rw [fZ,hp,monos_end (by omega)];rfl
theorem zBo (l:Lf) (hl:l.L.length<=6000000000000):
    Pur cfg 107 [dK l] (vB (bJ l)):=by
 refine zW Tryz.func107 O Tryz.ntmps107 Tryz.results107 O ?_
 intro z hz
 refine Y O<|zY O O (qN O O) ?_
 rintro _ _ ⟨b1,rfl,rfl⟩
 refine G O<|W<|zM<|Y O<|G O<|W<|zR<|qC ⟨[(3,.c _),(1,.c _)],[_]⟩ (Weak.mk [true] ⟨U,U,T⟩ O)<|qG 1 0 O O (Nat) (fun k=>[(3,vI k)]) (fun k=>[]) (fun k=>k<=l.L.length/\(bJ l=dC (mM l.L k) (l.L.drop k))) (fun k=>l.L.length-k) ⟨0,⟨by omega,O⟩,Weak.mk [true] ⟨U,U,T⟩ O⟩ ?_
 rintro k ⟨hk,hp⟩
 refine zM<|Y O<|G O<|zF O yP<|zK kQ (J 0 O) O<|qB O D<|yI O<|W<|zH O (fun c1=>?_) (fun c1=>?_)
 ·try simp only [sx] at c1
  obtain ⟨x,hx⟩:=qU l.L k (by omega)
  refine zN<|zM<|zR<|zM<|qW 37 mixed (by kernel_rfl) O O<|zQ O O (zE O yP O)<|zQ O O (zJ O kQ O (J 0 O) O)<|zQ O O (zS O O)<|zQ O O (qH O D O O (by omega) (getm (by assumption)))<|zQ O O (qP O wF O)<|zQ O O (zJ O one9 O qE O)<|zQ O O (qL O ok137 (zEw _) ⟨U,O,T⟩)<|zQ O O (kT O O)<|zQ O O (zS O O)<|qI [] O O O O gv1 T (fun g4_8=>zE O yP O) O<|qI [(20,_)] O O O O gv1 ⟨O,O,T⟩ (fun g4_8=>zJ O kQ O (J 0 O) O) O<|qI [] O O O O gv1 T (fun g4_8=>zS O O) O<|qI [(21,_),(22,_)] O O O O gv1 ⟨O,O,O,O,T⟩ (fun g4_8=>qH O D O O (by omega) (getm (by assumption))) O<|qI [(23,_)] O O O O gv1 ⟨O,O,T⟩ (fun g4_8=>qP O zCq O) O<|qI [(24,_)] O O O O gv1 ⟨O,O,T⟩ (fun g4_8=>zJ O one2 O qE O) O<|qI [(25,_)] O O O O gv1 ⟨O,O,T⟩ (fun g4_8=>yM O O O) O<|zQ O O (zBc O O O O (fun h=>(lzf h)))<|zQ O O (zS O O)<|qI [] O O O O gv1 T (fun g4_17=>zS O O) O<|qI [(29,_)] O O O O gv1 ⟨O,O,T⟩ (fun g4_17=>yL O O O) O<|qI [(30,_)] O O O O gv1 ⟨O,O,T⟩ (fun g4_17=>zS O O) O<|qI [] O O O O q T (fun g4_20=>zE O yP O) O<|qI [(32,_)] O O O O q ⟨O,O,T⟩ (fun g4_20=>zJ O kQ O (J 0 O) O) O<|qI [] O O O O q T (fun g4_20=>zS O O) O<|qI [(34,_)] O O O O q ⟨O,O,T⟩ (fun g4_20=>kP O O O ⟨by omega,by omega⟩) O<|qI [(33,_),(35,_)] O O O O q ⟨O,O,O,O,T⟩ (fun g4_20=>qH O D O O (by simp only [Lz,cond_true,cond_false,Bool.and_eq_true,Bool.or_eq_true,Bool.not_eq_true',Bool.not_eq_false',Bool.or_eq_false_iff,Bool.and_eq_false_iff,decide_eq_true_eq,decide_eq_false_iff_not,Bool.not_eq_true,Bool.not_eq_false] at g4_20;omega) (pv_get (by simp only [Lz,cond_true,cond_false,Bool.and_eq_true,Bool.or_eq_true,Bool.not_eq_true',Bool.not_eq_false',Bool.or_eq_false_iff,Bool.and_eq_false_iff,decide_eq_true_eq,decide_eq_false_iff_not,Bool.not_eq_true,Bool.not_eq_false] at g4_20;omega) (by omega))) O<|qI [(36,_)] O O O O q ⟨O,O,T⟩ (fun g4_20=>qP O wF O) O<|qI [(37,_)] O O O O q ⟨O,O,T⟩ (fun g4_20=>zJ O one9 O qE O) O<|qI [] O O O O q T (fun g4_20=>zE O yP O) O<|qI [(39,_)] O O O O q ⟨O,O,T⟩ (fun g4_20=>zJ O kQ O (J 0 O) O) O<|qI [] O O O O q T (fun g4_20=>zS O O) O<|qI [(40,_),(41,_)] O O O O q ⟨O,O,O,O,T⟩ (fun g4_20=>qH O D O O (by omega) (getm (by assumption))) O<|qI [(42,_)] O O O O q ⟨O,O,T⟩ (fun g4_20=>qP O wF O) O<|qI [(43,_)] O O O O q ⟨O,O,T⟩ (fun g4_20=>zJ O one9 O qE O) O<|qI [(38,_),(44,_)] O O O O q ⟨O,O,O,O,T⟩ (fun g4_20=>det_sgeq O O O) O<|qI [(31,_)] O O O O gv1 ⟨O,O,T⟩ (fun g4_17=>wK O O O (fun h=>kH (by assumption) h) O) O<|zQ O O (zBc O O O O (fun h=>(lzf h)))<|yR<|W<|zH O (fun c2=>?_) (fun c2=>?_)
  ·refine Y O<|G O<|W<|zO<|zV O ?_
   rw [hp,zIn hx,show tL l.L k x=true from c2];rfl
  ·refine zN<|zT O<|G O<|qK O ⟨by omega,by omega⟩<|G O<|W ?_
   refine ⟨k+1,⟨by omega,by rw [hp,zIn hx,show tL l.L k x=false from c2];rfl⟩,(by omega),Weak.mk [true] ⟨U,U,T⟩ O⟩
 ·try simp only [sx] at c1
  refine qO<|Y O<|G O<|W<|zO<|zV O ?_
  rw [hp,monos_end (by omega)]
theorem lin_Var (s:ByteArray):
    Pur cfg 91 [vS s] (dK (lR s)):=by
 refine zW Tryz.func91 O Tryz.ntmps91 Tryz.results91 O ?_
 intro z hz
 refine Y O<|zY O O (qF [none,some 2] O v O) ?_
 rintro _ _ ⟨b1,rfl,rfl⟩
 refine W<|zM<|Y O<|G O<|qQ O ok158 (zFo _) ⟨U,O,T⟩<|wE O<|W<|zH O (fun c1=>?_) (fun c1=>?_)
 ·try simp only [sx] at c1
  refine Y O<|yF [none,some 2] O v pl40<|rStR 0 sz40 O<|W<|zO<|fin1 (zZ yB O (J 0 O) O) ?_
  rw [lR,c1];rfl
 ·try simp only [sx] at c1
  refine zN<|Y O<|G O<|yN O zCy pl107<|yV O D zCy<|yN O v pl40<|rStR 0 sz40 O<|W<|zO<|fin1 (zZ yB O (J 0 O) O) ?_
  rw [lR,c1];rfl
theorem lin_Const (k:Int):
    Pur cfg 169 [vI k] (dK ⟨k,[]⟩):=by
 refine zW Tryz.func169 O Tryz.ntmps169 Tryz.results169 O ?_
 intro z hz
 refine Y O<|zY O O (qF [none,some 2] O v O) ?_
 rintro _ _ ⟨b1,rfl,rfl⟩
 refine W<|Y O<|G O<|yF [none,some 2] O v pl40<|rStR 0 sz40 O<|W<|zO<|fin1 (zZ yB O (J 0 O) O) ?_
 exact O
theorem zOv (s:ByteArray):
    Pur cfg 65 [vS s] (dK (lR s)):=by
 refine zW Tryz.func65 O Tryz.ntmps65 Tryz.results65 O ?_
 intro z hz
 refine Y O<|zY O O (qF [none,some 2] O v O) ?_
 rintro _ _ ⟨b1,rfl,rfl⟩
 refine W<|zM<|Y O<|G O<|qQ O ok137 (zEw _) ⟨U,O,T⟩<|wE O<|W<|zH O (fun c1=>?_) (fun c1=>?_)
 ·try simp only [sx] at c1
  refine Y O<|yF [none,some 2] O v pl40<|rStR 0 sz40 O<|W<|zO<|fin1 (zZ yB O (J 0 O) O) ?_
  rw [lR,c1];rfl
 ·try simp only [sx] at c1
  refine zN<|Y O<|G O<|yN O zCy pl107<|yV O D zCy<|yN O v pl40<|rStR 0 sz40 O<|W<|zO<|fin1 (zZ yB O (J 0 O) O) ?_
  rw [lR,c1];rfl
theorem zMa (k:Int):
    Pur cfg 229 [vI k] (dK ⟨k,[]⟩):=by
 refine zW Tryz.func229 O Tryz.ntmps229 Tryz.results229 O ?_
 intro z hz
 refine Y O<|zY O O (qF [none,some 2] O v O) ?_
 rintro _ _ ⟨b1,rfl,rfl⟩
 refine W<|Y O<|G O<|yF [none,some 2] O v pl40<|rStR 0 sz40 O<|W<|zO<|fin1 (zZ yB O (J 0 O) O) ?_
 exact O
theorem zMl (a b:List Mono) (ha:a.length<=6000000000000):
    Pur cfg 168 [pU a,pU b] (vB (decide (a=b))):=by
 refine zW Tryz.func168 O Tryz.ntmps168 Tryz.results168 O ?_
 intro z hz
 refine Y O<|G O<|W<|zM<|Y O<|G O<|qB O D<|G O<|qB O D<|yW O<|W<|zH O (fun c1=>?_) (fun c1=>?_)
 ·try simp only [sx] at c1
  refine Y O<|G O<|W<|zO<|zV O ?_
  rw [yD (fun h=>c1 (by rw [h]))]
 ·try simp only [sx] at c1
  refine zN<|zM<|Y O<|G O<|qB O D<|G O<|W<|zR<|qC ⟨[(13,.c _),(0,.c _),(1,.c _),(12,.c _)],[]⟩ (Weak.mk [] ⟨U,U,U,U,T⟩ O)<|qG 1 0 O O (Nat) (fun k=>[(13,vI k)]) (fun k=>[]) (fun k=>k<=a.length/\(a.take k=b.take k)) (fun k=>a.length-k) ⟨0,⟨by omega,O⟩,Weak.mk [] ⟨U,U,U,U,T⟩ O⟩ ?_
  rintro k ⟨hk,hp⟩
  refine Y O<|yI O<|W<|zM<|zH O (fun c2=>?_) (fun c2=>?_)
  ·try simp only [sx] at c2
   obtain ⟨x,hx⟩:=qU a k (by omega)
   obtain ⟨y,hy⟩:=qU b k (by omega)
   refine zN<|zM<|zR<|Y O<|G O<|G O<|W<|zM<|qW 9 mixed (by kernel_rfl) O O<|zQ O O (zS O O)<|zQ O O (zS O O)<|zQ O O (qH O D O O (by omega) (getm (by assumption)))<|zQ O O (zU O zHg O qE O)<|zQ O O (zS O O)<|zQ O O (zS O O)<|zQ O O (qH O D O O (by omega) (getm (by assumption)))<|zQ O O (zU O zHg O qE O)<|zQ O O (zBg O fl107 O O O)<|yR<|W<|zH O (fun c3=>?_) (fun c3=>?_)
   ·have hne:=mono_ne c3
    refine Y O<|G O<|W<|zO<|zV O ?_
    rw [yD (zBt hx hy hne)]
   ·have heq:=mono_eq c3
    refine zN<|zT O<|qK O ⟨by omega,by omega⟩<|G O<|W ?_
    refine ⟨k+1,⟨by omega,wZ hx hy hp heq⟩,(by omega),Weak.mk [] ⟨U,U,U,U,T⟩ O⟩
  ·try simp only [sx] at c2
   refine qO<|Y O<|G O<|W<|zO<|zV O ?_
   rw [kR (zBd hp (by omega) (by omega))]
theorem lin_Same (a b:Lf) (ha:a.L.length<=6000000000000):
    Pur cfg 114 [dK a,dK b] (vB (decide (a=b))):=by
 refine zW Tryz.func114 O Tryz.ntmps114 Tryz.results114 O ?_
 intro z hz
 refine Y O<|zY O O (qN O O) ?_
 rintro _ _ ⟨b1,rfl,rfl⟩
 refine zY O O (qN O O) ?_
 rintro _ _ ⟨b2,rfl,rfl⟩
 refine G O<|W<|Y O<|zF O zCk<|zK one2 (J 1 O) O<|zF O zCk<|zK one2 (J 0 O) O<|yK O<|G O<|rL0 O (fun g1_5=>zE O yP O) O<|rL1 11 O (fun g1_5=>zJ O kQ O (J 1 O) O) O<|rL0 O (fun g1_5=>zE O yP O) O<|rL1 13 O (fun g1_5=>zJ O kQ O (J 0 O) O) O<|rLz [(12,_),(14,_)] O gv1 ⟨O,O,O,O,T⟩ (fun g1_5=>qL O ok168 (zMl _ _ (by omega)) ⟨U,O,U,O,T⟩) O<|yZ O (fun h=>h)<|G O<|W<|zO<|zV O ?_
 exact congrArg vB (lin_eq a b)
theorem zIw (a b:Lf) (ha:a.L.length<=6000000000000):
    Pur cfg 34 [dK a,dK b] (vB (decide (a=b))):=by
 refine zW Tryz.func34 O Tryz.ntmps34 Tryz.results34 O ?_
 intro z hz
 refine Y O<|zY O O (qN O O) ?_
 rintro _ _ ⟨b1,rfl,rfl⟩
 refine zY O O (qN O O) ?_
 rintro _ _ ⟨b2,rfl,rfl⟩
 refine G O<|W<|zM<|Y O<|zF O zCk<|zK one2 (J 1 O) O<|zF O zCk<|zK one2 (J 0 O) O<|yW O<|G O<|rL0 O (fun g1_5=>zE O yP O) O<|rL1 12 O (fun g1_5=>zJ O kQ O (J 1 O) O) O<|rL1 13 O (fun g1_5=>qX O D O) O<|rL0 O (fun g1_5=>zE O yP O) O<|rL1 15 O (fun g1_5=>zJ O kQ O (J 0 O) O) O<|rL1 16 O (fun g1_5=>qX O D O) O<|rLz [(14,_),(17,_)] O gv1 ⟨O,O,O,O,T⟩ (fun g1_5=>zAg O O O) O<|r_or O (fun h=>(lzf h))<|W<|zH O (fun c1=>?_) (fun c1=>?_)
 ·try simp only [sx] at c1
  refine Y O<|G O<|W<|zO<|zV O ?_
  rw [yD (fun h=>by rw [h] at c1;simp at c1)]
 ·try simp only [sx] at c1
  refine zN<|zM<|Y O<|G O<|W<|zR<|qC ⟨[(5,.c _),(2,.c _),(3,.c _)],[_,_]⟩ (Weak.mk [true,true] ⟨U,U,U,T⟩ O)<|qG 1 0 O O (Nat) (fun k=>[(5,vI k)]) (fun k=>[]) (fun k=>k<=a.L.length/\(a.L.take k=b.L.take k)) (fun k=>a.L.length-k) ⟨0,⟨by omega,O⟩,Weak.mk [true,true] ⟨U,U,U,T⟩ O⟩ ?_
  rintro k ⟨hk,hp⟩
  refine zM<|Y O<|G O<|zF O yP<|zK kQ (J 1 O) O<|qB O D<|yI O<|W<|zH O (fun c2=>?_) (fun c2=>?_)
  ·try simp only [sx] at c2
   obtain ⟨x,hx⟩:=qU a.L k (by omega)
   obtain ⟨y,hy⟩:=qU b.L k (by omega)
   refine zN<|zM<|zR<|zM<|qW 11 mixed (by kernel_rfl) O O<|zQ O O (zE O yP O)<|zQ O O (zJ O kQ O (J 1 O) O)<|zQ O O (zS O O)<|zQ O O (qH O D O O (by omega) (getm (by assumption)))<|zQ O O (zU O zHg O qE O)<|zQ O O (zE O yP O)<|zQ O O (zJ O kQ O (J 0 O) O)<|zQ O O (zS O O)<|zQ O O (qH O D O O (by omega) (getm (by assumption)))<|zQ O O (zU O zHg O qE O)<|zQ O O (zBg O fl107 O O O)<|yR<|W<|zH O (fun c3=>?_) (fun c3=>?_)
   ·have hne:=mono_ne c3
    refine Y O<|G O<|W<|zO<|zV O ?_
    rw [yD (fun h=>zBt hx hy hne (by rw [h]))]
   ·have heq:=mono_eq c3
    refine zN<|zT O<|G O<|qK O ⟨by omega,by omega⟩<|G O<|W ?_
    refine ⟨k+1,⟨by omega,wZ hx hy hp heq⟩,(by omega),Weak.mk [true,true] ⟨U,U,U,T⟩ O⟩
  ·try simp only [sx] at c2
   refine qO<|Y O<|G O<|W<|zO<|zV O ?_
   rw [kR (lin_mk (by omega) (zBd hp (by omega) (by omega)))]
theorem zQv (l:Lf) (s:ByteArray) (hl:l.L.length<=6000000000000):
    Pur cfg 135 [dK l,vS s] (vI (mE l.L s)):=by
 refine zW Tryz.func135 O Tryz.ntmps135 Tryz.results135 O ?_
 intro z hz
 refine Y O<|zY O O (qN O O) ?_
 rintro _ _ ⟨b1,rfl,rfl⟩
 refine G O<|W<|zM<|Y O<|G O<|W<|zR<|qC ⟨[(5,.c _),(1,.c _),(2,.c _)],[_]⟩ (Weak.mk [true] ⟨U,U,U,T⟩ O)<|qG 1 0 O O (Nat) (fun k=>[(5,vI k)]) (fun k=>[]) (fun k=>k<=l.L.length/\(mE l.L s=mE (l.L.drop k) s)) (fun k=>l.L.length-k) ⟨0,⟨by omega,O⟩,Weak.mk [true] ⟨U,U,U,T⟩ O⟩ ?_
 rintro k ⟨hk,hp⟩
 refine zM<|Y O<|G O<|zF O yP<|zK kQ (J 0 O) O<|qB O D<|yI O<|W<|zH O (fun c1=>?_) (fun c1=>?_)
 ·try simp only [sx] at c1
  obtain ⟨x,hx⟩:=qU l.L k (by omega)
  refine zN<|zM<|zR<|Y O<|zF O yP<|zK kQ (J 0 O) O<|G O<|qJ O D (by omega) (getm (by assumption))<|qS O wF<|zK one9 qE O<|G O<|wD O<|W<|zH O (fun c2=>?_) (fun c2=>?_)
  ·try simp only [sx] at c2
   refine Y O<|zF O yP<|zK kQ (J 0 O) O<|G O<|qJ O D (by omega) (getm (by assumption))<|qS O zCq<|zK one2 qE O<|G O<|W<|zO<|zV O ?_
   rw [hp,qR hx,mE,if_pos c2]
  ·try simp only [sx] at c2
   refine zN<|zT O<|G O<|qK O ⟨by omega,by omega⟩<|G O<|W ?_
   refine ⟨k+1,⟨by omega,by rw [hp,qR hx,mE,if_neg c2]⟩,(by omega),Weak.mk [true] ⟨U,U,U,T⟩ O⟩
 ·try simp only [sx] at c1
  refine qO<|Y O<|G O<|W<|zO<|zV O ?_
  rw [hp,wB (by omega)];rfl
theorem zHn (l:List Mono) (c:C) (p:Mono->Bool) (hl:l.length<=6000000000000) (hc:∀x,x∈l->FnPur cfg c [tQ x] (vB (p x))):
    Pur cfg 226 [pU l,.c c] (vI (dI p l)):=by
 refine zW Tryz.func226 O Tryz.ntmps226 Tryz.results226 O ?_
 intro z hz
 refine Y O<|G O<|W<|zM<|Y O<|G O<|qB O D<|G O<|W<|zR<|qC ⟨[(8,.c _),(0,.c _),(1,.c _),(7,.c _)],[]⟩ (Weak.mk [] ⟨U,U,U,U,T⟩ O)<|qG 1 0 O O (Nat) (fun k=>[(8,vI k)]) (fun k=>[]) (fun k=>k<=l.length/\((l.take k).any p=false)) (fun k=>l.length-k) ⟨0,⟨by omega,O⟩,Weak.mk [] ⟨U,U,U,U,T⟩ O⟩ ?_
 rintro k ⟨hk,hp⟩
 refine Y O<|yI O<|W<|zM<|zH O (fun c1=>?_) (fun c1=>?_)
 ·try simp only [sx] at c1
  obtain ⟨x,hx⟩:=qU l k (by omega)
  refine zN<|zM<|zR<|Y O<|G O<|G O<|W<|Y O<|G O<|G O<|G O<|qJ O D (by omega) (getm (by assumption))<|zP zHg qE O<|qA O (zBl O O (hc _ (zX hx)) ⟨U,O,T⟩)<|W<|zH O (fun c2=>?_) (fun c2=>?_)
  ·try simp only [sx] at c2
   refine Y O<|G O<|G O<|W<|zO<|zV O ?_
   rw [zFf hx c2 hp]
  ·try simp only [sx] at c2
   refine zN<|zT O<|qK O ⟨by omega,by omega⟩<|G O<|W ?_
   refine ⟨k+1,⟨by omega,zCb hx hp c2⟩,(by omega),Weak.mk [] ⟨U,U,U,U,T⟩ O⟩
 ·try simp only [sx] at c1
  refine qO<|Y O<|G O<|W<|zO<|zV O ?_
  rw [zDf (by rw [qY (by omega)] at hp;exact hp)]
theorem zFt (l:List Mono) (c:C) (p:Mono->Bool) (hl:l.length<=6000000000000) (hc:∀x,x∈l->FnPur cfg c [tQ x] (vB (p x))):
    Pur cfg 170 [pU l,.c c] (vB (l.any p)):=by
 refine zW Tryz.func170 O Tryz.ntmps170 Tryz.results170 O ?_
 intro z hz
 refine Y O<|G O<|W<|Y O<|G O<|G O<|qQ O ok226 (zHn l c p hl hc) ⟨U,O,U,O,T⟩<|qA O (wJ O O O)<|G O<|W<|zO<|zV O ?_
 rw [zRu]
theorem zJq (l:List Ix) (c:C) (p:Ix->Bool) (hl:l.length<=6000000000000) (hc:∀x,x∈l->FnPur cfg c [lK x] (vB (p x))):
    Pur cfg 305 [nB l,.c c] (vI (dI p l)):=by
 refine zW Tryz.func305 O Tryz.ntmps305 Tryz.results305 O ?_
 intro z hz
 refine Y O<|G O<|W<|zM<|Y O<|G O<|qB O el41<|G O<|W<|zR<|qC ⟨[(8,.c _),(0,.c _),(1,.c _),(7,.c _)],[]⟩ (Weak.mk [] ⟨U,U,U,U,T⟩ O)<|qG 1 0 O O (Nat) (fun k=>[(8,vI k)]) (fun k=>[]) (fun k=>k<=l.length/\((l.take k).any p=false)) (fun k=>l.length-k) ⟨0,⟨by omega,O⟩,Weak.mk [] ⟨U,U,U,U,T⟩ O⟩ ?_
 rintro k ⟨hk,hp⟩
 refine Y O<|yI O<|W<|zM<|zH O (fun c1=>?_) (fun c1=>?_)
 ·try simp only [sx] at c1
  obtain ⟨x,hx⟩:=qU l k (by omega)
  refine zN<|zM<|zR<|Y O<|G O<|G O<|W<|Y O<|G O<|G O<|G O<|qJ O el41 (by omega) (getm (by assumption))<|zP zDv qE O<|qA O (zBl O O (hc _ (zX hx)) ⟨U,O,T⟩)<|W<|zH O (fun c2=>?_) (fun c2=>?_)
  ·try simp only [sx] at c2
   refine Y O<|G O<|G O<|W<|zO<|zV O ?_
   rw [zFf hx c2 hp]
  ·try simp only [sx] at c2
   refine zN<|zT O<|qK O ⟨by omega,by omega⟩<|G O<|W ?_
   refine ⟨k+1,⟨by omega,zCb hx hp c2⟩,(by omega),Weak.mk [] ⟨U,U,U,U,T⟩ O⟩
 ·try simp only [sx] at c1
  refine qO<|Y O<|G O<|W<|zO<|zV O ?_
  rw [zDf (by rw [qY (by omega)] at hp;exact hp)]
theorem zBe (l:List Ix) (c:C) (p:Ix->Bool) (hl:l.length<=6000000000000) (hc:∀x,x∈l->FnPur cfg c [lK x] (vB (p x))):
    Pur cfg 266 [nB l,.c c] (vB (l.any p)):=by
 refine zW Tryz.func266 O Tryz.ntmps266 Tryz.results266 O ?_
 intro z hz
 refine Y O<|G O<|W<|Y O<|G O<|G O<|qQ O ok305 (zJq l c p hl hc) ⟨U,O,U,O,T⟩<|qA O (wJ O O O)<|G O<|W<|zO<|zV O ?_
 rw [zRu]
theorem zOu (m:Mono) (s:ByteArray):
    Pur cfg 171 [tQ m,.c (.iptr [cS s])] (vB (decide (m.Name=s))):=by
 refine zW Tryz.func171 O Tryz.ntmps171 Tryz.results171 O ?_
 intro z hz
 refine Y O<|zY O O (qN O O) ?_
 rintro _ _ ⟨b1,rfl,rfl⟩
 refine G O<|W<|Y O<|zF O wF<|zK one9 (J 0 O) O<|zK one9 qE O<|wD O<|G O<|W<|zO<|zV O ?_
 exact O
end Go.W
