/-
  Walks: what functions of the program compute. Printed by wip/gen/mk2.py.
  Conditions: none.
-/
import Derived.Test.YtdldhbfgfkebjaaGreatDoorFacts
import Derived.Test.YtdldhbfgfkebjaaGreatDoorPlain
set_option linter.unusedSimpArgs false
set_option linter.unusedVariables false
set_option maxRecDepth 10000
namespace Go.W
open Go Go.Eng Go.Proofs Go.L41 Go.Br
attribute [local irreducible] AWP RWP TD finQ
theorem kw_ascii:∀(j:Nat) (b:UInt8),(bs kwBytes).data.toList[j]? =some b->b.toNat<128:=by
  intro j b h
  have:(kwBytes.all fun c=>decide (c.toNat<128))=true:=by decide
  rw [List.all_eq_true] at this
  simpa using this b (List.mem_of_getElem? h)
theorem kw_fields:(Lib.fields kwBytes).map bs=words:=by decide+kernel
theorem nm1 {s:ByteArray} (h:Lz (!decide (s=bs [])&&decide ((s.size:Int)<=16)) true=true):¬s=bs []:=by
  simp only [Lz,cond_true,Bool.and_eq_true,Bool.not_eq_true',decide_eq_false_iff_not] at h
  exact h.1
theorem nm2 {s:ByteArray} {p:Bool} (h:Lz (!decide (s=bs [])&&decide ((s.size:Int)<=16)&&p) true=true):s.size<=1000000:=by
  simp only [Lz,cond_true,Bool.and_eq_true,decide_eq_true_eq] at h
  omega
theorem zCo:aggT Tryz.prog 153=some 4:=by kernel_rfl
theorem zLp:aggT Tryz.prog 205=some 2:=by kernel_rfl
theorem el51:elemT Tryz.prog 51=some (153,4,72):=by kernel_rfl
theorem el52:elemT Tryz.prog 52=some (205,2,24):=by kernel_rfl
theorem el78:elemT Tryz.prog 78=some (9,1,16):=by kernel_rfl
theorem fd54_0:fieldT Tryz.prog 54 0=some (0,2):=by kernel_rfl
theorem zGb:fieldT Tryz.prog 54 1=some (1,52):=by kernel_rfl
theorem zEn:fieldT Tryz.prog 205 0=some (0,9):=by kernel_rfl
theorem zKk:fieldT Tryz.prog 205 1=some (1,2):=by kernel_rfl
theorem ik21:intT Tryz.prog 21=some .i32:=by kernel_rfl
theorem mixed:Tryz.prog.follows .mixedOrders=true:=by kernel_rfl
theorem ok137:callOk Tryz.prog 137=true:=by kernel_rfl
theorem ok138:callOk Tryz.prog 138=true:=by kernel_rfl
theorem ok139:callOk Tryz.prog 139=true:=by kernel_rfl
theorem ok140:callOk Tryz.prog 140=true:=by kernel_rfl
theorem ok164:callOk Tryz.prog 164=true:=by kernel_rfl
theorem ok165:callOk Tryz.prog 165=true:=by kernel_rfl
theorem ok166:callOk Tryz.prog 166=true:=by kernel_rfl
theorem ok180:callOk Tryz.prog 180=true:=by kernel_rfl
theorem ok182:callOk Tryz.prog 182=true:=by kernel_rfl
theorem ok191:callOk Tryz.prog 191=true:=by kernel_rfl
theorem ok283:callOk Tryz.prog 283=true:=by kernel_rfl
theorem ok296:callOk Tryz.prog 296=true:=by kernel_rfl
theorem ok299:callOk Tryz.prog 299=true:=by kernel_rfl
theorem one2:oneT Tryz.prog 2=true:=by kernel_rfl
theorem one9:oneT Tryz.prog 9=true:=by kernel_rfl
theorem zNk:oneT Tryz.prog 52=true:=by kernel_rfl
theorem sz205:(Tryz.prog.info? 205).map (·.size)=some 2:=by kernel_rfl
theorem un9:Tryz.prog.underlying 9=some .string:=by kernel_rfl
theorem us5:(Tryz.prog.underlying 5).isSome=true:=by kernel_rfl
theorem zr9:zeroT Tryz.prog 9=some [(Value.string (ByteArray.mk #[]))]:=by kernel_rfl
theorem zr205:zeroT Tryz.prog 205=some [(Value.string (ByteArray.mk #[])),(Value.int IntKind.i64 0)]:=by kernel_rfl
theorem zLi (n:Int):
    Pur cfg 137 [vR n] (vB (letterI n)):=by
 refine zW Tryz.func137 O Tryz.ntmps137 Tryz.results137 O ?_
 intro z hz
 refine R O<|G O<|zA<|R O<|G O<|v O (wG O O O)<|G O<|rL0 O (fun g1_2=>zG O O) O<|B 6 O (fun g1_2=>wI O O O) O<|kE O (fun h=>h)<|G O<|zA<|zM<|zX O ?_
 exact O
theorem lexer_digit (n:Int):
    Pur cfg 164 [vR n] (vB (digitI n)):=by
 refine zW Tryz.func164 O Tryz.ntmps164 Tryz.results164 O ?_
 intro z hz
 refine R O<|G O<|zA<|R O<|G O<|v O (wG O O O)<|G O<|rL0 O (fun g1_2=>zG O O) O<|B 6 O (fun g1_2=>wI O O O) O<|kE O (fun h=>h)<|G O<|zA<|zM<|zX O ?_
 exact O
theorem lexer_inWord (n:Int):
    Pur cfg 139 [vR n] (vB (inWordI n)):=by
 refine zW Tryz.func139 O Tryz.ntmps139 Tryz.results139 O ?_
 intro z hz
 refine R O<|G O<|zA<|R O<|G O<|qW O ok137 (zLi _) ⟨zB,O,T⟩<|G O<|rL0 O (fun g1_2=>zG O O) O<|B 6 O (fun g1_2=>qY O ok164 (lexer_digit _) ⟨zB,O,T⟩) O<|v O (kK O O O O (fun h=>(lzf h)))<|G O<|rL0 O (fun g1_6=>zG O O) O<|B 10 O (fun g1_6=>kJ O O O) O<|v O (kK O O O O (fun h=>(lzf h)))<|G O<|zA<|zM<|zX O ?_
 exact O
theorem zKj (s:ByteArray) (hs:s.size<=1000000):
    Pur cfg 138 [vS s,.c (.fn (.func 139) [] [])] (vI (spanB inWordB s.data.toList)):=by
 refine zW Tryz.func138 O Tryz.ntmps138 Tryz.results138 O ?_
 intro z hz
 refine R O<|G O<|zA<|R O<|G O<|zA<|zF<|zQ<|zS ⟨[(5,.c _),(0,.c _),(1,.c _)],[]⟩ (Weak.mk [] ⟨zB,zB,zB,T⟩ O)<|qJ 1 0 O O (Nat) (fun k=>[(5,vI k)]) (fun k=>[]) (fun k=>k<=s.size/\(s.data.toList.take k).all inWordB=true) (fun k=>s.size-k) ⟨0,⟨by omega,O⟩,Weak.mk [] ⟨zB,zB,zB,T⟩ O⟩ ?_
 rintro k ⟨hk,hp⟩
 refine zF<|R O<|G O<|G O<|v O (zCb O un9 O)<|yE O<|G O<|rL0 O (fun g2_4=>zG O O) O<|rL0 O (fun g2_4=>zG O O) O<|rL0 O (fun g2_4=>zG O O) O<|rLz [(12,_),(13,_)] O gv1 ⟨O,O,O,O,T⟩ (fun g2_4=>zCy O un9 O O (by omega) (by simp only [Lz,cond_true,decide_eq_true_eq] at g2_4;omega)) O<|B 14 O (fun g2_4=>zDl O us5 ik21 O) O<|rLz [(11,_),(15,_)] O gv1 ⟨O,O,O,O,T⟩ (fun g2_4=>det_call_fn0 O O ok139 (lexer_inWord _) ⟨zB,O,T⟩) O<|kE O (fun h=>h)<|zA<|zC O (fun c1=>?_) (fun c1=>?_)
 ·try simp only [sx] at c1
  obtain ⟨hlt,hcc⟩:=c1
  have hlt:k<s.size:=by omega
  rw [zHn] at hcc
  refine zH<|zQ<|zI O<|G O<|qD O ⟨by omega,by omega⟩<|G O<|zA ?_
  have hg:=zEm hlt
  refine ⟨k+1,⟨by omega,by rw [zJw hg,hp];exact hcc⟩,(by omega),Weak.mk [] ⟨zB,zB,zB,T⟩ O⟩
 ·try simp only [sx] at c1
  have hsp:spanB inWordB s.data.toList=k:=span_stop hp (by
    by_cases hlt:k<s.size
    · right;refine ⟨_,zEm hlt,?_⟩;rcases c1 with c1|c1;omega;rw [zHn] at c1;exact c1
    · left;simp;omega)
  refine qL<|R O<|G O<|G O<|zA<|zM<|zX O ?_
  rw [hsp]
theorem zEu (l:List ByteArray) (s:ByteArray) (hl:l.length<=6000000000000):
    Pur cfg 182 [vSs l,vS s] (vI (idxB l s)):=by
 refine zW Tryz.func182 O Tryz.ntmps182 Tryz.results182 O ?_
 intro z hz
 refine R O<|G O<|zA<|zF<|R O<|G O<|qH O el78<|G O<|zA<|zQ<|zS ⟨[(8,.c _),(0,.c _),(1,.c _),(7,.c _)],[]⟩ (Weak.mk [] ⟨zB,zB,zB,zB,T⟩ O)<|qJ 1 0 O O (Nat) (fun k=>[(8,vI k)]) (fun k=>[]) (fun k=>k<=l.length/\hasB (l.take k) s=false) (fun k=>l.length-k) ⟨0,⟨by omega,O⟩,Weak.mk [] ⟨zB,zB,zB,zB,T⟩ O⟩ ?_
 rintro k ⟨hk,hp⟩
 refine R O<|yE O<|zA<|zF<|zC O (fun c1=>?_) (fun c1=>?_)
 ·try simp only [sx] at c1
  obtain ⟨t,ht⟩:=qX l k (by omega)
  refine zH<|zF<|zQ<|R O<|G O<|G O<|zA<|R O<|G O<|G O<|G O<|qI O el78 (by omega) (getm ht)<|zL one9 Y O<|v O (kH O O O)<|zA<|zC O (fun c2=>?_) (fun c2=>?_)
  ·try simp only [sx] at c2
   refine R O<|G O<|G O<|zA<|zM<|zX O ?_
   rw [idxB_some ht c2 hp]
  ·try simp only [sx] at c2
   refine zH<|zI O<|qD O ⟨by omega,by omega⟩<|G O<|zA ?_
   refine ⟨k+1,⟨by omega,hasB_take_no ht hp (fun e=>c2 e.symm)⟩,(by omega),Weak.mk [] ⟨zB,zB,zB,zB,T⟩ O⟩
 ·try simp only [sx] at c1
  refine qL<|R O<|G O<|zA<|zM<|zX O ?_
  rw [idxB_none (by rw [yI (by omega)] at hp;exact hp)]
theorem zBp (l:List ByteArray) (s:ByteArray) (hl:l.length<=6000000000000):
    Pur cfg 165 [vSs l,vS s] (vB (hasB l s)):=by
 refine zW Tryz.func165 O Tryz.ntmps165 Tryz.results165 O ?_
 intro z hz
 refine R O<|G O<|zA<|R O<|G O<|G O<|qW O ok182 (zEu l s hl) ⟨zB,O,zB,O,T⟩<|v O (wG O O O)<|G O<|zA<|zM<|zX O ?_
 rw [idxB_has]
theorem lexer_keywords  :
    Pur cfg 166 [] (vSs words):=by
 refine zW Tryz.func166 O Tryz.ntmps166 Tryz.results166 O ?_
 intro z hz
 refine R O<|v O (kP 1 O O)<|zA<|R O<|qW O ok191 (strings_Fields _ (by decide) kw_ascii) ⟨zB,O,T⟩<|G O<|zA<|zM<|zX O ?_
 exact congrArg vSs kw_fields
theorem zNw (s:ByteArray):
    Pur cfg 140 [vS s] (vB (hasB words s)):=by
 refine zW Tryz.func140 O Tryz.ntmps140 Tryz.results140 O ?_
 intro z hz
 refine R O<|G O<|zA<|R O<|qW O ok166 (lexer_keywords) T<|G O<|qW O ok165 (zBp _ _ (by decide)) ⟨zB,O,zB,O,T⟩<|G O<|zA<|zM<|zX O ?_
 exact O
theorem zCi (s:ByteArray):
    Pur cfg 96 [vS s] (vB (isNameB s)):=by
 refine zW Tryz.func96 O Tryz.ntmps96 Tryz.results96 O ?_
 intro z hz
 refine R O<|G O<|zA<|R O<|G O<|v O (zCf O O O)<|G O<|rL0 O (fun g1_2=>zG O O) O<|B 6 O (fun g1_2=>zCb O un9 O) O<|B 7 O (fun g1_2=>wI O O O) O<|kE O (fun h=>h)<|G O<|rL0 O (fun g1_7=>zG O O) O<|B 11 O (fun g1_7=>zCy O un9 O O (by decide) (size_pos (nm1 g1_7))) O<|B 12 O (fun g1_7=>zDl O us5 ik21 O) O<|B 13 O (fun g1_7=>qY O ok137 (zLi _) ⟨zB,O,T⟩) O<|kE O (fun h=>h)<|G O<|rL0 O (fun g1_13=>zG O O) O<|B 17 O (fun g1_13=>qY O ok138 (zKj s (nm2 g1_13)) ⟨zB,O,zB,O,T⟩) O<|rL0 O (fun g1_13=>zG O O) O<|B 19 O (fun g1_13=>zCb O un9 O) O<|rLz [(18,_),(20,_)] O gv1 ⟨O,O,O,O,T⟩ (fun g1_13=>kJ O O O) O<|kE O (fun h=>h)<|G O<|rL0 O (fun g1_20=>zG O O) O<|B 24 O (fun g1_20=>qY O ok140 (zNw _) ⟨zB,O,T⟩) O<|B 25 O (fun g1_20=>wR O O) O<|kE O (fun h=>h)<|G O<|zA<|zM<|zX O ?_
 exact congrArg vB (isName_eq s)
theorem lin_reserved (s:ByteArray):
    Pur cfg 299 [vS s] (vB (hasB words s)):=by
 refine zW Tryz.func299 O Tryz.ntmps299 Tryz.results299 O ?_
 intro z hz
 refine R O<|G O<|zA<|zF<|R O<|G O<|zA<|zQ<|zF<|R O<|v O (kH O O O)<|G O<|zA<|zC O (fun c1=>?_) (fun c1=>?_)
 ·try simp only [sx] at c1
  refine zH<|zC O (fun c22=>?_) (fun c22=>?_)
  ·try simp only [sx] at c22
   refine R O<|G O<|zA<|zM<|zX O ?_
   rw [yV (l:=words) (k:=0) rfl c1.symm]
  ·try simp only [sx] at c22
   refine zH<|R O<|G O<|zA<|zM<|zX O ?_
   exact absurd c1 c22
 ·try simp only [sx] at c1
  refine R O<|v O (kH O O O)<|G O<|zA<|zC O (fun c2=>?_) (fun c2=>?_)
  ·try simp only [sx] at c2
   refine zH<|zC O (fun c22=>?_) (fun c22=>?_)
   ·try simp only [sx] at c22
    refine R O<|G O<|zA<|zM<|zX O ?_
    rw [yV (l:=words) (k:=1) rfl c2.symm]
   ·try simp only [sx] at c22
    refine zH<|R O<|G O<|zA<|zM<|zX O ?_
    exact absurd c2 c22
  ·try simp only [sx] at c2
   refine R O<|v O (kH O O O)<|G O<|zA<|zC O (fun c3=>?_) (fun c3=>?_)
   ·try simp only [sx] at c3
    refine zH<|zC O (fun c22=>?_) (fun c22=>?_)
    ·try simp only [sx] at c22
     refine R O<|G O<|zA<|zM<|zX O ?_
     rw [yV (l:=words) (k:=2) rfl c3.symm]
    ·try simp only [sx] at c22
     refine zH<|R O<|G O<|zA<|zM<|zX O ?_
     exact absurd c3 c22
   ·try simp only [sx] at c3
    refine R O<|v O (kH O O O)<|G O<|zA<|zC O (fun c4=>?_) (fun c4=>?_)
    ·try simp only [sx] at c4
     refine zH<|zC O (fun c22=>?_) (fun c22=>?_)
     ·try simp only [sx] at c22
      refine R O<|G O<|zA<|zM<|zX O ?_
      rw [yV (l:=words) (k:=3) rfl c4.symm]
     ·try simp only [sx] at c22
      refine zH<|R O<|G O<|zA<|zM<|zX O ?_
      exact absurd c4 c22
    ·try simp only [sx] at c4
     refine R O<|v O (kH O O O)<|G O<|zA<|zC O (fun c5=>?_) (fun c5=>?_)
     ·try simp only [sx] at c5
      refine zH<|zC O (fun c22=>?_) (fun c22=>?_)
      ·try simp only [sx] at c22
       refine R O<|G O<|zA<|zM<|zX O ?_
       rw [yV (l:=words) (k:=4) rfl c5.symm]
      ·try simp only [sx] at c22
       refine zH<|R O<|G O<|zA<|zM<|zX O ?_
       exact absurd c5 c22
     ·try simp only [sx] at c5
      refine R O<|v O (kH O O O)<|G O<|zA<|zC O (fun c6=>?_) (fun c6=>?_)
      ·try simp only [sx] at c6
       refine zH<|zC O (fun c22=>?_) (fun c22=>?_)
       ·try simp only [sx] at c22
        refine R O<|G O<|zA<|zM<|zX O ?_
        rw [yV (l:=words) (k:=5) rfl c6.symm]
       ·try simp only [sx] at c22
        refine zH<|R O<|G O<|zA<|zM<|zX O ?_
        exact absurd c6 c22
      ·try simp only [sx] at c6
       refine R O<|v O (kH O O O)<|G O<|zA<|zC O (fun c7=>?_) (fun c7=>?_)
       ·try simp only [sx] at c7
        refine zH<|zC O (fun c22=>?_) (fun c22=>?_)
        ·try simp only [sx] at c22
         refine R O<|G O<|zA<|zM<|zX O ?_
         rw [yV (l:=words) (k:=6) rfl c7.symm]
        ·try simp only [sx] at c22
         refine zH<|R O<|G O<|zA<|zM<|zX O ?_
         exact absurd c7 c22
       ·try simp only [sx] at c7
        refine R O<|v O (kH O O O)<|G O<|zA<|zC O (fun c8=>?_) (fun c8=>?_)
        ·try simp only [sx] at c8
         refine zH<|zC O (fun c22=>?_) (fun c22=>?_)
         ·try simp only [sx] at c22
          refine R O<|G O<|zA<|zM<|zX O ?_
          rw [yV (l:=words) (k:=7) rfl c8.symm]
         ·try simp only [sx] at c22
          refine zH<|R O<|G O<|zA<|zM<|zX O ?_
          exact absurd c8 c22
        ·try simp only [sx] at c8
         refine R O<|v O (kH O O O)<|G O<|zA<|zC O (fun c9=>?_) (fun c9=>?_)
         ·try simp only [sx] at c9
          refine zH<|zC O (fun c22=>?_) (fun c22=>?_)
          ·try simp only [sx] at c22
           refine R O<|G O<|zA<|zM<|zX O ?_
           rw [yV (l:=words) (k:=8) rfl c9.symm]
          ·try simp only [sx] at c22
           refine zH<|R O<|G O<|zA<|zM<|zX O ?_
           exact absurd c9 c22
         ·try simp only [sx] at c9
          refine R O<|v O (kH O O O)<|G O<|zA<|zC O (fun c10=>?_) (fun c10=>?_)
          ·try simp only [sx] at c10
           refine zH<|zC O (fun c22=>?_) (fun c22=>?_)
           ·try simp only [sx] at c22
            refine R O<|G O<|zA<|zM<|zX O ?_
            rw [yV (l:=words) (k:=9) rfl c10.symm]
           ·try simp only [sx] at c22
            refine zH<|R O<|G O<|zA<|zM<|zX O ?_
            exact absurd c10 c22
          ·try simp only [sx] at c10
           refine R O<|v O (kH O O O)<|G O<|zA<|zC O (fun c11=>?_) (fun c11=>?_)
           ·try simp only [sx] at c11
            refine zH<|zC O (fun c22=>?_) (fun c22=>?_)
            ·try simp only [sx] at c22
             refine R O<|G O<|zA<|zM<|zX O ?_
             rw [yV (l:=words) (k:=10) rfl c11.symm]
            ·try simp only [sx] at c22
             refine zH<|R O<|G O<|zA<|zM<|zX O ?_
             exact absurd c11 c22
           ·try simp only [sx] at c11
            refine R O<|v O (kH O O O)<|G O<|zA<|zC O (fun c12=>?_) (fun c12=>?_)
            ·try simp only [sx] at c12
             refine zH<|zC O (fun c22=>?_) (fun c22=>?_)
             ·try simp only [sx] at c22
              refine R O<|G O<|zA<|zM<|zX O ?_
              rw [yV (l:=words) (k:=11) rfl c12.symm]
             ·try simp only [sx] at c22
              refine zH<|R O<|G O<|zA<|zM<|zX O ?_
              exact absurd c12 c22
            ·try simp only [sx] at c12
             refine R O<|v O (kH O O O)<|G O<|zA<|zC O (fun c13=>?_) (fun c13=>?_)
             ·try simp only [sx] at c13
              refine zH<|zC O (fun c22=>?_) (fun c22=>?_)
              ·try simp only [sx] at c22
               refine R O<|G O<|zA<|zM<|zX O ?_
               rw [yV (l:=words) (k:=12) rfl c13.symm]
              ·try simp only [sx] at c22
               refine zH<|R O<|G O<|zA<|zM<|zX O ?_
               exact absurd c13 c22
             ·try simp only [sx] at c13
              refine R O<|v O (kH O O O)<|G O<|zA<|zC O (fun c14=>?_) (fun c14=>?_)
              ·try simp only [sx] at c14
               refine zH<|zC O (fun c22=>?_) (fun c22=>?_)
               ·try simp only [sx] at c22
                refine R O<|G O<|zA<|zM<|zX O ?_
                rw [yV (l:=words) (k:=13) rfl c14.symm]
               ·try simp only [sx] at c22
                refine zH<|R O<|G O<|zA<|zM<|zX O ?_
                exact absurd c14 c22
              ·try simp only [sx] at c14
               refine R O<|v O (kH O O O)<|G O<|zA<|zC O (fun c15=>?_) (fun c15=>?_)
               ·try simp only [sx] at c15
                refine zH<|zC O (fun c22=>?_) (fun c22=>?_)
                ·try simp only [sx] at c22
                 refine R O<|G O<|zA<|zM<|zX O ?_
                 rw [yV (l:=words) (k:=14) rfl c15.symm]
                ·try simp only [sx] at c22
                 refine zH<|R O<|G O<|zA<|zM<|zX O ?_
                 exact absurd c15 c22
               ·try simp only [sx] at c15
                refine R O<|v O (kH O O O)<|G O<|zA<|zC O (fun c16=>?_) (fun c16=>?_)
                ·try simp only [sx] at c16
                 refine zH<|zC O (fun c22=>?_) (fun c22=>?_)
                 ·try simp only [sx] at c22
                  refine R O<|G O<|zA<|zM<|zX O ?_
                  rw [yV (l:=words) (k:=15) rfl c16.symm]
                 ·try simp only [sx] at c22
                  refine zH<|R O<|G O<|zA<|zM<|zX O ?_
                  exact absurd c16 c22
                ·try simp only [sx] at c16
                 refine R O<|v O (kH O O O)<|G O<|zA<|zC O (fun c17=>?_) (fun c17=>?_)
                 ·try simp only [sx] at c17
                  refine zH<|zC O (fun c22=>?_) (fun c22=>?_)
                  ·try simp only [sx] at c22
                   refine R O<|G O<|zA<|zM<|zX O ?_
                   rw [yV (l:=words) (k:=16) rfl c17.symm]
                  ·try simp only [sx] at c22
                   refine zH<|R O<|G O<|zA<|zM<|zX O ?_
                   exact absurd c17 c22
                 ·try simp only [sx] at c17
                  refine R O<|v O (kH O O O)<|G O<|zA<|zC O (fun c18=>?_) (fun c18=>?_)
                  ·try simp only [sx] at c18
                   refine zH<|zC O (fun c22=>?_) (fun c22=>?_)
                   ·try simp only [sx] at c22
                    refine R O<|G O<|zA<|zM<|zX O ?_
                    rw [yV (l:=words) (k:=17) rfl c18.symm]
                   ·try simp only [sx] at c22
                    refine zH<|R O<|G O<|zA<|zM<|zX O ?_
                    exact absurd c18 c22
                  ·try simp only [sx] at c18
                   refine R O<|v O (kH O O O)<|G O<|zA<|zC O (fun c19=>?_) (fun c19=>?_)
                   ·try simp only [sx] at c19
                    refine zH<|zC O (fun c22=>?_) (fun c22=>?_)
                    ·try simp only [sx] at c22
                     refine R O<|G O<|zA<|zM<|zX O ?_
                     rw [yV (l:=words) (k:=18) rfl c19.symm]
                    ·try simp only [sx] at c22
                     refine zH<|R O<|G O<|zA<|zM<|zX O ?_
                     exact absurd c19 c22
                   ·try simp only [sx] at c19
                    refine R O<|v O (kH O O O)<|G O<|zA<|zC O (fun c20=>?_) (fun c20=>?_)
                    ·try simp only [sx] at c20
                     refine zH<|zC O (fun c22=>?_) (fun c22=>?_)
                     ·try simp only [sx] at c22
                      refine R O<|G O<|zA<|zM<|zX O ?_
                      rw [yV (l:=words) (k:=19) rfl c20.symm]
                     ·try simp only [sx] at c22
                      refine zH<|R O<|G O<|zA<|zM<|zX O ?_
                      exact absurd c20 c22
                    ·try simp only [sx] at c20
                     refine R O<|v O (kH O O O)<|G O<|zA<|zC O (fun c21=>?_) (fun c21=>?_)
                     ·try simp only [sx] at c21
                      refine zH<|zC O (fun c22=>?_) (fun c22=>?_)
                      ·try simp only [sx] at c22
                       refine R O<|G O<|zA<|zM<|zX O ?_
                       rw [yV (l:=words) (k:=20) rfl c21.symm]
                      ·try simp only [sx] at c22
                       refine zH<|R O<|G O<|zA<|zM<|zX O ?_
                       exact absurd c21 c22
                     ·try simp only [sx] at c21
                      refine zI O<|v O (kH O O O)<|G O<|zA<|zC O (fun c22=>?_) (fun c22=>?_)
                      ·try simp only [sx] at c22
                       refine R O<|G O<|zA<|zM<|zX O ?_
                       rw [yV (l:=words) (k:=21) rfl c22.symm]
                      ·try simp only [sx] at c22
                       refine zH<|R O<|G O<|zA<|zM<|zX O ?_
                       rw [show hasB words s=false by
                         simp only [hasB,words,List.any_cons,List.any_nil,Bool.or_eq_false_iff,decide_eq_false_iff_not]
                         exact ⟨fun h=>c1 h.symm,fun h=>c2 h.symm,fun h=>c3 h.symm,fun h=>c4 h.symm,fun h=>c5 h.symm,fun h=>c6 h.symm,fun h=>c7 h.symm,fun h=>c8 h.symm,fun h=>c9 h.symm,fun h=>c10 h.symm,fun h=>c11 h.symm,fun h=>c12 h.symm,fun h=>c13 h.symm,fun h=>c14 h.symm,fun h=>c15 h.symm,fun h=>c16 h.symm,fun h=>c17 h.symm,fun h=>c18 h.symm,fun h=>c19 h.symm,fun h=>c20 h.symm,fun h=>c21 h.symm,fun h=>c22 h.symm,T⟩]
theorem lin_identifier (s:ByteArray):
    Pur cfg 283 [vS s] (vB (isNameB s)):=by
 refine zW Tryz.func283 O Tryz.ntmps283 Tryz.results283 O ?_
 intro z hz
 refine R O<|G O<|zA<|zF<|R O<|G O<|v O (zCb O un9 O)<|yE O<|G O<|rL0 O (fun g1_3=>zG O O) O<|B 9 O (fun g1_3=>zCb O un9 O) O<|B 10 O (fun g1_3=>kA O O O) O<|v O (kK O O O O (fun h=>(lzf h)))<|G O<|rL0 O (fun g1_8=>zG O O) O<|B 14 O (fun g1_8=>qY O ok299 (lin_reserved _) ⟨zB,O,T⟩) O<|v O (kK O O O O (fun h=>(lzf h)))<|G O<|rL0 O (fun g1_12=>zG O O) O<|B 18 O (fun g1_12=>zCy O un9 O O (by decide) (by simp only [Lz,cond_true,cond_false,Bool.and_eq_true,Bool.or_eq_true,Bool.not_eq_true',Bool.not_eq_false',Bool.or_eq_false_iff,Bool.and_eq_false_iff,decide_eq_true_eq,decide_eq_false_iff_not,Bool.not_eq_true,Bool.not_eq_false] at g1_12;omega)) O<|B 19 O (fun g1_12=>yR O O O) O<|v O (kK O O O O (fun h=>(lzf h)))<|G O<|rL0 O (fun g1_17=>zG O O) O<|B 23 O (fun g1_17=>zCy O un9 O O (by decide) (by simp only [Lz,cond_true,cond_false,Bool.and_eq_true,Bool.or_eq_true,Bool.not_eq_true',Bool.not_eq_false',Bool.or_eq_false_iff,Bool.and_eq_false_iff,decide_eq_true_eq,decide_eq_false_iff_not,Bool.not_eq_true,Bool.not_eq_false] at g1_17;omega)) O<|B 24 O (fun g1_17=>kA O O O) O<|v O (kK O O O O (fun h=>(lzf h)))<|zA<|zC O (fun c1=>?_) (fun c1=>?_)
 ·have hno:=ident_no c1
  refine R O<|G O<|zA<|zM<|zX O ?_
  rw [hno]
 ·obtain ⟨n1,n2,hne⟩:=ident_yes c1
  refine zH<|zF<|R O<|G O<|v O (zCb O un9 O)<|G O<|zA<|zQ<|zS ⟨[(29,.c _),(0,.c _),(28,.c _)],[]⟩ (Weak.mk [] ⟨zB,zB,zB,T⟩ O)<|qJ 1 0 O O (Nat) (fun k=>[(29,vI k)]) (fun k=>[]) (fun k=>k<=s.size/\(s.data.toList.take k).all inWordB=true) (fun k=>s.size-k) ⟨0,⟨by omega,O⟩,Weak.mk [] ⟨zB,zB,zB,T⟩ O⟩ ?_
  rintro k ⟨hk,hp⟩
  refine R O<|yE O<|zA<|zF<|zC O (fun c2=>?_) (fun c2=>?_)
  ·try simp only [sx] at c2
   have hlt:k<s.size:=by omega
   refine zH<|zF<|zQ<|R O<|G O<|G O<|zA<|R O<|G O<|G O<|v O (zCy O un9 O O (by omega) (by omega))<|G O<|zA<|R O<|G O<|yE O<|G O<|rL0 O (fun g7_2=>zG O O) O<|B 38 O (fun g7_2=>kA O O O) O<|v O (kK O O O O (fun h=>(lzf h)))<|G O<|rL0 O (fun g7_6=>zG O O) O<|B 42 O (fun g7_6=>yR O O O) O<|B 43 O (fun g7_6=>zG O O) O<|rLz [] O gv2 T (fun g7_9=>zG O O) O<|rLz [(45,_)] O gv2 ⟨O,O,T⟩ (fun g7_9=>kA O O O) O<|B 44 O (fun g7_6=>kK O O O O (fun h=>kX (by assumption) (lzf h))) O<|kE O (fun h=>h)<|G O<|rL0 O (fun g7_14=>zG O O) O<|B 50 O (fun g7_14=>zEq O O O) O<|kE O (fun h=>h)<|zA<|zC O (fun c3=>?_) (fun c3=>?_)
   ·have hbad:=word_no hlt c3
    refine R O<|G O<|zA<|zM<|zX O ?_
    rw [hne,hbad]
   ·have hgood:=word_yes hlt hp c3
    refine zH<|zI O<|qD O ⟨by omega,by omega⟩<|G O<|zA ?_
    refine ⟨k+1,⟨by omega,hgood⟩,(by omega),Weak.mk [] ⟨zB,zB,zB,T⟩ O⟩
  ·try simp only [sx] at c2
   refine qL<|R O<|G O<|zA<|zM<|zX O ?_
   rw [hne,word_all hp (by omega)]
theorem lin_Validate (l:Lf) (hl:l.L.length<=6000000000000):
    Pur cfg 247 [vLin l] (vI (linErr l)):=by
 refine zW Tryz.func247 O Tryz.ntmps247 Tryz.results247 O ?_
 intro z hz
 refine R O<|zU O O (qT O O) ?_
 rintro _ _ ⟨b1,rfl,rfl⟩
 refine G O<|zA<|zF<|R O<|zN O zGb<|zL zNk (A 0 O) O<|qH O el52<|G O<|zA<|zQ<|zS ⟨[(8,.c _),(1,.c _),(6,.c _),(7,.c _)],[_]⟩ (Weak.mk [true] ⟨zB,zB,zB,zB,T⟩ O)<|qJ 1 0 O O (Nat) (fun k=>[(8,vI k)]) (fun k=>[]) (fun k=>k<=l.L.length/\(linOk l=monosOk (prevOf l.L k) (l.L.drop k))) (fun k=>l.L.length-k) ⟨0,⟨by omega,O⟩,Weak.mk [true] ⟨zB,zB,zB,zB,T⟩ O⟩ ?_
 rintro k ⟨hk,hp⟩
 refine R O<|yE O<|zA<|zF<|zC O (fun c1=>?_) (fun c1=>?_)
 ·try simp only [sx] at c1
  obtain ⟨x,hx⟩:=qX l.L k (by omega)
  refine zH<|zF<|zQ<|R O<|G O<|qI O el52 (by omega) (getm (by assumption))<|zP zLp Y O<|zU O O (yX O zr205) ?_
  rintro _ _ ⟨b2,rfl,rfl⟩
  refine G O<|D 0 sz205 O<|zA<|zF<|qU 25 mixed (by kernel_rfl) O O<|zE O O (zJ O zEn O)<|zE O O (zD O one9 O (A 0 O) O)<|zE O O (qY O ok283 (lin_identifier _) ⟨zB,O,T⟩)<|zE O O (wR O O)<|zE O O (zG O O)<|qM [] O O O O gv1 T (fun g4_4=>zJ O zKk O) O<|qM [(18,_)] O O O O gv1 ⟨O,O,T⟩ (fun g4_4=>zD O one2 O (A 0 O) O) O<|qM [(19,_)] O O O O gv1 ⟨O,O,T⟩ (fun g4_4=>kJ O O O) O<|zE O O (kK O O O O (fun h=>(lzf h)))<|zE O O (zG O O)<|qM [] O O O O gv1 T (fun g4_9=>zG O O) O<|qM [(23,_)] O O O O gv1 ⟨O,O,T⟩ (fun g4_9=>kA O O O) O<|qM [(24,_)] O O O O gv1 ⟨O,O,T⟩ (fun g4_9=>zG O O) O<|qM [] O O O O gv2 T (fun g4_12=>zJ O zGb O) O<|qM [(26,_)] O O O O gv2 ⟨O,O,T⟩ (fun g4_12=>zD O zNk O (A 1 O) O) O<|qM [] O O O O gv2 T (fun g4_12=>zG O O) O<|qM [(28,_)] O O O O gv2 ⟨O,O,T⟩ (fun g4_12=>yH O O O ⟨by omega,by omega⟩) O<|qM [(27,_),(29,_)] O O O O gv2 ⟨O,O,O,O,T⟩ (fun g4_12=>yA O el52 O O (by simp only [Lz,cond_true,cond_false,Bool.and_eq_true,Bool.or_eq_true,Bool.not_eq_true',Bool.not_eq_false',Bool.or_eq_false_iff,Bool.and_eq_false_iff,decide_eq_true_eq,decide_eq_false_iff_not,Bool.not_eq_true,Bool.not_eq_false] at g4_12;omega) (pv_get (by simp only [Lz,cond_true,cond_false,Bool.and_eq_true,Bool.or_eq_true,Bool.not_eq_true',Bool.not_eq_false',Bool.or_eq_false_iff,Bool.and_eq_false_iff,decide_eq_true_eq,decide_eq_false_iff_not,Bool.not_eq_true,Bool.not_eq_false] at g4_12;omega) (by omega))) O<|qM [(30,_)] O O O O gv2 ⟨O,O,T⟩ (fun g4_12=>qA O zEn O) O<|qM [(31,_)] O O O O gv2 ⟨O,O,T⟩ (fun g4_12=>zD O one9 O Y O) O<|qM [] O O O O gv2 T (fun g4_12=>zJ O zEn O) O<|qM [(33,_)] O O O O gv2 ⟨O,O,T⟩ (fun g4_12=>zD O one9 O (A 0 O) O) O<|qM [(32,_),(34,_)] O O O O gv2 ⟨O,O,O,O,T⟩ (fun g4_12=>det_sgeq O O O) O<|qM [(25,_)] O O O O gv1 ⟨O,O,T⟩ (fun g4_9=>zCc O O O (fun h=>kX (by assumption) h) O) O<|zE O O (kK O O O O (fun h=>(lzf h)))<|yM<|zA<|zC O (fun c2=>?_) (fun c2=>?_)
  ·refine R O<|G O<|zA<|zM<|zX O ?_
   rw [linErr,hp,monos_step hx,show badM l.L k x=true from c2];rfl
  ·refine zH<|zI O<|qD O ⟨by omega,by omega⟩<|G O<|zA ?_
   refine ⟨k+1,⟨by omega,by rw [hp,monos_step hx,show badM l.L k x=false from c2];rfl⟩,(by omega),Weak.mk [false,true] ⟨zB,zB,zB,zB,T⟩ O⟩
 ·try simp only [sx] at c1
  refine qL<|R O<|G O<|zA<|zM<|zX O ?_
  rw [linErr,hp,monos_end (by omega)];rfl
theorem zFn (l:List Mono) (c:C) (p:Mono->Bool) (hl:l.length<=6000000000000) (hc:∀x,x∈l->FnPur cfg c [vMono x] (vB (p x))):
    Pur cfg 180 [vMonos l,.c c] (vI (idxOf p l)):=by
 refine zW Tryz.func180 O Tryz.ntmps180 Tryz.results180 O ?_
 intro z hz
 refine R O<|G O<|zA<|zF<|R O<|G O<|qH O el52<|G O<|zA<|zQ<|zS ⟨[(8,.c _),(0,.c _),(1,.c _),(7,.c _)],[]⟩ (Weak.mk [] ⟨zB,zB,zB,zB,T⟩ O)<|qJ 1 0 O O (Nat) (fun k=>[(8,vI k)]) (fun k=>[]) (fun k=>k<=l.length/\((l.take k).any p=false)) (fun k=>l.length-k) ⟨0,⟨by omega,O⟩,Weak.mk [] ⟨zB,zB,zB,zB,T⟩ O⟩ ?_
 rintro k ⟨hk,hp⟩
 refine R O<|yE O<|zA<|zF<|zC O (fun c1=>?_) (fun c1=>?_)
 ·try simp only [sx] at c1
  obtain ⟨x,hx⟩:=qX l k (by omega)
  refine zH<|zF<|zQ<|R O<|G O<|G O<|zA<|R O<|G O<|G O<|G O<|qI O el52 (by omega) (getm (by assumption))<|zP zLp Y O<|v O (yT O O (hc _ (qB hx)) ⟨zB,O,T⟩)<|zA<|zC O (fun c2=>?_) (fun c2=>?_)
  ·try simp only [sx] at c2
   refine R O<|G O<|G O<|zA<|zM<|zX O ?_
   rw [zCq hx c2 hp]
  ·try simp only [sx] at c2
   refine zH<|zI O<|qD O ⟨by omega,by omega⟩<|G O<|zA ?_
   refine ⟨k+1,⟨by omega,zBz hx hp c2⟩,(by omega),Weak.mk [] ⟨zB,zB,zB,zB,T⟩ O⟩
 ·try simp only [sx] at c1
  refine qL<|R O<|G O<|zA<|zM<|zX O ?_
  rw [zAx (by rw [yI (by omega)] at hp;exact hp)]
theorem zDv (l:List Mono) (c:C) (p:Mono->Bool) (hl:l.length<=6000000000000) (hc:∀x,x∈l->FnPur cfg c [vMono x] (vB (p x))):
    Pur cfg 149 [vMonos l,.c c] (vB (l.any p)):=by
 refine zW Tryz.func149 O Tryz.ntmps149 Tryz.results149 O ?_
 intro z hz
 refine R O<|G O<|zA<|R O<|G O<|G O<|qW O ok180 (zFn l c p hl hc) ⟨zB,O,zB,O,T⟩<|v O (wG O O O)<|G O<|zA<|zM<|zX O ?_
 rw [zBu]
theorem zHr (l:List Ix) (c:C) (p:Ix->Bool) (hl:l.length<=6000000000000) (hc:∀x,x∈l->FnPur cfg c [vIndex x] (vB (p x))):
    Pur cfg 296 [vIndices l,.c c] (vI (idxOf p l)):=by
 refine zW Tryz.func296 O Tryz.ntmps296 Tryz.results296 O ?_
 intro z hz
 refine R O<|G O<|zA<|zF<|R O<|G O<|qH O el51<|G O<|zA<|zQ<|zS ⟨[(8,.c _),(0,.c _),(1,.c _),(7,.c _)],[]⟩ (Weak.mk [] ⟨zB,zB,zB,zB,T⟩ O)<|qJ 1 0 O O (Nat) (fun k=>[(8,vI k)]) (fun k=>[]) (fun k=>k<=l.length/\((l.take k).any p=false)) (fun k=>l.length-k) ⟨0,⟨by omega,O⟩,Weak.mk [] ⟨zB,zB,zB,zB,T⟩ O⟩ ?_
 rintro k ⟨hk,hp⟩
 refine R O<|yE O<|zA<|zF<|zC O (fun c1=>?_) (fun c1=>?_)
 ·try simp only [sx] at c1
  obtain ⟨x,hx⟩:=qX l k (by omega)
  refine zH<|zF<|zQ<|R O<|G O<|G O<|zA<|R O<|G O<|G O<|G O<|qI O el51 (by omega) (getm (by assumption))<|zP zCo Y O<|v O (yT O O (hc _ (qB hx)) ⟨zB,O,T⟩)<|zA<|zC O (fun c2=>?_) (fun c2=>?_)
  ·try simp only [sx] at c2
   refine R O<|G O<|G O<|zA<|zM<|zX O ?_
   rw [zCq hx c2 hp]
  ·try simp only [sx] at c2
   refine zH<|zI O<|qD O ⟨by omega,by omega⟩<|G O<|zA ?_
   refine ⟨k+1,⟨by omega,zBz hx hp c2⟩,(by omega),Weak.mk [] ⟨zB,zB,zB,zB,T⟩ O⟩
 ·try simp only [sx] at c1
  refine qL<|R O<|G O<|zA<|zM<|zX O ?_
  rw [zAx (by rw [yI (by omega)] at hp;exact hp)]
theorem zAi (l:List Ix) (c:C) (p:Ix->Bool) (hl:l.length<=6000000000000) (hc:∀x,x∈l->FnPur cfg c [vIndex x] (vB (p x))):
    Pur cfg 273 [vIndices l,.c c] (vB (l.any p)):=by
 refine zW Tryz.func273 O Tryz.ntmps273 Tryz.results273 O ?_
 intro z hz
 refine R O<|G O<|zA<|R O<|G O<|G O<|qW O ok296 (zHr l c p hl hc) ⟨zB,O,zB,O,T⟩<|v O (wG O O O)<|G O<|zA<|zM<|zX O ?_
 rw [zBu]
end Go.W
