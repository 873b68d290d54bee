/-
  Walks: what functions of the program compute. Printed by wip/gen/mk2.py.
  Walks: what functions of the program compute. Printed by wip/gen/mk2.py.
  Walks: what functions of the program compute. Printed by wip/gen/mk2.py.
  Walks: what functions of the program compute. Printed by wip/gen/mk2.py.
  Walks: what functions of the program compute. Printed by wip/gen/mk2.py.
  Conditions: none.
-/
import Derived.Test.YtmmiedgoamlhpaaGreatDoorGB
import Derived.Test.YtmmiedgoamlhpaaGreatDoorGY
import Derived.Test.YtmmiedgoamlhpaaGreatDoorEngZ
import Derived.Test.YtmmiedgoamlhpaaGreatDoorFmtX
set_option linter.unusedSimpArgs false
set_option linter.unusedVariables false
section
set_option maxRecDepth 10000
namespace Go.W
open Go Go.Eng Go.Proofs Go.L41 Go.Br
attribute [local irreducible] AWP RWP TD finQ
theorem dgt_ext {m:Nat} (h:m<10):(ByteArray.mk #[48,49,50,51,52,53,54,55,56,57]).extract m (m+1)=bs [UInt8.ofNat (48+m)]:=by
  rcases (show m=0∨m=1∨m=2∨m=3∨m=4∨m=5∨m=6∨m=7∨m=8∨m=9 by omega) with rfl|rfl|rfl|rfl|rfl|rfl|rfl|rfl|rfl|rfl<;>decide
theorem dgt_size (m:Nat):(bs [UInt8.ofNat (48+m)]).size=1:=rfl
theorem dgt_end {n m:Nat} {s:ByteArray} (h:m<10) (hp:decB n=decB m++s):bs [UInt8.ofNat (48+m)]++s=decB n:=by
  rw [hp]
  congr 1
  unfold decB
  rw [Lib.decDigits,dif_pos h]
theorem dgt_next {n m:Nat} {s:ByteArray} (h:¬m<10) (hp:decB n=decB m++s):decB n=decB (m/10)++(bs [UInt8.ofNat (48+m%10)]++s):=by
  rw [hp,←ByteArray.append_assoc]
  congr 1
  show (⟨(Lib.decDigits m).toArray⟩:ByteArray)=_
  rw [dec_big h]
  apply ByteArray.ext
  simp [decB,bs]
theorem frac_same {t:Ty} {v:Vl} (ht:tyOk t=true) (hv:valOk t v=true):fracV t v=fracN t v:=by
  unfold fracV fracN
  by_cases hk:t.Kind=2
  · rw [decide_eq_true hk,if_pos hk]
    have hf:fixOk t=true:=by rw [←zAm hk];exact ht
    have hn:=fxN hf hv
    have hT:=fxT hf
    have p1:=hT.p1
    have p2:=hT.p2
    have hs:(newF v.N (pow2 t.Frac)).2=0:=newF_small (by omega) (by omega) p1 p2
    show (newF v.N (pow2 t.Frac)).1=fmxN v.N t.Frac.toNat
    have hp:(pow2 t.Frac).natAbs=2^t.Frac.toNat:=by unfold pow2;rw [Int.natAbs_pow];rfl
    rw [zSa (by omega)] at hs⊢
    unfold madF at hs⊢
    cases hc:(decide ((2147483647:Int)<((v.N.natAbs/Nat.gcd v.N.natAbs (pow2 t.Frac).natAbs:Nat):Int))||decide ((2147483647:Int)<(((pow2 t.Frac).natAbs/Nat.gcd v.N.natAbs (pow2 t.Frac).natAbs:Nat):Int))) with
    |true=>rw [hc] at hs;exact absurd (show (3:Int)=0 from hs) (by decide)
    |false=>
      rw [hp]
      show (⟨bif sgnD v.N (pow2 t.Frac) then-((v.N.natAbs/Nat.gcd v.N.natAbs (2^t.Frac.toNat):Nat):Int) else ((v.N.natAbs/Nat.gcd v.N.natAbs (2^t.Frac.toNat):Nat):Int),((2^t.Frac.toNat/Nat.gcd v.N.natAbs (2^t.Frac.toNat):Nat):Int)⟩:Vl)=fmxN v.N t.Frac.toNat
      unfold fmxN
      generalize hg:Nat.gcd v.N.natAbs (2^t.Frac.toNat)=g
      have hd:g ∣ v.N.natAbs:=by rw [←hg];exact Nat.gcd_dvd_left _ _
      have e:(bif sgnD v.N (pow2 t.Frac) then-((v.N.natAbs/g:Nat):Int) else ((v.N.natAbs/g:Nat):Int))=v.N/(g:Int):=by
        have hsg:sgnD v.N (pow2 t.Frac)=decide (v.N<0):=by unfold sgnD;rw [yF (show ¬pow2 t.Frac<0 by omega)];cases decide (v.N<0)<;>rfl
        rw [hsg]
        by_cases h0:v.N<0
        · rw [decide_eq_true h0]
          show-((v.N.natAbs/g:Nat):Int)=_
          have h1:v.N= -((v.N.natAbs:Nat):Int):=by omega
          rw [Int.natCast_ediv]
          conv=>rhs;rw [h1]
          rw [Int.neg_ediv_of_dvd (by exact_mod_cast hd)]
        · rw [yF h0]
          show ((v.N.natAbs/g:Nat):Int)=_
          rw [Int.natCast_ediv,show ((v.N.natAbs:Nat):Int)=v.N by omega]
      rw [e]
  · rw [yF hk,if_neg hk];rfl
theorem frT_ok {v:Vl} (h:frOk v=true):frT v=frS v:=by unfold frT;rw [if_neg (by rw [h];simp)]
theorem valS_yes {t:Ty} {v:Vl} (ht:tyOk t=true) (hv:valOk t v=true):valS t v=frT (fracV t v):=by
  unfold valS
  rw [if_neg (by rw [ht,hv];simp),frT_ok (fracV_ok ht hv),frac_same ht hv]
theorem valS_no {t:Ty} {v:Vl} (h:(tyOk t&&valOk t v)=false):valS t v=bs []:=if_pos h
theorem ok101:callOk Tryz.prog 101=true:=by kernel_rfl
theorem ok102:callOk Tryz.prog 102=true:=by kernel_rfl
theorem ok153:callOk Tryz.prog 153=true:=by kernel_rfl
theorem ok275:callOk Tryz.prog 275=true:=by kernel_rfl
theorem ok288:callOk Tryz.prog 288=true:=by kernel_rfl
theorem zRl (n:Nat) (hn:n<=9223372036854775808):
    Pur cfg 153 [vUn n] (vS (decB n)):=by
 refine zS Tryz.func153 O Tryz.ntmps153 Tryz.results153 O ?_
 intro z hz
 have hds:=zBu (n:=n) (by omega)
 refine A O<|G O<|R<|A O<|G O<|R<|zK<|zR<|zX ⟨[(0,.c _),(3,.c _)],[]⟩ (Weak.mk [] ⟨Y,Y,T⟩ O)<|qG 2 0 O O (Nat×ByteArray) (fun ⟨m,s⟩=>[(0,vUn m),(3,vS s)]) (fun ⟨m,s⟩=>[]) (fun ⟨m,s⟩=>m<=n/\decB n=decB m++s) (fun ⟨m,s⟩=>m) ⟨⟨n,bs []⟩,⟨by omega,by apply ByteArray.ext;simp [bs]⟩,Weak.mk [] ⟨Y,VLe.of_eq (O),T⟩ O⟩ ?_
 rintro ⟨m,s⟩ ⟨hm,hp⟩
 show AWP _ _ _ _ _ ⟨[(0,vUn m),(3,vS s)]++_,[]++_⟩
 refine zK<|A O<|G O<|zT O (wO O O O)<|R<|zC O (fun c1=>?_) (fun c1=>?_)
 ·try simp only [sx] at c1
  have hsz:=congrArg ByteArray.size hp
  rw [ByteArray.size_append] at hsz
  refine zI<|zR<|A O<|G O<|zT O (det_urem O O O (show (10:Nat)≠0 by decide))<|G O<|zT O (det_urem O O O (show (10:Nat)≠0 by decide))<|zT O (det_uadd O O O (by have h_:m%10+1<18446744073709551616:=(by omega);exact h_))<|zT O (zSz (m%10) (m%10+1) O un9 O ⟨_,_,O,O⟩ ⟨_,_,O,O⟩ (by omega) (by show _<=10;omega))<|G O<|kY O (by rw [dgt_ext (Nat.mod_lt _ (by decide)),dgt_size];omega)<|G O<|R<|zN O<|G O<|zT O (zJp O O O ⟨show (10:Nat)≠0 by decide,by omega⟩)<|G O<|R ?_
  refine ⟨⟨m/10,bs [UInt8.ofNat (48+m%10)]++s⟩,⟨by omega,dgt_next (by omega) hp⟩,(by show m/10<m;omega),Weak.mk [] ⟨Y,VLe.of_eq (congrArg (fun q:ByteArray=>vS (q++s)) (dgt_ext (Nat.mod_lt m (by decide)))),T⟩ O⟩
 ·try simp only [sx] at c1
  have hsz:=congrArg ByteArray.size hp
  rw [ByteArray.size_append] at hsz
  refine qP<|A O<|G O<|G O<|zT O (det_uadd O O O (by have h_:m+1<18446744073709551616:=(by omega);exact h_))<|zT O (zSz m (m+1) O un9 O ⟨_,_,O,O⟩ ⟨_,_,O,O⟩ (by omega) (by show _<=10;omega))<|G O<|kY O (by rw [dgt_ext (by omega),dgt_size];omega)<|G O<|R<|zF<|zQ O ?_
  rw [dgt_ext (by omega),dgt_end (by omega) hp]
theorem zBo (n:Int) (hn:In64 n):
    Pur cfg 101 [vI n] (vS (intS n)):=by
 refine zS Tryz.func101 O Tryz.ntmps101 Tryz.results101 O ?_
 intro z hz
 have hn1:=hn.1
 have hn2:=hn.2
 refine A O<|G O<|R<|zK<|A O<|G O<|yJ O<|R<|zC O (fun c1=>?_) (fun c1=>?_)
 ·try simp only [sx] at c1
  refine A O<|G O<|qK O ok154 (zJf n hn) ⟨Y,O,T⟩<|qK O ok153 (zRl n.natAbs (by omega)) ⟨Y,O,T⟩<|kY O (by have h_:=zBu (n:=n.natAbs) (by omega);show (ByteArray.mk #[45]).size+_<=_;rw [show (ByteArray.mk #[45]).size=1 from rfl];omega)<|G O<|R<|zF<|zQ O ?_
  rw [intS,if_pos c1];first|done|rfl
 ·try simp only [sx] at c1
  refine zI<|A O<|G O<|qK O ok154 (zJf n hn) ⟨Y,O,T⟩<|qK O ok153 (zRl n.natAbs (by omega)) ⟨Y,O,T⟩<|G O<|R<|zF<|zQ O ?_
  rw [intS,if_neg (by omega)]
theorem value_Format (t:Ty) (v:Vl):
    Pur cfgI 211 [vTy t,vVal v] (vS (valS t v)):=by
 refine zS Tryz.func211 O Tryz.ntmps211 Tryz.results211 O ?_
 intro z hz
 refine A O<|zU O O (qN O O) ?_
 rintro _ _ ⟨b1,rfl,rfl⟩
 refine zU O O (qN O O) ?_
 rintro _ _ ⟨b2,rfl,rfl⟩
 refine G O<|R<|zK<|A O<|zO yI (zD 1 O) O<|zO zAw (zD 0 O) O<|qK O ok117 (upI (zQl t v)) ⟨Y,O,Y,O,T⟩<|wA O<|R<|zC O (fun c1=>?_) (fun c1=>?_)
 ·try simp only [sx] at c1
  have h0:(tyOk t&&valOk t v)=false:=by rw [Bool.and_eq_false_iff];simpa using c1
  refine A O<|G O<|R<|zF<|zQ O ?_
  rw [valS_no h0];first|done|rfl
 ·try simp only [sx] at c1
  have h0:(tyOk t&&valOk t v)=true:=by simpa using c1
  have ht:tyOk t=true:=by rw [Bool.and_eq_true] at h0;exact h0.1
  have hv:valOk t v=true:=by rw [Bool.and_eq_true] at h0;exact h0.2
  refine zI<|A O<|zO yI (zD 1 O) O<|zO zAw (zD 0 O) O<|qK O ok169 (upI (value_fraction t v ht hv)) ⟨Y,O,Y,O,T⟩<|qK O ok275 (frac_Format (fracV t v)) ⟨Y,O,T⟩<|G O<|R<|zF<|zQ O ?_
  rw [valS_yes ht hv]
theorem ref01_Format (v:Vl):
    Pur cfg 288 [vVal v] (vS (frT v)):=by
 refine zS Tryz.func288 O Tryz.ntmps288 Tryz.results288 O ?_
 intro z hz
 refine A O<|zU O O (qN O O) ?_
 rintro _ _ ⟨b1,rfl,rfl⟩
 refine G O<|R<|zK<|A O<|zO zAw (zD 0 O) O<|qK O ok247 (ref01_Valid v) ⟨Y,O,T⟩<|wA O<|R<|zC O (fun c1=>?_) (fun c1=>?_)
 ·try simp only [sx] at c1
  have h0:frOk v=false:=by simpa using c1
  refine A O<|G O<|R<|zF<|zQ O ?_
  rw [frT_no h0];first|done|rfl
 ·try simp only [sx] at c1
  have h0:frOk v=true:=by simpa using c1
  obtain ⟨f1,f2,f3,f4⟩:=frOk_b h0
  have a1:=wT (n:=v.N) (by omega)
  have a2:=wT (n:=v.D) (by omega)
  refine zI<|zK<|A O<|zH O zEc<|zM r (zD 0 O) O<|L O<|R<|zC O (fun c2=>?_) (fun c2=>?_)
  ·try simp only [sx] at c2
   refine A O<|zH O zDa<|zM r (zD 0 O) O<|qK O ok101 (zBo v.N ⟨by omega,by omega⟩) ⟨Y,O,T⟩<|G O<|R<|zF<|zQ O ?_
   rw [frT_1 h0 c2];first|done|rfl
  ·try simp only [sx] at c2
   refine zI<|zK<|qU 9 mixed (by kernel_rfl) O O<|J O O (zE O zDa O)<|J O O (zJ O r O (zD 0 O) O)<|J O O (qC O ok101 (zBo v.N ⟨by omega,by omega⟩) ⟨Y,O,T⟩)<|J O O (qM O O O (by simp only [U,W,List.size_toArray,List.length_cons,List.length_nil];omega))<|J O O (zE O zEc O)<|J O O (zJ O r O (zD 0 O) O)<|J O O (qC O ok101 (zBo v.D ⟨by omega,by omega⟩) ⟨Y,O,T⟩)<|J O O (qM O O O (by simp only [U,W,List.size_toArray,List.length_cons,List.length_nil];omega))<|J O O (qV O O)<|yO<|R<|zF<|zQ O ?_
   rw [frT_2 h0 c2];first|done|rfl
theorem ref04_Format (t:Ty) (v:Vl):
    Pur cfg 224 [vTy t,vVal v] (vS (valS t v)):=by
 refine zS Tryz.func224 O Tryz.ntmps224 Tryz.results224 O ?_
 intro z hz
 refine A O<|zU O O (qN O O) ?_
 rintro _ _ ⟨b1,rfl,rfl⟩
 refine zU O O (qN O O) ?_
 rintro _ _ ⟨b2,rfl,rfl⟩
 refine G O<|R<|zK<|A O<|zO yI (zD 1 O) O<|zO zAw (zD 0 O) O<|qK O ok121 (ref04_Valid t v) ⟨Y,O,Y,O,T⟩<|wA O<|R<|zC O (fun c1=>?_) (fun c1=>?_)
 ·try simp only [sx] at c1
  have h0:(tyOk t&&valOk t v)=false:=by rw [Bool.and_eq_false_iff];simpa using c1
  refine A O<|G O<|R<|zF<|zQ O ?_
  rw [valS_no h0];first|done|rfl
 ·try simp only [sx] at c1
  have h0:(tyOk t&&valOk t v)=true:=by simpa using c1
  have ht:tyOk t=true:=by rw [Bool.and_eq_true] at h0;exact h0.1
  have hv:valOk t v=true:=by rw [Bool.and_eq_true] at h0;exact h0.2
  refine zI<|A O<|zO yI (zD 1 O) O<|zO zAw (zD 0 O) O<|qK O ok180 (ref04_Value t v ht hv) ⟨Y,O,Y,O,T⟩<|qK O ok288 (ref01_Format (fracV t v)) ⟨Y,O,T⟩<|G O<|R<|zF<|zQ O ?_
  rw [valS_yes ht hv]
theorem r15_Type (t:Ty):
    Pur cfg 53 [vTy t] (vS (tyS t)):=by
 refine zS Tryz.func53 O Tryz.ntmps53 Tryz.results53 O ?_
 intro z hz
 refine A O<|zU O O (qN O O) ?_
 rintro _ _ ⟨b1,rfl,rfl⟩
 refine G O<|R<|zK<|A O<|zO yI (zD 0 O) O<|qK O ok63 (zMu t) ⟨Y,O,T⟩<|wA O<|R<|zC O (fun c1=>?_) (fun c1=>?_)
 ·try simp only [sx] at c1
  have h0:tyOk t=false:=by simpa using c1
  refine A O<|G O<|R<|zF<|zQ O ?_
  rw [tyS_0 h0];first|done|rfl
 ·try simp only [sx] at c1
  have h0:tyOk t=true:=by simpa using c1
  refine zI<|zK<|A O<|zH O zDd<|zM one3 (zD 0 O) O<|L O<|R<|zC O (fun c2=>?_) (fun c2=>?_)
  ·try simp only [sx] at c2
   refine A O<|G O<|R<|zF<|zQ O ?_
   rw [tyS_1 h0 c2];first|done|rfl
  ·try simp only [sx] at c2
   refine zI<|zK<|A O<|zH O zDd<|zM one3 (zD 0 O) O<|L O<|R<|zC O (fun c3=>?_) (fun c3=>?_)
   ·try simp only [sx] at c3
    refine A O<|G O<|R<|zF<|zQ O ?_
    rw [tyS_3 h0 c2 c3];first|done|rfl
   ·try simp only [sx] at c3
    obtain ⟨f1,f2,f3,f4⟩:=ty_fix h0 c2 c3
    have a1:=wT (n:=t.Bits) (by omega)
    have a2:=wT (n:=t.Frac) (by omega)
    have a3:=modeS_size t.Round
    refine zI<|A O<|G O<|R<|zK<|A O<|zH O zMf<|zM one3 (zD 0 O) O<|L O<|R<|zC O (fun c4=>?_) (fun c4=>?_)
    ·try simp only [sx] at c4
     refine zN O<|G O<|R<|zK<|qU 19 mixed (by kernel_rfl) O O<|J O O (zE O zFe O)<|J O O (zJ O one3 O (zD 0 O) O)<|J O O (qC O ok101 (zBo t.Bits ⟨by omega,by omega⟩) ⟨Y,O,T⟩)<|J O O (qM O O O (by simp only [U,W,List.size_toArray,List.length_cons,List.length_nil];omega))<|J O O (qM O O O (by simp only [U,W,List.size_toArray,List.length_cons,List.length_nil];omega))<|J O O (zE O zFw O)<|J O O (zJ O one3 O (zD 0 O) O)<|J O O (qC O ok101 (zBo t.Frac ⟨by omega,by omega⟩) ⟨Y,O,T⟩)<|J O O (qM O O O (by simp only [U,W,List.size_toArray,List.length_cons,List.length_nil];omega))<|J O O (qM O O O (by simp only [U,W,List.size_toArray,List.length_cons,List.length_nil];omega))<|J O O (zE O zIo O)<|J O O (zJ O one3 O (zD 0 O) O)<|J O O (qC O ok102 (r15_mode t.Round) ⟨Y,O,T⟩)<|J O O (qM O O O (by simp only [U,W,List.size_toArray,List.length_cons,List.length_nil];omega))<|J O O (qM O O O (by simp only [U,W,List.size_toArray,List.length_cons,List.length_nil];omega))<|J O O (zP O O)<|J O O (qM O O O (by simp only [U,W,List.size_toArray,List.length_cons,List.length_nil];omega))<|J O O (qM O O O (by simp only [U,W,List.size_toArray,List.length_cons,List.length_nil];omega))<|J O O (qV O O)<|yO<|R<|zF<|zQ O ?_
     rw [tyS_2 h0 c2 c3,show overS t.Over=bs [119,114,97,112] by unfold overS;rw [if_pos c4]];first|done|rfl
    ·try simp only [sx] at c4
     refine zI<|zK<|qU 19 mixed (by kernel_rfl) O O<|J O O (zE O zFe O)<|J O O (zJ O one3 O (zD 0 O) O)<|J O O (qC O ok101 (zBo t.Bits ⟨by omega,by omega⟩) ⟨Y,O,T⟩)<|J O O (qM O O O (by simp only [U,W,List.size_toArray,List.length_cons,List.length_nil];omega))<|J O O (qM O O O (by simp only [U,W,List.size_toArray,List.length_cons,List.length_nil];omega))<|J O O (zE O zFw O)<|J O O (zJ O one3 O (zD 0 O) O)<|J O O (qC O ok101 (zBo t.Frac ⟨by omega,by omega⟩) ⟨Y,O,T⟩)<|J O O (qM O O O (by simp only [U,W,List.size_toArray,List.length_cons,List.length_nil];omega))<|J O O (qM O O O (by simp only [U,W,List.size_toArray,List.length_cons,List.length_nil];omega))<|J O O (zE O zIo O)<|J O O (zJ O one3 O (zD 0 O) O)<|J O O (qC O ok102 (r15_mode t.Round) ⟨Y,O,T⟩)<|J O O (qM O O O (by simp only [U,W,List.size_toArray,List.length_cons,List.length_nil];omega))<|J O O (qM O O O (by simp only [U,W,List.size_toArray,List.length_cons,List.length_nil];omega))<|J O O (zP O O)<|J O O (qM O O O (by simp only [U,W,List.size_toArray,List.length_cons,List.length_nil];omega))<|J O O (qM O O O (by simp only [U,W,List.size_toArray,List.length_cons,List.length_nil];omega))<|J O O (qV O O)<|yO<|R<|zF<|zQ O ?_
     rw [tyS_2 h0 c2 c3,show overS t.Over=bs [115,97,116] by unfold overS;rw [if_neg c4]];first|done|rfl
end Go.W
end
section
set_option maxRecDepth 10000
namespace Go.W
open Go Go.Eng Go.Proofs Go.L41 Go.Br
attribute [local irreducible] AWP RWP TD finQ
theorem sg1 {t:ByteArray} {k:Int} (c:(decide ((t.size:Int)=0)&&decide (k<0))=true):signS t (decide (k<0))=bs [45]:=by
  simp only [Bool.and_eq_true,decide_eq_true_eq] at c
  unfold signS;rw [if_pos ⟨by omega,decide_eq_true c.2⟩]
theorem sg2 {t:ByteArray} {k:Int} (c:(decide (0<(t.size:Int))&&decide (k<0))=true):signS t (decide (k<0))=bs [32,45,32]:=by
  simp only [Bool.and_eq_true,decide_eq_true_eq] at c
  unfold signS;rw [if_neg (fun h=>by omega),if_pos ⟨by omega,decide_eq_true c.2⟩]
theorem sg3 {t:ByteArray} {k:Int} (c2:(decide (0<(t.size:Int))&&decide (k<0))=false) (c3:0<(t.size:Int)):signS t (decide (k<0))=bs [32,43,32]:=by
  have hk:¬k<0:=fun h=>by rw [decide_eq_true c3,decide_eq_true h] at c2;cases c2
  unfold signS;rw [if_neg (fun h=>by omega),if_neg (fun h=>hk (of_decide_eq_true h.2)),if_pos (by omega)]
theorem sg4 {t:ByteArray} {k:Int} (c1:(decide ((t.size:Int)=0)&&decide (k<0))=false) (c3:¬0<(t.size:Int)):signS t (decide (k<0))=bs []:=by
  have hk:¬k<0:=fun h=>by rw [decide_eq_true (show (t.size:Int)=0 by omega),decide_eq_true h] at c1;cases c1
  unfold signS;rw [if_neg (fun h=>hk (of_decide_eq_true h.2)),if_neg (fun h=>by omega),if_neg (by omega)]
theorem tp1 {t nm X:ByteArray} {k:Int} (h:signS t (decide (k<0))=X) (c4:(decide (nm=⟨#[]⟩)|| !decide (((k.natAbs:Nat):Int)=1))=true) (hn:¬nm=⟨#[]⟩):t++X++decB k.natAbs++bs [42]++nm=termP t k nm:=by
  simp only [Bool.or_eq_true,decide_eq_true_eq,Bool.not_eq_true',decide_eq_false_iff_not] at c4
  unfold termP;rw [if_pos (by rcases c4 with c|c;exact .inl c;exact .inr (by omega)),if_pos hn,h]
theorem tp2 {t nm X:ByteArray} {k:Int} (h:signS t (decide (k<0))=X) (c4:(decide (nm=⟨#[]⟩)|| !decide (((k.natAbs:Nat):Int)=1))=true) (hn:nm=⟨#[]⟩):t++X++decB k.natAbs++nm=termP t k nm:=by
  unfold termP;rw [if_pos (.inl hn),if_neg (fun c=>c hn),h]
theorem tp3 {t nm X:ByteArray} {k:Int} (h:signS t (decide (k<0))=X) (c4:(decide (nm=⟨#[]⟩)|| !decide (((k.natAbs:Nat):Int)=1))=false):t++X++nm=termP t k nm:=by
  simp only [Bool.or_eq_false_iff,decide_eq_false_iff_not,Bool.not_eq_false',decide_eq_true_eq] at c4
  unfold termP;rw [if_neg (by rintro (c|c);exact c4.1 c;exact c (by omega)),h]
theorem ok49:callOk Tryz.prog 49=true:=by kernel_rfl
theorem ok52:callOk Tryz.prog 52=true:=by kernel_rfl
theorem ok276:callOk Tryz.prog 276=true:=by kernel_rfl
theorem ok277:callOk Tryz.prog 277=true:=by kernel_rfl
theorem ok278:callOk Tryz.prog 278=true:=by kernel_rfl
theorem ok279:callOk Tryz.prog 279=true:=by kernel_rfl
theorem zr130:zeroT Tryz.prog 130=some [(Value.pointer none),(Value.slice none 0 0)]:=by kernel_rfl
theorem zOi (b:Nat) (p sv:Value) (t nm:ByteArray) (k:Int) (hnn:NN sv) (hs:t.size+nm.size<=90000000000000) (hk:In64 k) (hp:p=.pointer none∨p=bldP b):
    Con cfgI 276 [vI k,vS nm,vBp b] (bldE b p sv t) fun r μ'=>r=.tup []/\∃sv',NN sv'/\μ'=bldE b (bldP b) sv' (termP t k nm):=by
 refine zS Tryz.func276 O Tryz.ntmps276 Tryz.results276 O ?_
 intro z hz
 have hk1:=hk.1
 have hk2:=hk.2
 have hds:=zBu (n:=k.natAbs) (by omega)
 refine zK<|zR<|A O<|zT O (kH [0,0] O ok277 (upI (bld_Len b p sv t)) ⟨Y,O,T⟩ O)<|L O<|G O<|rL0 O (fun g0_2=>zP O O) O<|rL1 10 O (fun g0_2=>zCh O O O) O<|yZ O (fun h=>h)<|G O<|R<|zC O (fun c1=>?_) (fun c1=>?_)
 ·refine zN O<|zU O O (qH [0,0] O ok49 (upI (qS b p sv (t) (bs [45]) hnn (by (try simp only [U,W,List.size_toArray,List.length_cons,List.length_nil]);omega) hp)) ⟨Y,O,Y,O,T⟩ O) ?_
  rintro _ _ ⟨_,⟨sw1,hw1,rfl,rfl⟩,rfl⟩
  refine R<|zK<|A O<|G O<|qK O ok278 (upI (zEi k ⟨hk1,hk2⟩)) ⟨Y,O,T⟩<|G O<|R<|A O<|G O<|wF O<|G O<|rL0 O (fun g7_2=>zP O O) O<|rL1 31 O (fun g7_2=>wU O O O) O<|r_or O (fun h=>(lzf h))<|R<|zC O (fun c4=>?_) (fun c4=>?_)
  ·refine A O<|G O<|qK O ok279 (zFd k.natAbs (by omega)) ⟨Y,O,Y,O,T⟩<|zU O O (qH [0,0] O ok49 (upI (qS b (bldP b) sw1 (t++bs [45]) (decB k.natAbs) hw1 (by (try simp only [U,W,List.size_toArray,List.length_cons,List.length_nil]);omega) (.inr O))) ⟨Y,O,Y,O,T⟩ O) ?_
   rintro _ _ ⟨_,⟨sw4,hw4,rfl,rfl⟩,rfl⟩
   refine R<|A O<|G O<|zT O (zAz O O O)<|R<|zC O (fun c5=>?_) (fun c5=>?_)
   ·try simp only [sx] at c5
    refine zN O<|zU O O (qH [0,0] O ok49 (upI (qS b (bldP b) sw4 (t++bs [45]++decB k.natAbs) (bs [42]) hw4 (by (try simp only [U,W,List.size_toArray,List.length_cons,List.length_nil]);omega) (.inr O))) ⟨Y,O,Y,O,T⟩ O) ?_
    rintro _ _ ⟨_,⟨sw5,hw5,rfl,rfl⟩,rfl⟩
    refine R<|zN O<|G O<|zU O O (qH [0,0] O ok49 (upI (qS b (bldP b) sw5 (t++bs [45]++decB k.natAbs++bs [42]) (nm) hw5 (by (try simp only [U,W,List.size_toArray,List.length_cons,List.length_nil]);omega) (.inr O))) ⟨Y,O,Y,O,T⟩ O) ?_
    rintro _ _ ⟨_,⟨sw6,hw6,rfl,rfl⟩,rfl⟩
    refine R ?_
    repeat (first|refine yS ?_|refine yM ?_)
    refine kZ<|fin0 ?_
    exact ⟨O,_,hw6,congrArg (fun q=>bldE b (bldP b) sw6 q) ((tp1 (sg1 c1) c4 c5))⟩
   ·try simp only [sx] at c5
    refine zI<|zN O<|G O<|zU O O (qH [0,0] O ok49 (upI (qS b (bldP b) sw4 (t++bs [45]++decB k.natAbs) (nm) hw4 (by (try simp only [U,W,List.size_toArray,List.length_cons,List.length_nil]);omega) (.inr O))) ⟨Y,O,Y,O,T⟩ O) ?_
    rintro _ _ ⟨_,⟨sw6,hw6,rfl,rfl⟩,rfl⟩
    refine R ?_
    repeat (first|refine yS ?_|refine yM ?_)
    refine kZ<|fin0 ?_
    exact ⟨O,_,hw6,congrArg (fun q=>bldE b (bldP b) sw6 q) ((tp2 (sg1 c1) c4 (by simpa using c5)))⟩
  ·refine zI<|zN O<|G O<|zU O O (qH [0,0] O ok49 (upI (qS b (bldP b) sw1 (t++bs [45]) (nm) hw1 (by (try simp only [U,W,List.size_toArray,List.length_cons,List.length_nil]);omega) (.inr O))) ⟨Y,O,Y,O,T⟩ O) ?_
   rintro _ _ ⟨_,⟨sw6,hw6,rfl,rfl⟩,rfl⟩
   refine R ?_
   repeat (first|refine yS ?_|refine yM ?_)
   refine kZ<|fin0 ?_
   exact ⟨O,_,hw6,congrArg (fun q=>bldE b (bldP b) sw6 q) ((tp3 (sg1 c1) c4))⟩
 ·refine A O<|zT O (kH [0,0] O ok277 (upI (bld_Len b p sv t)) ⟨Y,O,T⟩ O)<|zT O (yA O O O)<|G O<|rL0 O (fun g2_2=>zP O O) O<|rL1 18 O (fun g2_2=>zCh O O O) O<|yZ O (fun h=>h)<|G O<|R<|zC O (fun c2=>?_) (fun c2=>?_)
  ·refine zN O<|zU O O (qH [0,0] O ok49 (upI (qS b p sv (t) (bs [32,45,32]) hnn (by (try simp only [U,W,List.size_toArray,List.length_cons,List.length_nil]);omega) hp)) ⟨Y,O,Y,O,T⟩ O) ?_
   rintro _ _ ⟨_,⟨sw2,hw2,rfl,rfl⟩,rfl⟩
   refine R<|zK<|A O<|G O<|qK O ok278 (upI (zEi k ⟨hk1,hk2⟩)) ⟨Y,O,T⟩<|G O<|R<|A O<|G O<|wF O<|G O<|rL0 O (fun g7_2=>zP O O) O<|rL1 31 O (fun g7_2=>wU O O O) O<|r_or O (fun h=>(lzf h))<|R<|zC O (fun c4=>?_) (fun c4=>?_)
   ·refine A O<|G O<|qK O ok279 (zFd k.natAbs (by omega)) ⟨Y,O,Y,O,T⟩<|zU O O (qH [0,0] O ok49 (upI (qS b (bldP b) sw2 (t++bs [32,45,32]) (decB k.natAbs) hw2 (by (try simp only [U,W,List.size_toArray,List.length_cons,List.length_nil]);omega) (.inr O))) ⟨Y,O,Y,O,T⟩ O) ?_
    rintro _ _ ⟨_,⟨sw4,hw4,rfl,rfl⟩,rfl⟩
    refine R<|A O<|G O<|zT O (zAz O O O)<|R<|zC O (fun c5=>?_) (fun c5=>?_)
    ·try simp only [sx] at c5
     refine zN O<|zU O O (qH [0,0] O ok49 (upI (qS b (bldP b) sw4 (t++bs [32,45,32]++decB k.natAbs) (bs [42]) hw4 (by (try simp only [U,W,List.size_toArray,List.length_cons,List.length_nil]);omega) (.inr O))) ⟨Y,O,Y,O,T⟩ O) ?_
     rintro _ _ ⟨_,⟨sw5,hw5,rfl,rfl⟩,rfl⟩
     refine R<|zN O<|G O<|zU O O (qH [0,0] O ok49 (upI (qS b (bldP b) sw5 (t++bs [32,45,32]++decB k.natAbs++bs [42]) (nm) hw5 (by (try simp only [U,W,List.size_toArray,List.length_cons,List.length_nil]);omega) (.inr O))) ⟨Y,O,Y,O,T⟩ O) ?_
     rintro _ _ ⟨_,⟨sw6,hw6,rfl,rfl⟩,rfl⟩
     refine R ?_
     repeat (first|refine yS ?_|refine yM ?_)
     refine kZ<|fin0 ?_
     exact ⟨O,_,hw6,congrArg (fun q=>bldE b (bldP b) sw6 q) ((tp1 (sg2 c2) c4 c5))⟩
    ·try simp only [sx] at c5
     refine zI<|zN O<|G O<|zU O O (qH [0,0] O ok49 (upI (qS b (bldP b) sw4 (t++bs [32,45,32]++decB k.natAbs) (nm) hw4 (by (try simp only [U,W,List.size_toArray,List.length_cons,List.length_nil]);omega) (.inr O))) ⟨Y,O,Y,O,T⟩ O) ?_
     rintro _ _ ⟨_,⟨sw6,hw6,rfl,rfl⟩,rfl⟩
     refine R ?_
     repeat (first|refine yS ?_|refine yM ?_)
     refine kZ<|fin0 ?_
     exact ⟨O,_,hw6,congrArg (fun q=>bldE b (bldP b) sw6 q) ((tp2 (sg2 c2) c4 (by simpa using c5)))⟩
   ·refine zI<|zN O<|G O<|zU O O (qH [0,0] O ok49 (upI (qS b (bldP b) sw2 (t++bs [32,45,32]) (nm) hw2 (by (try simp only [U,W,List.size_toArray,List.length_cons,List.length_nil]);omega) (.inr O))) ⟨Y,O,Y,O,T⟩ O) ?_
    rintro _ _ ⟨_,⟨sw6,hw6,rfl,rfl⟩,rfl⟩
    refine R ?_
    repeat (first|refine yS ?_|refine yM ?_)
    refine kZ<|fin0 ?_
    exact ⟨O,_,hw6,congrArg (fun q=>bldE b (bldP b) sw6 q) ((tp3 (sg2 c2) c4))⟩
  ·refine A O<|zT O (kH [0,0] O ok277 (upI (bld_Len b p sv t)) ⟨Y,O,T⟩ O)<|zT O (yA O O O)<|G O<|R<|zC O (fun c3=>?_) (fun c3=>?_)
   ·try simp only [sx] at c3
    refine zN O<|zU O O (qH [0,0] O ok49 (upI (qS b p sv (t) (bs [32,43,32]) hnn (by (try simp only [U,W,List.size_toArray,List.length_cons,List.length_nil]);omega) hp)) ⟨Y,O,Y,O,T⟩ O) ?_
    rintro _ _ ⟨_,⟨sw3,hw3,rfl,rfl⟩,rfl⟩
    refine R<|zK<|A O<|G O<|qK O ok278 (upI (zEi k ⟨hk1,hk2⟩)) ⟨Y,O,T⟩<|G O<|R<|A O<|G O<|wF O<|G O<|rL0 O (fun g7_2=>zP O O) O<|rL1 31 O (fun g7_2=>wU O O O) O<|r_or O (fun h=>(lzf h))<|R<|zC O (fun c4=>?_) (fun c4=>?_)
    ·refine A O<|G O<|qK O ok279 (zFd k.natAbs (by omega)) ⟨Y,O,Y,O,T⟩<|zU O O (qH [0,0] O ok49 (upI (qS b (bldP b) sw3 (t++bs [32,43,32]) (decB k.natAbs) hw3 (by (try simp only [U,W,List.size_toArray,List.length_cons,List.length_nil]);omega) (.inr O))) ⟨Y,O,Y,O,T⟩ O) ?_
     rintro _ _ ⟨_,⟨sw4,hw4,rfl,rfl⟩,rfl⟩
     refine R<|A O<|G O<|zT O (zAz O O O)<|R<|zC O (fun c5=>?_) (fun c5=>?_)
     ·try simp only [sx] at c5
      refine zN O<|zU O O (qH [0,0] O ok49 (upI (qS b (bldP b) sw4 (t++bs [32,43,32]++decB k.natAbs) (bs [42]) hw4 (by (try simp only [U,W,List.size_toArray,List.length_cons,List.length_nil]);omega) (.inr O))) ⟨Y,O,Y,O,T⟩ O) ?_
      rintro _ _ ⟨_,⟨sw5,hw5,rfl,rfl⟩,rfl⟩
      refine R<|zN O<|G O<|zU O O (qH [0,0] O ok49 (upI (qS b (bldP b) sw5 (t++bs [32,43,32]++decB k.natAbs++bs [42]) (nm) hw5 (by (try simp only [U,W,List.size_toArray,List.length_cons,List.length_nil]);omega) (.inr O))) ⟨Y,O,Y,O,T⟩ O) ?_
      rintro _ _ ⟨_,⟨sw6,hw6,rfl,rfl⟩,rfl⟩
      refine R ?_
      repeat (first|refine yS ?_|refine yM ?_)
      refine kZ<|fin0 ?_
      exact ⟨O,_,hw6,congrArg (fun q=>bldE b (bldP b) sw6 q) ((tp1 (sg3 c2 (by omega)) c4 c5))⟩
     ·try simp only [sx] at c5
      refine zI<|zN O<|G O<|zU O O (qH [0,0] O ok49 (upI (qS b (bldP b) sw4 (t++bs [32,43,32]++decB k.natAbs) (nm) hw4 (by (try simp only [U,W,List.size_toArray,List.length_cons,List.length_nil]);omega) (.inr O))) ⟨Y,O,Y,O,T⟩ O) ?_
      rintro _ _ ⟨_,⟨sw6,hw6,rfl,rfl⟩,rfl⟩
      refine R ?_
      repeat (first|refine yS ?_|refine yM ?_)
      refine kZ<|fin0 ?_
      exact ⟨O,_,hw6,congrArg (fun q=>bldE b (bldP b) sw6 q) ((tp2 (sg3 c2 (by omega)) c4 (by simpa using c5)))⟩
    ·refine zI<|zN O<|G O<|zU O O (qH [0,0] O ok49 (upI (qS b (bldP b) sw3 (t++bs [32,43,32]) (nm) hw3 (by (try simp only [U,W,List.size_toArray,List.length_cons,List.length_nil]);omega) (.inr O))) ⟨Y,O,Y,O,T⟩ O) ?_
     rintro _ _ ⟨_,⟨sw6,hw6,rfl,rfl⟩,rfl⟩
     refine R ?_
     repeat (first|refine yS ?_|refine yM ?_)
     refine kZ<|fin0 ?_
     exact ⟨O,_,hw6,congrArg (fun q=>bldE b (bldP b) sw6 q) ((tp3 (sg3 c2 (by omega)) c4))⟩
   ·try simp only [sx] at c3
    refine zI<|zK<|A O<|G O<|qK O ok278 (upI (zEi k ⟨hk1,hk2⟩)) ⟨Y,O,T⟩<|G O<|R<|A O<|G O<|wF O<|G O<|rL0 O (fun g7_2=>zP O O) O<|rL1 31 O (fun g7_2=>wU O O O) O<|r_or O (fun h=>(lzf h))<|R<|zC O (fun c4=>?_) (fun c4=>?_)
    ·refine A O<|G O<|qK O ok279 (zFd k.natAbs (by omega)) ⟨Y,O,Y,O,T⟩<|zU O O (qH [0,0] O ok49 (upI (qS b p sv (t) (decB k.natAbs) hnn (by (try simp only [U,W,List.size_toArray,List.length_cons,List.length_nil]);omega) hp)) ⟨Y,O,Y,O,T⟩ O) ?_
     rintro _ _ ⟨_,⟨sw4,hw4,rfl,rfl⟩,rfl⟩
     refine R<|A O<|G O<|zT O (zAz O O O)<|R<|zC O (fun c5=>?_) (fun c5=>?_)
     ·try simp only [sx] at c5
      refine zN O<|zU O O (qH [0,0] O ok49 (upI (qS b (bldP b) sw4 (t++decB k.natAbs) (bs [42]) hw4 (by (try simp only [U,W,List.size_toArray,List.length_cons,List.length_nil]);omega) (.inr O))) ⟨Y,O,Y,O,T⟩ O) ?_
      rintro _ _ ⟨_,⟨sw5,hw5,rfl,rfl⟩,rfl⟩
      refine R<|zN O<|G O<|zU O O (qH [0,0] O ok49 (upI (qS b (bldP b) sw5 (t++decB k.natAbs++bs [42]) (nm) hw5 (by (try simp only [U,W,List.size_toArray,List.length_cons,List.length_nil]);omega) (.inr O))) ⟨Y,O,Y,O,T⟩ O) ?_
      rintro _ _ ⟨_,⟨sw6,hw6,rfl,rfl⟩,rfl⟩
      refine R ?_
      repeat (first|refine yS ?_|refine yM ?_)
      refine kZ<|fin0 ?_
      exact ⟨O,_,hw6,congrArg (fun q=>bldE b (bldP b) sw6 q) (((by rw [zAj]):_=_).trans (tp1 (sg4 c1 (by omega)) c4 c5))⟩
     ·try simp only [sx] at c5
      refine zI<|zN O<|G O<|zU O O (qH [0,0] O ok49 (upI (qS b (bldP b) sw4 (t++decB k.natAbs) (nm) hw4 (by (try simp only [U,W,List.size_toArray,List.length_cons,List.length_nil]);omega) (.inr O))) ⟨Y,O,Y,O,T⟩ O) ?_
      rintro _ _ ⟨_,⟨sw6,hw6,rfl,rfl⟩,rfl⟩
      refine R ?_
      repeat (first|refine yS ?_|refine yM ?_)
      refine kZ<|fin0 ?_
      exact ⟨O,_,hw6,congrArg (fun q=>bldE b (bldP b) sw6 q) (((by rw [zAj]):_=_).trans (tp2 (sg4 c1 (by omega)) c4 (by simpa using c5)))⟩
    ·refine zI<|zN O<|G O<|zU O O (qH [0,0] O ok49 (upI (qS b p sv (t) (nm) hnn (by (try simp only [U,W,List.size_toArray,List.length_cons,List.length_nil]);omega) hp)) ⟨Y,O,Y,O,T⟩ O) ?_
     rintro _ _ ⟨_,⟨sw6,hw6,rfl,rfl⟩,rfl⟩
     refine R ?_
     repeat (first|refine yS ?_|refine yM ?_)
     refine kZ<|fin0 ?_
     exact ⟨O,_,hw6,congrArg (fun q=>bldE b (bldP b) sw6 q) (((by rw [zAj]):_=_).trans (tp3 (sg4 c1 (by omega)) c4))⟩
theorem zNl (l:Lf) (hr:l.rng) (hl:l.L.length<=1000000000000):
    Pur cfgI 212 [vLin l] (vS (linS l)):=by
 refine zS Tryz.func212 O Tryz.ntmps212 Tryz.results212 O ?_
 intro z hz
 refine A O<|zU O O (qN O O) ?_
 rintro _ _ ⟨b1,rfl,rfl⟩
 refine G O<|R<|zK<|A O<|zO kL (zD 0 O) O<|qK O ok274 (upI (zFb l (by omega))) ⟨Y,O,T⟩<|kP O<|R<|zC O (fun c1=>?_) (fun c1=>?_)
 ·try simp only [sx] at c1
  have h0:linOk l=false:=by cases h:linOk l with|false=>rfl|true=>rw [linErr,h] at c1;exact absurd rfl c1
  refine A O<|G O<|R<|zF<|zQ O ?_
  rw [linS,if_pos h0];first|done|rfl
 ·try simp only [sx] at c1
  have h0:linOk l=true:=by cases h:linOk l with|true=>rfl|false=>rw [linErr,h] at c1;cases c1
  have hnm:=zLt (p:=none) h0
  have hms:=zDj l.L (bs []) (fun m hm=>⟨hr.2 m hm,hnm m hm⟩)
  have hz0:(bs []).size=0:=rfl
  refine zI<|A O<|zU O O (yL O zr130) ?_
  rintro _ _ ⟨b2,rfl,rfl⟩
  refine yX _ (wI 5 1)<|R<|A O<|zT O (zCn O O O O O)<|G O<|R<|zK<|A O<|zH O kT<|zM zBp (zD 2 O) O<|zZ O el99<|G O<|R<|zR<|zX ⟨[(14,.c _),(1,.c _),(3,.c _),(4,.c _),(12,.c _),(13,.c _)],[_,_,_]⟩ (Weak.mk [true,true,true] ⟨Y,Y,Y,Y,Y,Y,T⟩ O)<|qG 1 2 O O (Nat×Value×Value) (fun ⟨k,pv,sv⟩=>[(14,vI k)]) (fun ⟨k,pv,sv⟩=>[E.vec sv 5 1 (byR (monosS (bs []) (l.L.take k))),E.row b2 130 [.lit pv,.lit sv]]) (fun ⟨k,pv,sv⟩=>k<=l.L.length/\(NN sv)/\(pv=.pointer none∨pv=bldP b2)) (fun ⟨k,pv,sv⟩=>l.L.length-k) ⟨⟨0,(.pointer none),(.slice none 0 0)⟩,⟨by omega,NN_nil,.inl O⟩,Weak.mk [true,true,true] ⟨Y,Y,Y,Y,Y,Y,T⟩ O⟩ ?_
  rintro ⟨k,pv,sv⟩ ⟨hk,hnn,hpv⟩
  show AWP _ _ _ _ _ ⟨[(14,vI k)]++_,[E.vec sv 5 1 (byR (monosS (bs []) (l.L.take k))),E.row b2 130 [.lit pv,.lit sv]]++_⟩
  refine A O<|yJ O<|R<|zK<|zC O (fun c2=>?_) (fun c2=>?_)
  ·try simp only [sx] at c2
   obtain ⟨m,hm⟩:=qY l.L k (by omega)
   have hmk:=zDj (l.L.take k) (bs []) (fun m hm=>⟨hr.2 m (List.mem_of_mem_take hm),hnm m (List.mem_of_mem_take hm)⟩)
   have htk:(l.L.take k).length<=l.L.length:=by rw [List.length_take];omega
   have hns:=zGp (hnm m (zY hm))
   refine zI<|zK<|zR<|A O<|qE O el99 (by omega) (getm hm)<|zO zTq qA O<|zU O O (yL O zr98) ?_
   rintro _ _ ⟨b3,rfl,rfl⟩
   refine rStR 0 sz98 O<|R<|zN O<|G O<|zH O fd98_1<|zM r (zD 0 O) O<|zH O zEb<|zM one9 (zD 0 O) O<|zU O O (zRq [2,1] O O (FnCon.of_con (first:=[]) (cap:=[.lit (bldP b2)]) (args:=[vI m.By,vS m.Name]) ok276 (zOi b2 pv sv ((monosS (bs []) (l.L.take k))) m.Name m.By hnn (by omega) (hr.2 m (zY hm)) hpv)) ⟨Y,O,Y,O,T⟩ O) ?_
   rintro _ _ ⟨_,⟨rfl,sw1,hw1,rfl⟩,rfl⟩
   refine R<|zN O<|qI O ⟨by omega,by omega⟩<|G O<|R ?_
   refine ⟨⟨k+1,(bldP b2),sw1⟩,⟨by omega,hw1,.inr O⟩,(by show l.L.length-(k+1)<l.L.length-k;omega),Weak.mk [false,true,true,true] ⟨Y,Y,Y,Y,Y,Y,T⟩ (by show E.vec sw1 _ 1 (byR (termP (monosS (bs []) (l.L.take k)) m.By m.Name))::_=E.vec sw1 _ 1 (byR (monosS (bs []) (l.L.take (k+1))))::_;rw [zEq hm,←termP_mono (hnm m (zY hm))];first|done|rfl)⟩
  ·try simp only [sx] at c2
   rw [yE (l:=l.L) (k:=k) (by omega)]
   refine qP<|zK<|A O<|zH O zCt<|zM r (zD 2 O) O<|kP O<|G O<|rL0 O (fun g10_3=>zE O kT O) O<|rL1 29 O (fun g10_3=>zJ O zBp O (zD 2 O) O) O<|rL1 30 O (fun g10_3=>yG O el99 O) O<|rL1 31 O (fun g10_3=>kB O O O) O<|r_or O (fun h=>(lzf h))<|R<|zC O (fun c3=>?_) (fun c3=>?_)
   ·have hc:(!decide (l.K=0)||decide ((l.L.length:Int)=0))=true:=by simpa [Lz] using c3
    simp only [Bool.or_eq_true,Bool.not_eq_true',decide_eq_true_eq,decide_eq_false_iff_not] at hc
    refine zN O<|G O<|zH O zCt<|zM r (zD 2 O) O<|zU O O (zRq [1,0] O O (FnCon.of_con (first:=[]) (cap:=[.lit (bldP b2)]) (args:=[vI l.K,vS (bs [])]) ok276 (zOi b2 pv sv ((monosS (bs []) l.L)) (bs []) l.K hnn (by show _+0<=_;omega) hr.1 hpv)) ⟨Y,O,Y,O,T⟩ O) ?_
    rintro _ _ ⟨_,⟨rfl,sw2,hw2,rfl⟩,rfl⟩
    refine R<|A O<|zU O O (qH [1,0] O ok52 (upI (zFz b2 (bldP b2) sw2 (termP (monosS (bs []) l.L) l.K (bs [])) hw2)) ⟨Y,O,T⟩ O) ?_
    rintro _ _ ⟨_,⟨rfl,e_,rfl⟩,rfl⟩
    refine G O<|R<|zF<|zQ O ?_
    rw [termP_const,linS,if_neg (by rw [h0];simp),if_pos (by omega)]
   ·have hc:(!decide (l.K=0)||decide ((l.L.length:Int)=0))=false:=by simpa [Lz] using c3
    simp only [Bool.or_eq_false_iff,Bool.not_eq_false',decide_eq_true_eq,decide_eq_false_iff_not] at hc
    refine zI<|A O<|zU O O (qH [1,0] O ok52 (upI (zFz b2 pv sv (monosS (bs []) l.L) hnn)) ⟨Y,O,T⟩ O) ?_
    rintro _ _ ⟨_,⟨rfl,e_,rfl⟩,rfl⟩
    refine G O<|R<|zF<|zQ O ?_
    rw [linS,if_neg (by rw [h0];simp),if_neg (by omega)]
end Go.W
end
section
set_option maxRecDepth 10000
namespace Go.W
open Go Go.Eng Go.Proofs Go.L41 Go.Br
attribute [local irreducible] AWP RWP TD finQ
theorem dig_conv2 (m:Nat):bs [UInt8.ofNat (48+m%10)]=[IntKind.u8.wrap (((48+m%10:Nat):Int))].foldl (fun r n=>r.push (UInt8.ofNat n.toNat)) ByteArray.empty:=by
  have h2:IntKind.u8.wrap ((48+m%10:Nat):Int)=((48+m%10:Nat):Int):=by rw [IntKind.wrap_u8];omega
  rw [h2];rfl
theorem dgt_stop {n m:Nat} {s:ByteArray} (h:m/10=0) (hp:decB n=decB m++s):bs [UInt8.ofNat (48+m%10)]++s=decB n:=by
  have hm:m<10:=by omega
  rw [Nat.mod_eq_of_lt hm];exact dgt_end hm hp
theorem mono1 {m:Mono} (h:¬m.By.natAbs=1):decB m.By.natAbs++bs [42]++m.Name=monoT m:=by unfold monoT;rw [if_neg h]
theorem mono2 {m:Mono} (h:m.By.natAbs=1):m.Name=monoT m:=by unfold monoT;rw [if_pos h]
theorem ok289:callOk Tryz.prog 289=true:=by kernel_rfl
theorem ok290:callOk Tryz.prog 290=true:=by kernel_rfl
theorem ok291:callOk Tryz.prog 291=true:=by kernel_rfl
theorem ok292:callOk Tryz.prog 292=true:=by kernel_rfl
theorem ref05_Validate (l:Lf) (hl:l.L.length<=1000000000000):
    Pur cfg 289 [vLin l] (vI (linErr l)):=by
 refine zS Tryz.func289 O Tryz.ntmps289 Tryz.results289 O ?_
 intro z hz
 refine A O<|zU O O (qN O O) ?_
 rintro _ _ ⟨b1,rfl,rfl⟩
 refine G O<|R<|zK<|A O<|zO kL (zD 0 O) O<|qK O ok293 (zCa l (by omega)) ⟨Y,O,T⟩<|wA O<|R<|zC O (fun c1=>?_) (fun c1=>?_)
 ·try simp only [sx] at c1
  refine A O<|G O<|R<|zF<|zQ O ?_
  rw [show linErr l=1 by unfold linErr;rw [c1];rfl]
 ·try simp only [sx] at c1
  refine zI<|A O<|G O<|R<|zF<|zQ O ?_
  rw [show linErr l=0 by unfold linErr;rw [c1];rfl]
theorem zNg (n:Int) (hn:In64 n):
    Pur cfg 290 [vI n] (vUn n.natAbs):=by
 refine zS Tryz.func290 O Tryz.ntmps290 Tryz.results290 O ?_
 intro z hz
 have hn1:=hn.1
 have hn2:=hn.2
 refine A O<|G O<|R<|zK<|A O<|G O<|yJ O<|R<|zC O (fun c1=>?_) (fun c1=>?_)
 ·try simp only [sx] at c1
  refine A O<|G O<|qI O ⟨by omega,by omega⟩<|zT O (zGy O O)<|zT O (wK O us2 ik188 O)<|zT O (det_add O O O)<|G O<|R<|zF<|zQ O ?_
  exact congrArg vU64 (size_neg c1 hn)
 ·try simp only [sx] at c1
  refine zI<|A O<|G O<|zT O (wK O us2 ik188 O)<|G O<|R<|zF<|zQ O ?_
  exact congrArg vU64 (mag_pos (by omega) hn.2)
theorem zOe (n:Nat) (hn:n<=9223372036854775808):
    Pur cfg 291 [vUn n] (vS (decB n)):=by
 refine zS Tryz.func291 O Tryz.ntmps291 Tryz.results291 O ?_
 intro z hz
 have hds:=zBu (n:=n) (by omega)
 refine A O<|G O<|R<|A O<|G O<|R<|zR<|zX ⟨[(0,.c _),(3,.c _)],[]⟩ (Weak.mk [] ⟨Y,Y,T⟩ O)<|qG 2 0 O O (Nat×ByteArray) (fun ⟨m,s⟩=>[(0,vUn m),(3,vS s)]) (fun ⟨m,s⟩=>[]) (fun ⟨m,s⟩=>m<=n/\decB n=decB m++s) (fun ⟨m,s⟩=>m) ⟨⟨n,bs []⟩,⟨by omega,by apply ByteArray.ext;simp [bs]⟩,Weak.mk [] ⟨Y,VLe.of_eq (O),T⟩ O⟩ ?_
 rintro ⟨m,s⟩ ⟨hm,hp⟩
 show AWP _ _ _ _ _ ⟨[(0,vUn m),(3,vS s)]++_,[]++_⟩
 have hsz:=congrArg ByteArray.size hp
 rw [ByteArray.size_append] at hsz
 refine zR<|A O<|G O<|zT O (det_urem O O O (show (10:Nat)≠0 by decide))<|zT O (det_uadd O O O (by have h_:48+m%10<18446744073709551616:=(by omega);exact h_))<|zT O (wK O us188 ik5 O)<|zT O (yK O zNu zr5 O O O O)<|zT O (zKk [_] O un128 un5 un9 O (by simp) (dig_conv2 m))<|G O<|kY O (by rw [dgt_size];omega)<|G O<|R<|A O<|G O<|zT O (zJp O O O ⟨show (10:Nat)≠0 by decide,by omega⟩)<|G O<|R<|A O<|G O<|L O<|R<|zC O (fun c1=>?_) (fun c1=>?_)
 ·try simp only [sx] at c1
  refine A O<|G O<|G O<|R<|zF<|zQ O ?_
  rw [dgt_stop (by omega) hp]
 ·try simp only [sx] at c1
  refine zI ?_
  refine ⟨⟨m/10,bs [UInt8.ofNat (48+m%10)]++s⟩,⟨by omega,dgt_next (by omega) hp⟩,(by show m/10<m;omega),Weak.mk [] ⟨Y,Y,T⟩ O⟩
theorem zEw (l:Lf) (hr:l.rng) (hl:l.L.length<=1000000000000):
    Pur cfg 225 [vLin l] (vS (linS l)):=by
 refine zS Tryz.func225 O Tryz.ntmps225 Tryz.results225 O ?_
 intro z hz
 refine A O<|zU O O (qN O O) ?_
 rintro _ _ ⟨b1,rfl,rfl⟩
 refine G O<|R<|zK<|A O<|zO kL (zD 0 O) O<|qK O ok289 (ref05_Validate l hl) ⟨Y,O,T⟩<|kP O<|R<|zC O (fun c1=>?_) (fun c1=>?_)
 ·try simp only [sx] at c1
  have h0:linOk l=false:=by cases h:linOk l with|false=>rfl|true=>rw [linErr,h] at c1;exact absurd rfl c1
  refine A O<|G O<|R<|zF<|zQ O ?_
  rw [linS,if_pos h0];first|done|rfl
 ·try simp only [sx] at c1
  have h0:linOk l=true:=by cases h:linOk l with|true=>rfl|false=>rw [linErr,h] at c1;cases c1
  have hnm:=zLt (p:=none) h0
  have hz0:(bs []).size=0:=rfl
  have hms:=zDj l.L (bs []) (fun m hm=>⟨hr.2 m hm,hnm m hm⟩)
  refine zI<|A O<|G O<|R<|zK<|A O<|G O<|R<|zR<|zX ⟨[(4,.c _),(3,.c _),(1,.c _)],[_]⟩ (Weak.mk [true] ⟨Y,Y,Y,T⟩ O)<|qG 2 0 O O (Nat) (fun k=>[(4,vI k),(3,vS (monosS (bs []) (l.L.take k)))]) (fun k=>[]) (fun k=>k<=l.L.length) (fun k=>l.L.length-k) ⟨0,(by omega),Weak.mk [true] ⟨Y,VLe.of_eq (O),Y,T⟩ O⟩ ?_
  rintro k hk
  refine zK<|A O<|G O<|zH O kT<|zM zBp (zD 0 O) O<|zZ O el99<|yJ O<|R<|zC O (fun c2=>?_) (fun c2=>?_)
  ·try simp only [sx] at c2
   obtain ⟨m,hm⟩:=qY l.L k (by omega)
   have hmk:=zDj (l.L.take k) (bs []) (fun m hm=>⟨hr.2 m (List.mem_of_mem_take hm),hnm m (List.mem_of_mem_take hm)⟩)
   have htk:(l.L.take k).length<=l.L.length:=by rw [List.length_take];omega
   have hns:=zGp (hnm m (zY hm))
   have hb:=hr.2 m (zY hm)
   have hb1:=hb.1
   have hb2:=hb.2
   have hdb:=zBu (n:=m.By.natAbs) (by omega)
   refine zI<|zK<|zR<|A O<|zH O kT<|zM zBp (zD 0 O) O<|G O<|qE O el99 (by omega) (getm hm)<|yB O fd98_1<|zM r qA O<|G O<|R<|A O<|zH O kT<|zM zBp (zD 0 O) O<|G O<|qE O el99 (by omega) (getm hm)<|yB O zEb<|zM one9 qA O<|G O<|R<|zK<|A O<|G O<|qK O ok290 (zNg m.By (hr.2 m (zY hm))) ⟨Y,O,T⟩<|kP O<|R<|zC O (fun c3=>?_) (fun c3=>?_)
   ·have h3:¬m.By.natAbs=1:=by simp only [Bool.not_eq_true',decide_eq_false_iff_not] at c3;omega
    refine zN O<|G O<|qK O ok290 (zNg m.By (hr.2 m (zY hm))) ⟨Y,O,T⟩<|qK O ok291 (zOe m.By.natAbs (by omega)) ⟨Y,O,T⟩<|kY O (by (try simp only [U,W,List.size_toArray,List.length_cons,List.length_nil]);omega)<|G O<|kY O (by (try simp only [U,W,List.size_toArray,List.length_cons,List.length_nil]);omega)<|G O<|R<|zN O<|G O<|G O<|yJ O<|G O<|qK O ok292 (r05_term (monosS (bs []) (l.L.take k)) (decide (m.By<0)) (decB m.By.natAbs++bs [42]++m.Name) (by (try simp only [U,W,List.size_toArray,List.length_cons,List.length_nil]);omega)) ⟨Y,O,Y,O,Y,O,T⟩<|G O<|R<|zN O<|G O<|qI O ⟨by omega,by omega⟩<|G O<|R ?_
    refine ⟨k+1,(by omega),(by omega),Weak.mk [true] ⟨Y,VLe.of_eq (congrArg vS (by first|(rw [zEq hm,←mono1 h3];done)|(rw [zEq hm,←mono2 h3];done))),Y,T⟩ O⟩
   ·have h3:m.By.natAbs=1:=by simp only [Bool.not_eq_false',decide_eq_true_eq] at c3;omega
    refine zI<|zN O<|G O<|G O<|yJ O<|G O<|qK O ok292 (r05_term (monosS (bs []) (l.L.take k)) (decide (m.By<0)) (m.Name) (by (try simp only [U,W,List.size_toArray,List.length_cons,List.length_nil]);omega)) ⟨Y,O,Y,O,Y,O,T⟩<|G O<|R<|zN O<|G O<|qI O ⟨by omega,by omega⟩<|G O<|R ?_
    refine ⟨k+1,(by omega),(by omega),Weak.mk [true] ⟨Y,VLe.of_eq (congrArg vS (by first|(rw [zEq hm,←mono1 h3];done)|(rw [zEq hm,←mono2 h3];done))),Y,T⟩ O⟩
  ·try simp only [sx] at c2
   rw [yE (l:=l.L) (k:=k) (by omega)]
   refine qP<|zK<|A O<|zH O zCt<|zM r (zD 0 O) O<|kP O<|G O<|rL0 O (fun g12_3=>zE O kT O) O<|rL1 47 O (fun g12_3=>zJ O zBp O (zD 0 O) O) O<|rL1 48 O (fun g12_3=>yG O el99 O) O<|rL1 49 O (fun g12_3=>kB O O O) O<|r_or O (fun h=>(lzf h))<|R<|zC O (fun c4=>?_) (fun c4=>?_)
   ·have hc:(!decide (l.K=0)||decide ((l.L.length:Int)=0))=true:=by simpa [Lz] using c4
    simp only [Bool.or_eq_true,Bool.not_eq_true',decide_eq_true_eq,decide_eq_false_iff_not] at hc
    refine qU 10 mixed (by kernel_rfl) O O<|J O O (zP O O)<|J O O (zE O zCt O)<|J O O (zJ O r O (zD 0 O) O)<|J O O (zCh O O O)<|J O O (zE O zCt O)<|J O O (zJ O r O (zD 0 O) O)<|J O O (qC O ok290 (zNg l.K hr.1) ⟨Y,O,T⟩)<|J O O (qC O ok291 (zOe l.K.natAbs (by have:=hr.1.1;have:=hr.1.2;omega)) ⟨Y,O,T⟩)<|J O O (qC O ok292 (r05_term (monosS (bs []) l.L) (decide (l.K<0)) (decB l.K.natAbs) (by have:=hr.1.1;have:=hr.1.2;have:=zBu (n:=l.K.natAbs) (by omega);omega)) ⟨Y,O,Y,O,Y,O,T⟩)<|J O O (qV O O)<|yO<|R<|A O<|G O<|G O<|R<|zF<|zQ O ?_
    rw [linS,if_neg (by rw [h0];simp),if_pos (by omega)]
   ·have hc:(!decide (l.K=0)||decide ((l.L.length:Int)=0))=false:=by simpa [Lz] using c4
    simp only [Bool.or_eq_false_iff,Bool.not_eq_false',decide_eq_true_eq,decide_eq_false_iff_not] at hc
    refine zI<|A O<|G O<|G O<|R<|zF<|zQ O ?_
    rw [linS,if_neg (by rw [h0];simp),if_neg (by omega)]
end Go.W
end
section
set_option maxRecDepth 10000
namespace Go.W
open Go Go.Eng Go.Proofs Go.L41 Go.Br
attribute [local irreducible] AWP RWP TD finQ
theorem szs_take:∀(l:List ByteArray) (k:Nat),szs (l.take k)<=szs l
  |[],k=>by rw [List.take_nil];exact Nat.le_refl _
  |x::l,0=>Nat.zero_le _
  |x::l,k+1=>by
    have:=szs_take l k
    unfold szs at this⊢
    rw [List.take_succ_cons,List.map_cons,List.sum_cons,List.map_cons,List.sum_cons];omega
theorem zIw (l:List ByteArray) (k:Nat):(comS (l.take k)).size<=2*l.length+szs l:=by
  have h1:=zCj (l.take k)
  have h2:=szs_take l k
  rw [List.length_take] at h1
  omega
theorem zGt {l:List Lf} {k:Nat} {x:Lf} (h:l[k]? =some x):(l.map linS)[k]? =some (linS x):=by rw [List.getElem?_map,h];rfl
theorem zSm {l:List Lf} (h:∀x,x∈l->x.rng) (hl:l.length<=1000000000) (hw:linsWt l<=1000000000):szs (l.map linS)<=100000000000:=by
  have:=szs_lins h
  omega
theorem linErr0 (l:Lf):decide (linErr l=0)=linOk l:=by unfold linErr;cases linOk l<;>rfl
theorem ixA {x:Ix} {a b:Bool} (ha:a=linOk x.Lin) (hb:b= !x.At.any (fun l=> !linOk l)) (c:(!a|| !b)=true):linOk x.Lin=false∨x.At.any (fun l=> !linOk l)=true:=by
  subst ha hb
  rw [Bool.or_eq_true] at c
  rcases c with c|c
  · exact .inl (by simpa using c)
  · exact .inr (by rw [Bool.not_not] at c;exact c)
theorem ixB {x:Ix} {a b:Bool} (ha:a=linOk x.Lin) (hb:b= !x.At.any (fun l=> !linOk l)) (c:(!a|| !b)=false):¬(linOk x.Lin=false∨x.At.any (fun l=> !linOk l)=true):=by
  subst ha hb
  rw [Bool.or_eq_false_iff,Bool.not_not] at c
  rintro (h|h)
  · rw [h] at c;cases c.1
  · rw [h] at c;cases c.2
theorem ixC {x:Ix} (c:((!isNameB x.From|| !decide (x.Lin.K=0))||decide (0<(x.Lin.L.length:Int)))=true):isNameB x.From=false∨¬x.Lin.K=0∨0<x.Lin.L.length:=by
  simp only [Bool.or_eq_true,Bool.not_eq_true',decide_eq_true_eq,decide_eq_false_iff_not] at c
  rcases c with (c|c)|c
  · exact .inl c
  · exact .inr (.inl c)
  · exact .inr (.inr (by omega))
theorem ixD {x:Ix} (c:((!isNameB x.From|| !decide (x.Lin.K=0))||decide (0<(x.Lin.L.length:Int)))=false):isNameB x.From=true/\¬(isNameB x.From=false∨¬x.Lin.K=0∨0<x.Lin.L.length):=by
  simp only [Bool.or_eq_false_iff,Bool.not_eq_false',decide_eq_true_eq,decide_eq_false_iff_not] at c
  obtain ⟨⟨c1,c2⟩,c3⟩:=c
  exact ⟨c1,by rw [c1];rintro (h|h|h);cases h;exact h c2;omega⟩
theorem ix1 {x:Ix} (h1:linOk x.Lin=false∨x.At.any (fun l=> !linOk l)=true):ixS x=bs []:=by unfold ixS;rw [if_pos h1]
theorem ix2 {x:Ix} (h1:¬(linOk x.Lin=false∨x.At.any (fun l=> !linOk l)=true)) (h2:x.From=bs []) (h3:0<x.At.length):ixS x=bs []:=by unfold ixS;rw [if_neg h1,if_pos h2,if_pos h3]
theorem ix3 {x:Ix} (h1:¬(linOk x.Lin=false∨x.At.any (fun l=> !linOk l)=true)) (h2:x.From=bs []) (h3:¬0<x.At.length):ixS x=linS x.Lin:=by unfold ixS;rw [if_neg h1,if_pos h2,if_neg h3]
theorem ix4 {x:Ix} (h1:¬(linOk x.Lin=false∨x.At.any (fun l=> !linOk l)=true)) (h2:¬x.From=bs []) (h4:isNameB x.From=false∨¬x.Lin.K=0∨0<x.Lin.L.length):ixS x=bs []:=by unfold ixS;rw [if_neg h1,if_neg h2,if_pos h4]
theorem ix5 {x:Ix} (h1:¬(linOk x.Lin=false∨x.At.any (fun l=> !linOk l)=true)) (h2:¬x.From=bs []) (h4:¬(isNameB x.From=false∨¬x.Lin.K=0∨0<x.Lin.L.length)):ixS x=x.From++bs [91]++comS (x.At.map linS)++bs [93]:=by unfold ixS;rw [if_neg h1,if_neg h2,if_neg h4];first|done|rfl
theorem lins_of {l:List Lf} {k:Nat} {s:ByteArray} (h:(l.map linS)[k]? =some s):∃y,l[k]? =some y/\s=linS y:=by
  rw [List.getElem?_map,Option.map_eq_some_iff] at h
  obtain ⟨y,hy,rfl⟩:=h
  exact ⟨y,hy,O⟩
theorem any_lin {l:List Lf} {k:Nat} {x:Lf} (h:l[k]? =some x) (hx:linOk x=false):l.any (fun l=> !linOk l)=true:=List.any_eq_true.2 ⟨x,zY h,by rw [hx];rfl⟩
theorem el336:elemT Tryz.prog 336=some (101,2,32):=by kernel_rfl
theorem ok212:callOk Tryz.prog 212=true:=by kernel_rfl
theorem ok213:callOk Tryz.prog 213=true:=by kernel_rfl
theorem ok225:callOk Tryz.prog 225=true:=by kernel_rfl
theorem ok294:callOk Tryz.prog 294=true:=by kernel_rfl
theorem ok295:callOk Tryz.prog 295=true:=by kernel_rfl
theorem ok343:callOk Tryz.prog 343=true:=by kernel_rfl
theorem ok344:callOk Tryz.prog 344=true:=by kernel_rfl
theorem r15_valid (l:List Lf) (hr:∀x,x∈l->x.rng) (hl:l.length<=1000000000) (hw:linsWt l<=1000000000):
    Pur cfg 294 [.c (.sl 2 (l.map Lf.cells))] (vB (!l.any (fun l=> !linOk l))):=by
 refine zS Tryz.func294 O Tryz.ntmps294 Tryz.results294 O ?_
 intro z hz
 refine A O<|G O<|R<|zK<|A O<|G O<|R<|zR<|zX ⟨[(3,.c _),(0,.c _)],[]⟩ (Weak.mk [] ⟨Y,Y,T⟩ O)<|qG 1 0 O O (Nat) (fun k=>[(3,vI k)]) (fun k=>[]) (fun k=>k<=l.length/\((l.take k).any (fun l=> !linOk l)=false)) (fun k=>l.length-k) ⟨0,⟨by omega,O⟩,Weak.mk [] ⟨Y,Y,T⟩ O⟩ ?_
 rintro k ⟨hk,hp⟩
 refine zK<|A O<|G O<|G O<|zZ O wV<|yJ O<|R<|zC O (fun c1=>?_) (fun c1=>?_)
 ·try simp only [sx] at c1
  obtain ⟨x,hx⟩:=qY l k (by omega)
  refine zI<|zK<|zR<|A O<|G O<|G O<|qE O wV (by omega) (getm hx)<|zO kL qA O<|qK O ok293 (zCa x (by have:=zAd (zY hx);omega)) ⟨Y,O,T⟩<|wA O<|R<|zC O (fun c2=>?_) (fun c2=>?_)
  ·try simp only [sx] at c2
   have hx0:linOk x=false:=by simpa using c2
   refine A O<|G O<|R<|zF<|zQ O ?_
   rw [any_lin hx hx0];rfl
  ·try simp only [sx] at c2
   have hx0:linOk x=true:=by simpa using c2
   refine zI<|zN O<|G O<|qI O ⟨by omega,by omega⟩<|G O<|R ?_
   refine ⟨k+1,⟨by omega,zJt hx hp (by rw [hx0];rfl)⟩,(by omega),Weak.mk [] ⟨Y,Y,T⟩ O⟩
 ·try simp only [sx] at c1
  refine qP<|A O<|G O<|R<|zF<|zQ O ?_
  rw [yE (l:=l) (k:=k) (by omega)] at hp
  rw [hp];rfl
theorem prn_valid (l:List Lf) (hr:∀x,x∈l->x.rng) (hl:l.length<=1000000000) (hw:linsWt l<=1000000000):
    Pur cfg 343 [.c (.sl 2 (l.map Lf.cells))] (vB (!l.any (fun l=> !linOk l))):=by
 refine zS Tryz.func343 O Tryz.ntmps343 Tryz.results343 O ?_
 intro z hz
 refine A O<|G O<|R<|zK<|A O<|G O<|zZ O el336<|G O<|R<|zR<|zX ⟨[(7,.c _),(5,.c _),(6,.c _)],[]⟩ (Weak.mk [] ⟨Y,Y,Y,T⟩ O)<|qG 1 0 O O (Nat) (fun k=>[(7,vI k)]) (fun k=>[]) (fun k=>k<=l.length/\((l.take k).any (fun l=> !linOk l)=false)) (fun k=>l.length-k) ⟨0,⟨by omega,O⟩,Weak.mk [] ⟨Y,Y,Y,T⟩ O⟩ ?_
 rintro k ⟨hk,hp⟩
 refine A O<|yJ O<|R<|zK<|zC O (fun c1=>?_) (fun c1=>?_)
 ·try simp only [sx] at c1
  obtain ⟨x,hx⟩:=qY l k (by omega)
  refine zI<|zK<|zR<|A O<|qE O el336 (by omega) (getm hx)<|zO kL qA O<|zU O O (qT [none,some 2] O zKm O) ?_
  rintro _ _ ⟨b1,rfl,rfl⟩
  refine rStR 0 zQt O<|R<|A O<|zO kL (zD 0 O) O<|qK O ok274 (zFb x (by have:=zAd (zY hx);omega)) ⟨Y,O,T⟩<|kP O<|R<|zC O (fun c2=>?_) (fun c2=>?_)
  ·try simp only [sx] at c2
   have hx0:linOk x=false:=by cases h:linOk x with|false=>rfl|true=>rw [linErr,h] at c2;exact absurd rfl c2
   refine A O<|G O<|R<|zF<|zQ O ?_
   rw [any_lin hx hx0];rfl
  ·try simp only [sx] at c2
   have hx0:linOk x=true:=by cases h:linOk x with|true=>rfl|false=>rw [linErr,h] at c2;cases c2
   refine zI<|zN O<|qI O ⟨by omega,by omega⟩<|G O<|R ?_
   refine ⟨k+1,⟨by omega,zJt hx hp (by rw [hx0];rfl)⟩,(by omega),Weak.mk [false] ⟨Y,Y,Y,T⟩ O⟩
 ·try simp only [sx] at c1
  refine qP<|A O<|G O<|R<|zF<|zQ O ?_
  rw [yE (l:=l) (k:=k) (by omega)] at hp
  rw [hp];rfl
theorem r15_forms (l:List Lf) (hr:∀x,x∈l->x.rng) (hl:l.length<=1000000000) (hw:linsWt l<=1000000000):
    Pur cfg 295 [.c (.sl 2 (l.map Lf.cells))] (vS (comS (l.map linS))):=by
 refine zS Tryz.func295 O Tryz.ntmps295 Tryz.results295 O ?_
 intro z hz
 have hzs:=zSm hr hl hw
 refine A O<|G O<|R<|A O<|G O<|R<|zK<|A O<|G O<|R<|zR<|zX ⟨[(4,.c _),(3,.c _),(0,.c _)],[]⟩ (Weak.mk [] ⟨Y,Y,Y,T⟩ O)<|qG 2 0 O O (Nat) (fun k=>[(4,vI k),(3,vS (comS ((l.map linS).take k)))]) (fun k=>[]) (fun k=>k<=l.length) (fun k=>l.length-k) ⟨0,(by omega),Weak.mk [] ⟨Y,VLe.of_eq (O),Y,T⟩ O⟩ ?_
 rintro k hk
 refine zK<|A O<|G O<|G O<|zZ O wV<|yJ O<|R<|zC O (fun c1=>?_) (fun c1=>?_)
 ·try simp only [sx] at c1
  obtain ⟨x,hx⟩:=qY l k (by omega)
  have hT:=zIw (l.map linS) k
  rw [List.length_map] at hT
  have hxz:=zKo (zY (zGt hx))
  refine zI<|zK<|zR<|zK<|A O<|G O<|zT O (yA O O O)<|R<|zC O (fun c2=>?_) (fun c2=>?_)
  ·try simp only [sx] at c2
   refine zN O<|G O<|kY O (by (try simp only [U,W,List.size_toArray,List.length_cons,List.length_nil]);omega)<|G O<|R<|zN O<|G O<|G O<|G O<|qE O wV (by omega) (getm hx)<|zO kL qA O<|qK O ok225 (zEw x (hr x (zY hx)) (by have:=zAd (zY hx);omega)) ⟨Y,O,T⟩<|kY O (by (try simp only [U,W,List.size_toArray,List.length_cons,List.length_nil]);omega)<|G O<|R<|zN O<|G O<|qI O ⟨by omega,by omega⟩<|G O<|R ?_
   refine ⟨k+1,(by omega),(by omega),Weak.mk [] ⟨Y,VLe.of_eq (congrArg vS (by first|(rw [zCo (zGt hx) (by omega)];done)|(rw [zCo (zGt hx) (by omega)];rfl)|(rw [zLc (zGt hx) (by omega)];done))),Y,T⟩ O⟩
  ·try simp only [sx] at c2
   refine zI<|zN O<|G O<|G O<|G O<|qE O wV (by omega) (getm hx)<|zO kL qA O<|qK O ok225 (zEw x (hr x (zY hx)) (by have:=zAd (zY hx);omega)) ⟨Y,O,T⟩<|kY O (by (try simp only [U,W,List.size_toArray,List.length_cons,List.length_nil]);omega)<|G O<|R<|zN O<|G O<|qI O ⟨by omega,by omega⟩<|G O<|R ?_
   refine ⟨k+1,(by omega),(by omega),Weak.mk [] ⟨Y,VLe.of_eq (congrArg vS (by first|(rw [zCo (zGt hx) (by omega)];done)|(rw [zCo (zGt hx) (by omega)];rfl)|(rw [zLc (zGt hx) (by omega)];done))),Y,T⟩ O⟩
 ·try simp only [sx] at c1
  rw [yE (l:=l.map linS) (k:=k) (by rw [List.length_map];omega)]
  refine qP<|A O<|G O<|G O<|R<|zF<|zQ O ?_
  exact O
theorem prn_item (l:List Lf) (k:Nat) (x:Lf) (hx:l[k]? =some x) (hr:x.rng) (hl:x.L.length<=1000000000000):
    Pur cfgI 344 [.c (.sl 2 (l.map Lf.cells)),vI k] (vS (linS x)):=by
 refine zS Tryz.func344 O Tryz.ntmps344 Tryz.results344 O ?_
 intro z hz
 refine A O<|G O<|R<|A O<|G O<|G O<|qE O el336 (by omega) (getm hx)<|zO kL qA O<|qK O ok212 (zNl x hr hl) ⟨Y,O,T⟩<|G O<|R<|zF<|zQ O ?_
 exact O
theorem prn_list (l:List ByteArray) (c:C) (hl:l.length<=1000000000) (hz:szs l<=10000000000000) (hc:∀(k:Nat) (x:ByteArray),l[k]? =some x->FnPur cfgI c [vI k] (vS x)):
    Pur cfgI 213 [vI l.length,.c c] (vS (comS l)):=by
 refine zS Tryz.func213 O Tryz.ntmps213 Tryz.results213 O ?_
 intro z hz
 refine A O<|G O<|R<|A O<|zU O O (yL O zr130) ?_
 rintro _ _ ⟨b1,rfl,rfl⟩
 refine yX _ (wI 5 1)<|R<|zK<|A O<|G O<|G O<|R<|zR<|zX ⟨[(8,.c _),(1,.c _),(5,.c _),(7,.c _)],[_,_]⟩ (Weak.mk [true,true] ⟨Y,Y,Y,Y,T⟩ O)<|qG 1 2 O O (Nat×Value×Value) (fun ⟨k,pv,sv⟩=>[(8,vI k)]) (fun ⟨k,pv,sv⟩=>[E.vec sv 5 1 (byR (comS (l.take k))),E.row b1 130 [.lit pv,.lit sv]]) (fun ⟨k,pv,sv⟩=>k<=l.length/\(NN sv)/\(pv=.pointer none∨pv=bldP b1)) (fun ⟨k,pv,sv⟩=>l.length-k) ⟨⟨0,(.pointer none),(.slice none 0 0)⟩,⟨by omega,NN_nil,.inl O⟩,Weak.mk [true,true] ⟨Y,Y,Y,Y,T⟩ O⟩ ?_
 rintro ⟨k,pv,sv⟩ ⟨hk,hnn,hpv⟩
 show AWP _ _ _ _ _ ⟨[(8,vI k)]++_,[E.vec sv 5 1 (byR (comS (l.take k))),E.row b1 130 [.lit pv,.lit sv]]++_⟩
 refine A O<|yJ O<|R<|zK<|zC O (fun c1=>?_) (fun c1=>?_)
 ·try simp only [sx] at c1
  obtain ⟨x,hx⟩:=qY l k (by omega)
  have hT:=zIw l k
  have hxz:=zKo (zY hx)
  refine zI<|zK<|zR<|A O<|G O<|G O<|R<|zK<|A O<|G O<|zT O (yA O O O)<|R<|zC O (fun c2=>?_) (fun c2=>?_)
  ·try simp only [sx] at c2
   have hnx:=zCo hx (by omega)
   refine zN O<|zU O O (qH [1,0] O ok49 (upI (qS b1 pv sv (comS (l.take k)) (bs [44,32]) hnn (by (try simp only [U,W,List.size_toArray,List.length_cons,List.length_nil]);omega) hpv)) ⟨Y,O,Y,O,T⟩ O) ?_
   rintro _ _ ⟨_,⟨sw1,hw1,rfl,rfl⟩,rfl⟩
   refine R<|zN O<|G O<|G O<|zT O (zAx O O (hc k x hx) ⟨Y,O,T⟩)<|zU O O (qH [1,0] O ok49 (upI (qS b1 (bldP b1) sw1 (comS (l.take k)++bs [44,32]) (x) hw1 (by (try simp only [U,W,List.size_toArray,List.length_cons,List.length_nil]);omega) (.inr O))) ⟨Y,O,Y,O,T⟩ O) ?_
   rintro _ _ ⟨_,⟨sw2,hw2,rfl,rfl⟩,rfl⟩
   refine R<|zN O<|qI O ⟨by omega,by omega⟩<|G O<|R ?_
   refine ⟨⟨k+1,(bldP b1),sw2⟩,⟨by omega,hw2,.inr O⟩,(by show l.length-(k+1)<l.length-k;omega),Weak.mk [true,true] ⟨Y,Y,Y,Y,T⟩ (by first|(show E.vec sw2 _ 1 (byR (comS (l.take k)++bs [44,32]++x))::_=E.vec sw2 _ 1 (byR (comS (l.take (k+1))))::_;rw [hnx];rfl)|(show E.vec sw2 _ 1 (byR (comS (l.take k)++x))::_=E.vec sw2 _ 1 (byR (comS (l.take (k+1))))::_;rw [hnx];first|done|rfl))⟩
  ·try simp only [sx] at c2
   have hnx:=zLc hx (by omega)
   refine zI<|zN O<|G O<|G O<|zT O (zAx O O (hc k x hx) ⟨Y,O,T⟩)<|zU O O (qH [1,0] O ok49 (upI (qS b1 pv sv (comS (l.take k)) (x) hnn (by (try simp only [U,W,List.size_toArray,List.length_cons,List.length_nil]);omega) hpv)) ⟨Y,O,Y,O,T⟩ O) ?_
   rintro _ _ ⟨_,⟨sw2,hw2,rfl,rfl⟩,rfl⟩
   refine R<|zN O<|qI O ⟨by omega,by omega⟩<|G O<|R ?_
   refine ⟨⟨k+1,(bldP b1),sw2⟩,⟨by omega,hw2,.inr O⟩,(by show l.length-(k+1)<l.length-k;omega),Weak.mk [true,true] ⟨Y,Y,Y,Y,T⟩ (by first|(show E.vec sw2 _ 1 (byR (comS (l.take k)++bs [44,32]++x))::_=E.vec sw2 _ 1 (byR (comS (l.take (k+1))))::_;rw [hnx];rfl)|(show E.vec sw2 _ 1 (byR (comS (l.take k)++x))::_=E.vec sw2 _ 1 (byR (comS (l.take (k+1))))::_;rw [hnx];first|done|rfl))⟩
 ·try simp only [sx] at c1
  rw [yE (l:=l) (k:=k) (by omega)]
  refine qP<|A O<|zU O O (qH [1,0] O ok52 (upI (zFz b1 pv sv (comS l) hnn)) ⟨Y,O,T⟩ O) ?_
  rintro _ _ ⟨_,⟨rfl,e_,rfl⟩,rfl⟩
  refine G O<|R<|zF<|zQ O ?_
  rfl
theorem r15_Index (x:Ix) (hr:x.Lin.rng) (ha:∀y,y∈x.At->y.rng) (hw:x.wt<=1000000000):
    Pur cfg 226 [.agg x.cells] (vS (ixS x)):=by
 refine zS Tryz.func226 O Tryz.ntmps226 Tryz.results226 O ?_
 intro z hz
 have hwt:x.Lin.L.length+x.At.length+linsWt x.At=x.wt:=rfl
 have hzs:=zSm ha (by omega) (by omega)
 have hcs:=zCj (x.At.map linS)
 rw [List.length_map] at hcs
 refine A O<|zU O O (qN O O) ?_
 rintro _ _ ⟨b1,rfl,rfl⟩
 refine G O<|R<|zK<|A O<|zH O zAh<|zO kL (zD 0 O) O<|qK O ok293 (zCa x.Lin (by omega)) ⟨Y,O,T⟩<|wA O<|G O<|rL0 O (fun g1_4=>zE O wC O) O<|rL1 8 O (fun g1_4=>zJ O zAk O (zD 0 O) O) O<|rL1 9 O (fun g1_4=>qC O ok294 (r15_valid x.At ha (by omega) (by omega)) ⟨Y,O,T⟩) O<|rL1 10 O (fun g1_4=>wL O O) O<|r_or O (fun h=>(lzf h))<|R<|zC O (fun c1=>?_) (fun c1=>?_)
 ·have h1:=ixA (x:=x) rfl rfl c1
  refine A O<|G O<|R<|zF<|zQ O ?_
  rw [ix1 h1];first|done|rfl
 ·have h1:=ixB (x:=x) rfl rfl c1
  refine zI<|zK<|A O<|zH O zAg<|zM one9 (zD 0 O) O<|wF O<|R<|zC O (fun c2=>?_) (fun c2=>?_)
  ·try simp only [sx] at c2
   have h2:x.From=bs []:=c2
   refine zK<|A O<|zH O wC<|zM zAk (zD 0 O) O<|zZ O wV<|zT O (yA O O O)<|R<|zC O (fun c3=>?_) (fun c3=>?_)
   ·try simp only [sx] at c3
    refine A O<|G O<|R<|zF<|zQ O ?_
    rw [ix2 h1 h2 (by omega)];first|done|rfl
   ·try simp only [sx] at c3
    refine zI<|A O<|zH O zAh<|zO kL (zD 0 O) O<|qK O ok225 (zEw x.Lin hr (by omega)) ⟨Y,O,T⟩<|G O<|R<|zF<|zQ O ?_
    rw [ix3 h1 h2 (by omega)]
  ·try simp only [sx] at c2
   have h2:¬x.From=bs []:=c2
   refine zI<|zK<|A O<|zH O zAg<|zM one9 (zD 0 O) O<|qK O ok93 (zGa x.From) ⟨Y,O,T⟩<|wA O<|G O<|rL0 O (fun g7_4=>zE O zAh O) O<|rL1 28 O (fun g7_4=>zE O zCt O) O<|rL1 29 O (fun g7_4=>zJ O r O (zD 0 O) O) O<|rL1 30 O (fun g7_4=>wU O O O) O<|r_or O (fun h=>(lzf h))<|G O<|rL0 O (fun g7_10=>zE O zAh O) O<|rL1 34 O (fun g7_10=>zE O kT O) O<|rL1 35 O (fun g7_10=>zJ O zBp O (zD 0 O) O) O<|rL1 36 O (fun g7_10=>yG O el99 O) O<|rL1 37 O (fun g7_10=>yA O O O) O<|r_or O (fun h=>(lzf h))<|R<|zC O (fun c4=>?_) (fun c4=>?_)
   ·have h4:=ixC c4
    refine A O<|G O<|R<|zF<|zQ O ?_
    rw [ix4 h1 h2 h4];first|done|rfl
   ·obtain ⟨hN,h4⟩:=ixD c4
    have hns:=zGp hN
    refine zI<|zK<|qU 9 mixed (by kernel_rfl) O O<|J O O (zE O zAg O)<|J O O (zJ O one9 O (zD 0 O) O)<|J O O (qM O O O (by (try simp only [U,W,List.size_toArray,List.length_cons,List.length_nil]);omega))<|J O O (zE O wC O)<|J O O (zJ O zAk O (zD 0 O) O)<|J O O (qC O ok295 (r15_forms x.At ha (by omega) (by omega)) ⟨Y,O,T⟩)<|J O O (qM O O O (by (try simp only [U,W,List.size_toArray,List.length_cons,List.length_nil]);omega))<|J O O (qM O O O (by (try simp only [U,W,List.size_toArray,List.length_cons,List.length_nil]);omega))<|J O O (qV O O)<|yO<|R<|zF<|zQ O ?_
    rw [ix5 h1 h2 h4];first|done|rfl
theorem prn_Index (x:Ix) (hr:x.Lin.rng) (ha:∀y,y∈x.At->y.rng) (hw:x.wt<=1000000000):
    Pur cfgI 280 [.agg x.cells] (vS (ixS x)):=by
 refine zS Tryz.func280 O Tryz.ntmps280 Tryz.results280 O ?_
 intro z hz
 have hwt:x.Lin.L.length+x.At.length+linsWt x.At=x.wt:=rfl
 have hzs:=zSm ha (by omega) (by omega)
 have hcs:=zCj (x.At.map linS)
 rw [List.length_map] at hcs
 refine A O<|zU O O (qN O O) ?_
 rintro _ _ ⟨b1,rfl,rfl⟩
 refine G O<|R<|A O<|zH O wC<|zM zAk (zD 0 O) O<|G O<|R<|zK<|zR<|A O<|zH O zAh<|zO kL (zD 0 O) O<|qK O ok274 (upI (zFb x.Lin (by omega))) ⟨Y,O,T⟩<|kP O<|G O<|rL0 O (fun g2_4=>zP O O) O<|rL1 12 O (fun g2_4=>qC O ok343 (upI (prn_valid x.At ha (by omega) (by omega))) ⟨Y,O,T⟩) O<|rL1 13 O (fun g2_4=>wL O O) O<|r_or O (fun h=>(lzf h))<|G O<|R<|zC O (fun c1=>?_) (fun c1=>?_)
 ·have h1:=ixA (x:=x) (linErr0 x.Lin) rfl c1
  refine A O<|G O<|R<|zF<|zQ O ?_
  rw [ix1 h1];first|done|rfl
 ·have h1:=ixB (x:=x) (linErr0 x.Lin) rfl c1
  refine A O<|zH O zAg<|zM one9 (zD 0 O) O<|wF O<|G O<|rL0 O (fun g4_3=>zE O wC O) O<|rL1 21 O (fun g4_3=>zJ O zAk O (zD 0 O) O) O<|rL1 22 O (fun g4_3=>yG O wV O) O<|rL1 23 O (fun g4_3=>yA O O O) O<|yZ O (fun h=>h)<|G O<|R<|zC O (fun c2=>?_) (fun c2=>?_)
  ·have h2:x.From=bs []/\0<x.At.length:=by simp only [Lz,Bool.and_eq_true,decide_eq_true_eq] at c2;exact ⟨c2.1,by omega⟩
   refine A O<|G O<|R<|zF<|zQ O ?_
   rw [ix2 h1 h2.1 h2.2];first|done|rfl
  ·have h2:¬(x.From=bs []/\0<x.At.length):=fun h=>by rw [show decide (x.From=⟨#[]⟩)=true from decide_eq_true h.1,decide_eq_true (show (0:Int)<(x.At.length:Int) by omega)] at c2;cases c2
   refine A O<|zH O zAg<|zM one9 (zD 0 O) O<|wF O<|G O<|R<|zC O (fun c3=>?_) (fun c3=>?_)
   ·try simp only [sx] at c3
    have h3:x.From=bs []:=c3
    refine A O<|zH O zAh<|zO kL (zD 0 O) O<|qK O ok212 (zNl x.Lin hr (by omega)) ⟨Y,O,T⟩<|G O<|R<|zF<|zQ O ?_
    rw [ix3 h1 h3 (fun h=>h2 ⟨h3,h⟩)]
   ·try simp only [sx] at c3
    have h3:¬x.From=bs []:=c3
    refine A O<|zH O zAg<|zM one9 (zD 0 O) O<|qK O ok129 (upI (zDw x.From)) ⟨Y,O,T⟩<|wA O<|G O<|rL0 O (fun g8_4=>zE O zAh O) O<|rL1 39 O (fun g8_4=>zE O zCt O) O<|rL1 40 O (fun g8_4=>zJ O r O (zD 0 O) O) O<|rL1 41 O (fun g8_4=>wU O O O) O<|r_or O (fun h=>(lzf h))<|G O<|rL0 O (fun g8_10=>zE O zAh O) O<|rL1 45 O (fun g8_10=>zE O kT O) O<|rL1 46 O (fun g8_10=>zJ O zBp O (zD 0 O) O) O<|rL1 47 O (fun g8_10=>yG O el99 O) O<|rL1 48 O (fun g8_10=>yA O O O) O<|r_or O (fun h=>(lzf h))<|G O<|R<|zC O (fun c4=>?_) (fun c4=>?_)
    ·have h4:=ixC c4
     refine A O<|G O<|R<|zF<|zQ O ?_
     rw [ix4 h1 h3 h4];first|done|rfl
    ·obtain ⟨hN,h4⟩:=ixD c4
     have hns:=zGp hN
     refine zI<|zK<|qU 11 mixed (by kernel_rfl) O O<|J O O (zE O zAg O)<|J O O (zJ O one9 O (zD 0 O) O)<|J O O (qM O O O (by (try simp only [U,W,List.size_toArray,List.length_cons,List.length_nil]);omega))<|J O O (zP O O)<|J O O (yG O el336 O)<|J O O (zP O O)<|J O O (zCn O O O O O)<|J O O (qC O ok213 (show Pur cfgI 213 [vI x.At.length,.c (.fn (.func 344) [.sl 2 (x.At.map Lf.cells)] [])] (vS (comS (x.At.map linS))) from by have h_:=prn_list (x.At.map linS) (.fn (.func 344) [.sl 2 (x.At.map Lf.cells)] []) (by rw [List.length_map];omega) (by omega) (fun k s hs=>(FnPur.of_pur (first:=[.sl 2 (x.At.map Lf.cells)]) (cap:=[]) (args:=[vI k]) ok344 (by obtain ⟨y,hy,rfl⟩:=lins_of hs;exact prn_item x.At k y hy (ha y (zY hy)) (by have:=zAd (zY hy);omega))));rw [List.length_map] at h_;exact h_) ⟨Y,O,Y,O,T⟩)<|J O O (qM O O O (by (try simp only [U,W,List.size_toArray,List.length_cons,List.length_nil]);omega))<|J O O (qM O O O (by (try simp only [U,W,List.size_toArray,List.length_cons,List.length_nil]);omega))<|J O O (qV O O)<|yO<|R<|zF<|zQ O ?_
     rw [ix5 h1 h3 h4];first|done|rfl
end Go.W
end
section
set_option maxRecDepth 10000
namespace Go.W
open Go Go.Eng Go.Proofs Go.L41 Go.Br
attribute [local irreducible] AWP RWP TD finQ
abbrev wblE (b:Nat) (p sv:Value) (s:ByteArray):List E:=[.row b 230 [.lit p,.lit sv],.vec sv 5 1 (byR s)]
theorem li230_130:liesAt Tryz.prog Tryz.prog.depth 230 (2/Tryz.prog.cellsOf 230) 0 130 1=true:=by kernel_rfl
theorem zQi (b:Nat) (sv:Value):
    Con cfg 96 [vBp b] [.row b 230 [.lit (.pointer none),.lit sv]] fun r μ'=>r=.tup []/\μ'=[.row b 230 [.lit (bldP b),.lit sv]]:=by
 refine zS Tryz.func96 O Tryz.ntmps96 Tryz.results96 O ?_
 intro z hz
 refine A O<|G O<|zT O (qB O O)<|zH O zIq<|zM one127 (zD 0 O) O<|zT O (zGx (a:=none) O O O un127)<|R<|zC O (fun c1=>?_) (fun c1=>?_)
 ·try simp only [sx] at c1
  refine zN O<|G O<|G O<|zT O (zMj 0 O O O un127 un224 nz130 (Nat.succ_pos _))<|zT O (det_extern (fn:=Tryz.f148) (ex:=Extern.AbiNoEscape.same) O O (by kernel_rfl) (by kernel_rfl) (by kernel_rfl) (by kernel_rfl) (fun v w=>Lib.run_noEscape w v) O O)<|zT O (zIv 0 O O O un224 un127 in130 li230_130)<|zT O (qB O O)<|zH O zIq<|rStR 0 sz127 O<|R ?_
  repeat (first|refine yS ?_|refine yM ?_)
  refine kZ<|fin0 ?_
  exact ⟨O,O⟩
 ·try simp only [sx] at c1
  exact absurd c1 (by simp)
theorem wbl_check_used (b:Nat) (sv:Value):
    Con cfg 96 [vBp b] [.row b 230 [.lit (bldP b),.lit sv]] fun r μ'=>r=.tup []/\μ'=[.row b 230 [.lit (bldP b),.lit sv]]:=by
 refine zS Tryz.func96 O Tryz.ntmps96 Tryz.results96 O ?_
 intro z hz
 refine A O<|G O<|zT O (qB O O)<|zH O zIq<|zM one127 (zD 0 O) O<|zT O (zGx (a:=(some ⟨b,0,none⟩)) O O O un127)<|R<|zC O (fun c1=>?_) (fun c1=>?_)
 ·try simp only [sx] at c1
  exact absurd c1 (by simp)
 ·try simp only [sx] at c1
  refine A O<|G O<|zT O (qB O O)<|zH O zIq<|zM one127 (zD 0 O) O<|G O<|zT O (zOn O O O un127 in130)<|R<|zC O (fun c2=>?_) (fun c2=>?_)
  ·try simp only [sx] at c2
   exact absurd c2 (by simp)
  ·try simp only [sx] at c2
   refine zI ?_
   repeat (first|refine yS ?_|refine yM ?_)
   refine kZ<|fin0 ?_
   exact ⟨O,O⟩
theorem wbl_check (b:Nat) (p sv:Value) (hp:p=.pointer none∨p=bldP b):Con cfg 96 [vBp b] [.row b 230 [.lit (p),.lit sv]] fun r μ'=>r=.tup []/\μ'=[.row b 230 [.lit (bldP b),.lit sv]]:=by
  rcases hp with rfl|rfl
  · exact zQi b sv
  · exact wbl_check_used b sv
theorem kX (b:Nat) (p sv:Value) (t s:ByteArray) (hnn:NN sv) (hs:t.size+s.size<=100000000000000) (hp:p=.pointer none∨p=bldP b):
    Con cfg 49 [vBp b,vS s] (wblE b p sv t) fun r μ'=>∃sv',NN sv'/\r=.tup [vI s.size,.c (.lit .nilIface)]/\μ'=wblE b (bldP b) sv' (t++s):=by
 refine zS Tryz.func49 O Tryz.ntmps49 Tryz.results49 O ?_
 intro z hz
 refine A O<|G O<|G O<|R<|A O<|G O<|zU O O (qH [0] O ok96 (wbl_check b p sv hp) ⟨Y,O,T⟩ O) ?_
 rintro _ _ ⟨_,⟨rfl,rfl⟩,rfl⟩
 refine R<|A O<|G O<|G O<|zT O (qB O O)<|zH O zCr<|zM zHk (zD 0 O) O<|G O<|zU O O (zKi 1 O zNu un9 zu5 O O O (by rw [zDo];omega) hnn) ?_
 rintro _ _ ⟨sv1,hn1,rfl,rfl⟩
 refine zT O (qB O O)<|zH O zCr<|rStR 0 sz128 O<|R<|A O<|G O<|zT O (kS O un9 O)<|G O<|G O<|R<|zF<|D (B O) (B O) ?_
 exact ⟨_,hn1,O,by show _=[E.row b 230 [.lit (bldP b),.lit _],E.vec _ 5 1 (byR (t++s))];rw [byR_app];rfl⟩
theorem wbl_String (b:Nat) (p sv:Value) (t:ByteArray) (hnn:NN sv):
    Con cfg 52 [vBp b] (wblE b p sv t) fun r μ'=>r=vS t/\∃e,μ'=[e,.vec (.slice none 0 0) 5 1 []]:=by
 refine zS Tryz.func52 O Tryz.ntmps52 Tryz.results52 O ?_
 intro z hz
 refine A O<|G O<|R<|zK<|qU 10 mixed (by kernel_rfl) O O<|J O O (zP O O)<|J O O (qB O O)<|J O O (zE O zCr O)<|J O O (zJ O zHk O (zD 0 O) O)<|J O O (det_sdata 1 O O O hnn)<|J O O (zP O O)<|J O O (qB O O)<|J O O (zE O zCr O)<|J O O (zJ O zHk O (zD 0 O) O)<|J O O (yQ 1 O zNu O O)<|yO<|zU O O (zRr (s:=t) 1 O O (congrArg (fun n=>V.c (C.lit (Value.int .i64 n))) (by rw [zDo])) O un183 ce5 hnn) ?_
 rintro _ _ ⟨rfl,rfl⟩
 refine G O<|R<|zF<|zQ O ?_
 exact ⟨O,_,O⟩
end Go.W
end
