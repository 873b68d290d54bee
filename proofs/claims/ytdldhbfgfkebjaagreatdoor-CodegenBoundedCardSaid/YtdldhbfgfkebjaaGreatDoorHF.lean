/-
  Walks: what functions of the program compute. Printed by wip/gen/mk2.py.
  Conditions: none.
-/
import Derived.Test.YtdldhbfgfkebjaaGreatDoorHE
import Derived.Test.YtdldhbfgfkebjaaGreatDoorEngV2
set_option linter.unusedSimpArgs false
set_option linter.unusedVariables false
set_option maxRecDepth 10000
namespace Go.W
open Go Go.Eng Go.Proofs Go.L41 Go.Br
attribute [local irreducible] AWP RWP TD finQ
theorem St.wt_eq (s:St):s.wt=1+s.E.wt+s.Idx.length+idxWt s.Idx+stsWt s.Body:=by cases s;rw [St.wt];rfl
theorem St.ind {P:St->Prop} (h:∀s:St,(∀a,a∈s.Body->P a)->P s) (s:St):P s:=by
  suffices h2:∀(n:Nat) (s:St),s.wt<=n->P s from h2 _ s (Nat.le_refl _)
  intro n
  induction n with
  |zero=>intro s hs;have:=St.wt_eq s;omega
  |succ n ih=>intro s hs;exact h s fun a ha=>ih a (by have:=St.wt_eq s;have:=kY ha;omega)
theorem seqC_pre {β:Type} (p:Int) (a:List (Int->List β)):∀b:List (Int->List β),∃y,seqC p (a++b)=seqC p a++y
  |[]=>⟨[],by simp⟩
  |f::r=>by
    obtain ⟨y,hy⟩:=seqC_pre p (a++[f]) r
    rw [zMd,List.append_assoc,List.singleton_append,List.append_assoc] at hy
    exact ⟨_,hy⟩
theorem zLz {g:Gn} {l:List St} {L:List ByteArray} {k:Nat} {x:St} (h:l[k]? =some x) (pre:List In):
    pre++stsC g (l.take (k+1)) L pre.length=(pre++stsC g (l.take k) L pre.length)++stC g x L (pre++stsC g (l.take k) L pre.length).length:=by
  unfold stsC;rw [seqC_next pre.length (fun s=>stC g s L) h,←List.append_assoc,lenI]
theorem sts_skip {g:Gn} {l:List St} {L:List ByteArray} {pre code:List In} (k:Nat) (h:Em (pre++stsC g (l.take k) L pre.length) code true):Em (pre++stsC g l L pre.length) code true:=by
  obtain ⟨y,hy⟩:=seqC_pre (pre.length:Int) ((l.take k).map fun s=>stC g s L) ((l.drop k).map fun s=>stC g s L)
  rw [←List.map_append,List.take_append_drop] at hy
  have e:pre++stsC g l L pre.length=(pre++stsC g (l.take k) L pre.length)++y:=by unfold stsC;rw [hy,List.append_assoc]
  rw [e];exact h.skip y
theorem unr_pre (c:Int->List In) (d p:Int) (i:Nat):∀m:Nat,∃y,unrC c d p (i+m)=unrC c d p i++y
  |0=>⟨[],by simp⟩
  |m+1=>by
    obtain ⟨y,hy⟩:=unr_pre c d p i m
    refine ⟨y++(iN 1 d ((i+m:Nat):Int) 0::c (p+(unrC c d p (i+m)).length+1)),?_⟩
    rw [←Nat.add_assoc,unrC,hy,List.append_assoc]
theorem unr_skip {c:Int->List In} {d:Int} {pre code:List In} {i n:Nat} (hi:i<=n) (h:Em (pre++unrC c d pre.length i) code true):Em (pre++unrC c d pre.length n) code true:=by
  obtain ⟨y,hy⟩:=unr_pre c d pre.length i (n-i)
  rw [show i+(n-i)=n by omega] at hy
  rw [hy,←List.append_assoc];exact h.skip y
theorem unr_next {c:Int->List In} {d:Int} {pre:List In} {i:Nat}:pre++unrC c d pre.length (i+1)=(pre++unrC c d pre.length i++[iN 1 d i 0])++c (pre++unrC c d pre.length i++[iN 1 d i 0]).length:=by
  rw [unrC,lenI,lenI,len1];simp
theorem stC_1u {g:Gn} {s:St} {L:List ByteArray} {p:Int} (h:s.Op=1) (hm:s.Mark=3):stC g s L p=unrC (stsC g s.Body (L++[s.Name])) L.length p s.Many.toNat:=by rw [stC_eq,if_pos h,if_pos hm]
theorem stC_1 {g:Gn} {s:St} {L:List ByteArray} {p:Int} (h:s.Op=1) (hm:¬s.Mark=3):stC g s L p=forC (stsC g s.Body (L++[s.Name])) L.length p s.Many:=by rw [stC_eq,if_pos h,if_neg hm]
theorem stC_4 {g:Gn} {s:St} {L:List ByteArray} {p:Int} (h:s.Op=4):stC g s L p=iffC (tstC g L s.E p 0 120) (stsC g s.Body L) p:=by rw [stC_eq,if_neg (by omega),if_pos h]
theorem stC_s {g:Gn} {s:St} {L:List ByteArray} {p:Int} (h:s.Op=2∨s.Op=3):stC g s L p=stoC g L s p:=by rw [stC_eq,if_neg (by omega),if_neg (by omega)]
def SW (b:Nat) (g:Gn) (l:List St):Prop:=∀(sv sl:Value) (code:List In) (full:Bool) (L:List ByteArray) (pre:List In),Em pre code full->RdSs g l L->L.length+stsWt l<=900000->Con cfg 29 [vPt b,vSts l] (genE b sv sl code full g L) fun r μ'=>r=.tup []/\∃sv' code' full' sl',Em (pre++stsC g l L pre.length) code' full'/\μ'=genE b sv' sl' code' full' g L
theorem ok29:callOk Tryz.prog 29=true:=by kernel_rfl
theorem ok62:callOk Tryz.prog 62=true:=by kernel_rfl
theorem ok64:callOk Tryz.prog 64=true:=by kernel_rfl
theorem ok65:callOk Tryz.prog 65=true:=by kernel_rfl
theorem ok117:callOk Tryz.prog 117=true:=by kernel_rfl
theorem ok118:callOk Tryz.prog 118=true:=by kernel_rfl
theorem zHy:oneT Tryz.prog 75=true:=by kernel_rfl
set_option maxHeartbeats 4000000 in
theorem cg_store (b:Nat) (sv sl:Value) (code:List In) (full:Bool) (g:Gn) (L:List ByteArray) (pre:List In) (hE:Em pre code full) (hL:L.length<=1000000) (hg:g.Ok) (s:St) (hr:RdS g s L) (ho:s.Op=2∨s.Op=3) (hw:s.wt<=900000):
    Con cfg 64 [vPt b,vSt s] (genE b sv sl code full g L) fun r μ'=>r=.tup []/\∃sv' code' full' sl',Em (pre++stoC g L s pre.length) code' full'/\μ'=genE b sv' sl' code' full' g L:=by
 refine zW Tryz.func64 O Tryz.ntmps64 Tryz.results64 O ?_
 intro z hz
 have hwt:=St.wt_eq s
 rw [RdS_eq] at hr
 obtain ⟨hrv,hcv,hrd⟩:=hr.2.2.1 ho
 obtain ⟨q1,q2,q3⟩:=hrd.read rfl
 refine R O<|zU O O (qT O O) ?_
 rintro _ _ ⟨b1,rfl,rfl⟩
 refine qS _ (qK 0 O 3 _ PLe.ptr)<|zA<|R O<|G O<|zZ O zGa<|zL one9 Y O<|v O (yD [0,0,0] O ok60 (cg_find b sv sl code full g L s.Name hg) ⟨zB,O,zB,O,T⟩ O)<|zU O O (qR [none,none,none,none,none,none,some 1,none,none,none,some 1] O zr118 O) ?_
 rintro _ _ ⟨b2,rfl,rfl⟩
 refine D 0 sz118 O<|qS _ (qK 0 O 4 _ PLe.ptr)<|zA<|R O<|G O<|zZ O zEy<|zP kC Y O<|zU O O (zT [0,0,0] O ok114 ((cg_vt b sl g L hL hg s.E).1 sv code full pre 0 120 hE hrv hcv (by omega) (by omega) (by omega) (by omega)) ⟨zB,O,zB,O,zB,O,zB,O,T⟩ O) ?_
 rintro _ _ ⟨_,⟨rfl,sv1,cd1,fu1,hE1,rfl⟩,rfl⟩
 refine qV (μ':=genE b sv1 sl cd1 fu1 g L) O<|zA<|R O<|G O<|zP agg118 Y O<|zZ O zOf<|zL zCa Y O<|zU O O (zT [0,0,0] O ok115 (cg_address b sv1 sl cd1 fu1 g L (pre++valC g L s.E pre.length 0 120) hE1 hL s.Name s.Idx hg q1 q2 q3 (by omega)) ⟨zB,O,zB,O,zB,O,T⟩ O) ?_
 rintro _ _ ⟨_,⟨rfl,sv2,cd2,fu2,hE2,rfl⟩,rfl⟩
 refine qV (μ':=genE b sv2 sl cd2 fu2 g L) O<|zA<|R O<|G O<|zA<|zF<|R O<|zZ O zEz<|zL one3 Y O<|yO O<|zA<|zC O (fun c1=>?_) (fun c1=>?_)
 ·try simp only [sx] at c1
  refine R O<|G O<|zA<|zF<|qU 7 mixed (by kernel_rfl) O O<|zE O O (zG O O)<|zE O O (qF O O)<|zE O O (zJ O yQ O)<|zE O O (qA O zDt O)<|zE O O (zD O one3 O Y O)<|zE O O (qA O zGe O)<|zE O O (zD O one3 O Y O)<|yM<|zU O O (zT [0,0,0] O ok63 (zCj b sv2 sl cd2 fu2 g L (pre++valC g L s.E pre.length 0 120++adrC g L s.Name s.Idx) hE2 (10) (1) (100) (g.bs_ s.Name) (g.en s.Name)) ⟨zB,O,zB,O,zB,O,zB,O,zB,O,zB,O,T⟩ O) ?_
  rintro _ _ ⟨_,⟨rfl,sv3,cd3,fu3,hE3,rfl⟩,rfl⟩
  refine qV (μ':=genE b sv3 sl cd3 fu3 g L) O<|zA<|qU 7 mixed (by kernel_rfl) O O<|zE O O (zG O O)<|zE O O (qA O fd59_4 O)<|zE O O (zD O one3 O Y O)<|zE O O (qY O ok117 (cg_operator s.Fold) ⟨zB,O,T⟩)<|zE O O (qA O zKm O)<|zE O O (qA O zOe O)<|zE O O (qG O yP O Y O)<|yM<|zU O O (zT [0,0,0] O ok116 (cg_op b sv3 sl cd3 fu3 g L (pre++valC g L s.E pre.length 0 120++adrC g L s.Name s.Idx++[iA 10 1 100 (g.bs_ s.Name) (g.en s.Name)]) hE3 (12) (oprI s.Fold) (1) (1) (0) ((bufD g.n.Bufs s.Name).T) _ (fun _=>O)) ⟨zB,O,zB,O,zB,O,zB,O,zB,O,zB,O,zB,O,T⟩ O) ?_
  rintro _ _ ⟨_,⟨rfl,sv4,cd4,fu4,hE4,rfl⟩,rfl⟩
  refine qV (μ':=genE b sv4 sl cd4 fu4 g L) O<|zA<|qU 8 mixed (by kernel_rfl) O O<|zE O O (zG O O)<|zE O O (qF O O)<|zE O O (zJ O yQ O)<|zE O O (zG O O)<|zE O O (qA O zDt O)<|zE O O (zD O one3 O Y O)<|zE O O (qA O zGe O)<|zE O O (zD O one3 O Y O)<|yM<|zU O O (zT [0,0,0] O ok63 (zCj b sv4 sl cd4 fu4 g L (pre++valC g L s.E pre.length 0 120++adrC g L s.Name s.Idx++[iA 10 1 100 (g.bs_ s.Name) (g.en s.Name)]++[iO 12 (oprI s.Fold) 1 1 0 (bufD g.n.Bufs s.Name).T]) hE4 (11) (1) (100) (g.bs_ s.Name) (g.en s.Name)) ⟨zB,O,zB,O,zB,O,zB,O,zB,O,zB,O,T⟩ O) ?_
  rintro _ _ ⟨_,⟨rfl,sv5,cd5,fu5,hE5,rfl⟩,rfl⟩
  refine qV (μ':=genE b sv5 sl cd5 fu5 g L) O<|zA ?_
  repeat (first|refine qO ?_|refine qN ?_)
  refine yC<|U ?_
  refine ⟨O,sv5,cd5,fu5,sl,?_,O⟩
  unfold stoC
  rw [if_pos c1]
  have h9:=hE5
  simp only [List.append_assoc,List.cons_append,List.nil_append,List.append_nil] at h9⊢
  exact h9
 ·try simp only [sx] at c1
  refine zH<|qU 8 mixed (by kernel_rfl) O O<|zE O O (zG O O)<|zE O O (qF O O)<|zE O O (zJ O yQ O)<|zE O O (zG O O)<|zE O O (qA O zDt O)<|zE O O (zD O one3 O Y O)<|zE O O (qA O zGe O)<|zE O O (zD O one3 O Y O)<|yM<|zU O O (zT [0,0,0] O ok63 (zCj b sv2 sl cd2 fu2 g L (pre++valC g L s.E pre.length 0 120++adrC g L s.Name s.Idx) hE2 (11) (0) (100) (g.bs_ s.Name) (g.en s.Name)) ⟨zB,O,zB,O,zB,O,zB,O,zB,O,zB,O,T⟩ O) ?_
  rintro _ _ ⟨_,⟨rfl,sv5,cd5,fu5,hE5,rfl⟩,rfl⟩
  refine qV (μ':=genE b sv5 sl cd5 fu5 g L) O<|zA ?_
  repeat (first|refine qO ?_|refine qN ?_)
  refine yC<|U ?_
  refine ⟨O,sv5,cd5,fu5,sl,?_,O⟩
  unfold stoC
  rw [if_neg c1]
  have h9:=hE5
  simp only [List.append_assoc,List.cons_append,List.nil_append,List.append_nil] at h9⊢
  exact h9
set_option maxHeartbeats 4000000 in
theorem cg_clear (b:Nat) (sv sl:Value) (code:List In) (full:Bool) (g:Gn) (L:List ByteArray) (pre:List In) (hE:Em pre code full) (s:ByteArray) (hg:g.Ok):
    Con cfg 28 [vPt b,vS s] (genE b sv sl code full g L) fun r μ'=>r=.tup []/\∃sv' code' full',Em (pre++clrC g s pre.length) code' full'/\μ'=genE b sv' sl code' full' g L:=by
 refine zW Tryz.func28 O Tryz.ntmps28 Tryz.results28 O ?_
 intro z hz
 refine R O<|G O<|G O<|v O (yD [0,0,0] O ok60 (cg_find b sv sl code full g L s hg) ⟨zB,O,zB,O,T⟩ O)<|zU O O (qR [none,none,none,none,none,none,some 1,none,none,none,some 1] O zr118 O) ?_
 rintro _ _ ⟨b1,rfl,rfl⟩
 refine D 0 sz118 O<|qS _ (qK 0 O 4 _ PLe.ptr)<|zA<|R O<|G O<|qE O<|zN O yQ<|v O (yB O zr44 pl44 O)<|v O (yB O zr46 pl46 O)<|zU O O (zT [0,0,0] O ok30 (zKw b sv sl code full g L (pre) hE (⟨9,0,0,0,⟨0,1⟩,zTy⟩) _ (fun _=>O)) ⟨zB,O,zB,O,T⟩ O) ?_
 rintro _ _ ⟨_,⟨rfl,sv1,cd1,fu1,hE1,rfl⟩,rfl⟩
 refine qV (μ':=genE b sv1 sl cd1 fu1 g L) O<|zA<|zF<|qU 5 mixed (by kernel_rfl) O O<|zE O O (zG O O)<|zE O O (qF O O)<|zE O O (zJ O yQ O)<|zE O O (qA O zDt O)<|zE O O (zD O one3 O Y O)<|yM<|zU O O (zT [0,0,0] O W (yZ b sv1 sl cd1 fu1 g L (pre++[⟨9,0,0,0,⟨0,1⟩,zTy⟩]) hE1 (1) (100) (g.bs_ s) (0) _ (fun _=>O)) ⟨zB,O,zB,O,zB,O,zB,O,zB,O,T⟩ O) ?_
 rintro _ _ ⟨_,⟨rfl,sv2,cd2,fu2,hE2,rfl⟩,rfl⟩
 refine qV (μ':=genE b sv2 sl cd2 fu2 g L) O<|zA<|R O<|G O<|qE O<|zN O yQ<|v O (yD [0,0,0] O ok62 (cg_here b sv2 sl cd2 fu2 g L) ⟨zB,O,T⟩ O)<|G O<|zA<|zF<|qU 7 mixed (by kernel_rfl) O O<|zE O O (zG O O)<|zE O O (qF O O)<|zE O O (zJ O yQ O)<|zE O O (qA O zDt O)<|zE O O (zD O one3 O Y O)<|zE O O (qA O zGe O)<|zE O O (zD O one3 O Y O)<|yM<|zU O O (zT [0,0,0] O ok63 (zCj b sv2 sl cd2 fu2 g L (pre++[⟨9,0,0,0,⟨0,1⟩,zTy⟩]++[iN 1 100 (g.bs_ s) 0]) hE2 (11) (0) (100) (g.bs_ s) (g.en s)) ⟨zB,O,zB,O,zB,O,zB,O,zB,O,zB,O,T⟩ O) ?_
 rintro _ _ ⟨_,⟨rfl,sv3,cd3,fu3,hE3,rfl⟩,rfl⟩
 refine qV (μ':=genE b sv3 sl cd3 fu3 g L) O<|zA<|R O<|G O<|qE O<|zN O yQ<|zU O O (zT [0,0,0] O W (yZ b sv3 sl cd3 fu3 g L (pre++[⟨9,0,0,0,⟨0,1⟩,zTy⟩]++[iN 1 100 (g.bs_ s) 0]++[iA 11 0 100 (g.bs_ s) (g.en s)]) hE3 (1) (101) (1) (0) _ (fun _=>O)) ⟨zB,O,zB,O,zB,O,zB,O,zB,O,T⟩ O) ?_
 rintro _ _ ⟨_,⟨rfl,sv4,cd4,fu4,hE4,rfl⟩,rfl⟩
 refine qV (μ':=genE b sv4 sl cd4 fu4 g L) O<|zA<|R O<|G O<|qE O<|zN O yQ<|zU O O (zT [0,0,0] O W (yZ b sv4 sl cd4 fu4 g L (pre++[⟨9,0,0,0,⟨0,1⟩,zTy⟩]++[iN 1 100 (g.bs_ s) 0]++[iA 11 0 100 (g.bs_ s) (g.en s)]++[iN 1 101 1 0]) hE4 (3) (100) (100) (101) _ (fun _=>O)) ⟨zB,O,zB,O,zB,O,zB,O,zB,O,T⟩ O) ?_
 rintro _ _ ⟨_,⟨rfl,sv5,cd5,fu5,hE5,rfl⟩,rfl⟩
 refine qV (μ':=genE b sv5 sl cd5 fu5 g L) O<|zA<|zF<|qU 5 mixed (by kernel_rfl) O O<|zE O O (zG O O)<|zE O O (qF O O)<|zE O O (zJ O yQ O)<|zE O O (qA O zGe O)<|zE O O (zD O one3 O Y O)<|yM<|zU O O (zT [0,0,0] O W (yZ b sv5 sl cd5 fu5 g L (pre++[⟨9,0,0,0,⟨0,1⟩,zTy⟩]++[iN 1 100 (g.bs_ s) 0]++[iA 11 0 100 (g.bs_ s) (g.en s)]++[iN 1 101 1 0]++[iN 3 100 100 101]) hE5 (1) (102) (g.en s) (0) _ (fun _=>O)) ⟨zB,O,zB,O,zB,O,zB,O,zB,O,T⟩ O) ?_
 rintro _ _ ⟨_,⟨rfl,sv6,cd6,fu6,hE6,rfl⟩,rfl⟩
 refine qV (μ':=genE b sv6 sl cd6 fu6 g L) O<|zA<|zI O<|G O<|qE O<|zN O yQ<|G O<|zU O O (zT [0,0,0] O W (yZ b sv6 sl cd6 fu6 g L (pre++[⟨9,0,0,0,⟨0,1⟩,zTy⟩]++[iN 1 100 (g.bs_ s) 0]++[iA 11 0 100 (g.bs_ s) (g.en s)]++[iN 1 101 1 0]++[iN 3 100 100 101]++[iN 1 102 (g.en s) 0]) hE6 (8) (cd2.length) (100) (102) (iN 8 (pre.length+2) 100 102) (fun h9=>by have h8:=hE2.hr;simp only [List.length_append,List.length_cons,List.length_nil] at h9 h8;rw [h8,hr_in (by omega)];rfl)) ⟨zB,O,zB,O,zB,O,zB,O,zB,O,T⟩ O) ?_
 rintro _ _ ⟨_,⟨rfl,sv7,cd7,fu7,hE7,rfl⟩,rfl⟩
 refine qV (μ':=genE b sv7 sl cd7 fu7 g L) O<|zA ?_
 repeat (first|refine qO ?_|refine qN ?_)
 refine yC<|U ?_
 refine ⟨O,sv7,cd7,fu7,?_,O⟩
 unfold clrC rptC
 have h9:=hE7
 simp only [List.append_assoc,List.cons_append,List.nil_append,List.append_nil] at h9⊢
 exact h9
theorem cg_loop_1 (b:Nat) (sv sl:Value) (code:List In) (full:Bool) (g:Gn) (L:List ByteArray) (M:List ByteArray):
    ConD cfg 118 [.c (.iptr [.lit (.pointer (some ⟨b,0,none⟩))]),.c (.iptr [cI L.length])] (genE b sv sl code full g (L++M)) (fun μ'=>∃sl',μ'=genE b sv sl' code full g L):=by
 refine conD_intro Tryz.func118 O Tryz.ntmps118 Tryz.results118 O ?_
 intro z
 refine yN 7 0 [⟨0,.q []⟩,⟨1,.q []⟩,⟨2,.q []⟩,⟨3,.q []⟩,⟨4,.q [0]⟩,⟨5,.q []⟩,⟨6,.e 2 []⟩] mixed (by kernel_rfl) (by kernel_rfl) O O O<|N O<|N O<|N O<|N O<|N O<|N O<|N O<|wX<|J O (by decide) O O (zD O zHy O Y O)<|J O (by decide) O O (zD O zHy O Y O)<|J O (by decide) O O (qF O O)<|J O (by decide) O O (zJ O fd80_4 O)<|J O (by decide) O O (zD O zHx O (A 0 O) O)<|J O (by decide) O O (zD O one3 O Y O)<|zIm O O (by decide) O O (zCv (k:=L.length) 0 O el78 O O O O (by simp)) ?_
 rintro _ _ ⟨sv1,rfl,rfl⟩
 refine ⟨_,O,?_⟩
 refine wV O<|qE O<|zN O fd80_4<|D 0 sz78 O<|zA ?_
 refine ⟨.inl O,?_⟩
 have e9:List.take L.length (List.map (fun s=>[cS s]) (L++M))=L.map (fun s=>[cS s]):=by rw [List.map_append,List.take_left' (by simp)]
 exact ⟨sv1,congrArg (fun q=>[E.row b 80 [.lit sv,.lit (.bool full),.sl 8 (g.n.Bufs.map Bf.cells),.sl 20 (g.n.Body.map St.cells),.sl 5 (g.ty.map tyC),.sl 3 (g.sl.map Sl.cells),.lit sv1],E.vec sv 46 11 (code.map In.cells),E.vec sv1 9 1 q]) e9⟩
set_option maxHeartbeats 4000000 in
theorem cg_loop (b:Nat) (sv sl:Value) (code:List In) (full:Bool) (g:Gn) (L:List ByteArray) (pre:List In) (hE:Em pre code full) (hg:g.Ok) (s:St) (hr:RdS g s L) (ho:s.Op=1) (hw:L.length+s.wt<=900000) (ih:SW b g s.Body):
    Con cfg 65 [vPt b,vSt s] (genE b sv sl code full g L) fun r μ'=>r=.tup []/\∃sv' code' full' sl',Em (pre++stC g s L pre.length) code' full'/\μ'=genE b sv' sl' code' full' g L:=by
 refine con_introD Tryz.func65 O Tryz.ntmps65 O ?_
 intro z hx
 have hz:=hx.1
 have hwt:=St.wt_eq s
 rw [RdS_eq] at hr
 obtain ⟨hm,hrb⟩:=hr.1 ho
 have hLn:(L++[s.Name]).length=L.length+1:=by simp
 refine xSeq hx<|zI O<|zU O O (qT O O) ?_
 rintro _ _ ⟨b1,rfl,rfl⟩
 refine qS _ (qK 0 O 2 _ PLe.ptr)<|zU O O (qT O O) ?_
 rintro _ _ ⟨b2,rfl,rfl⟩
 refine qS _ (qK 0 O 3 _ PLe.ptr)<|zA<|xSeq hx<|zI O<|zL zHy Y O<|qE O<|zN O fd80_4<|zL zHx (A 0 O) O<|v O (yJ 2 O el78 O O)<|zU O O (yX O zr3) ?_
 rintro _ _ ⟨b3,rfl,rfl⟩
 refine D 0 sz3 O<|qS _ (qK 0 O 4 _ PLe.ptr)<|zA<|xSeq hx ?_
 rw [List.length_map]
 refine yN 9 0 [⟨0,.q []⟩,⟨1,.q []⟩,⟨2,.q []⟩,⟨3,.q []⟩,⟨4,.q [0]⟩,⟨5,.q []⟩,⟨6,.q []⟩,⟨7,.q []⟩,⟨8,.e 2 []⟩] mixed (by kernel_rfl) (by kernel_rfl) O O O<|N O<|N O<|N O<|N O<|N O<|N O<|N O<|N O<|N O<|wX<|J O (by decide) O O (zD O zHy O Y O)<|J O (by decide) O O (zD O zHy O Y O)<|J O (by decide) O O (qF O O)<|J O (by decide) O O (zJ O fd80_4 O)<|J O (by decide) O O (zD O zHx O (A 0 O) O)<|J O (by decide) O O (qA O zGa O)<|J O (by decide) O O (zD O one9 O Y O)<|J O (by decide) O O (kF O el78 zr9 O O O O)<|zIm O O (by decide) O O (kL 0 O el78 O O O (by simp only [List.length_map,List.length_cons,List.length_nil];omega) (by simp only [List.length_map,List.length_cons,List.length_nil];omega)) ?_
 rintro _ _ ⟨sv4,rfl,rfl⟩
 refine ⟨_,O,?_⟩
 refine wV O<|qE O<|zN O fd80_4<|D 0 sz78 O<|zA<|xDefer hx Tryz.results65 (by decide) O O (zDk O O O O O) O O O ok118 ?_
 intro z hz
 refine zF<|zF<|zS _ (Weak.vecEq 2 O (rows':=(L++[s.Name]).map fun s=>[cS s]) (by first|rfl|simp|rw [List.take_of_length_le (by simp)]))<|zI O<|zZ O fd59_3<|zL one3 Y O<|yO O<|zA<|zC O (fun c1=>?_) (fun c1=>?_)
 ·try simp only [sx] at c1
  refine zF<|R O<|G O<|zA<|zQ<|zS ⟨[(5,.c _),(2,.c _),(3,.c _),(4,.c _)],[_,_,_]⟩ (Weak.mk [true,true,true] ⟨zB,zB,zB,zB,T⟩ O)<|qJ 1 3 O O (Nat×Value×Value×List In×Bool) (fun ⟨i,sw,lw,cw,fw⟩=>[(5,vI i)]) (fun ⟨i,sw,lw,cw,fw⟩=>[E.row b 80 [.lit sw,.lit (.bool fw),.sl 8 (g.n.Bufs.map Bf.cells),.sl 20 (g.n.Body.map St.cells),.sl 5 (g.ty.map tyC),.sl 3 (g.sl.map Sl.cells),.lit lw],E.vec sw 46 11 (cw.map In.cells),E.vec lw 9 1 ((L++[s.Name]).map fun s=>[cS s])]) (fun ⟨i,sw,lw,cw,fw⟩=>i<=s.Many.toNat/\Em (pre++unrC (stsC g s.Body (L++[s.Name])) L.length pre.length i) cw fw) (fun ⟨i,sw,lw,cw,fw⟩=>s.Many.toNat-i) ⟨⟨0,sv,sv4,code,full⟩,⟨by omega,by simpa [unrC] using hE⟩,Weak.mk [true,true,true] ⟨zB,zB,zB,zB,T⟩ O⟩ ?_
  rintro ⟨i,sw,lw,cw,fw⟩ ⟨hi,hq⟩
  refine zF<|R O<|G O<|zZ O fd59_2<|zL one3 Y O<|yE O<|G O<|rL0 O (fun g6_4=>zD O zHy O Y O) O<|B 32 O (fun g6_4=>qF O O) O<|B 33 O (fun g6_4=>zJ O yQ O) O<|B 34 O (fun g6_4=>zJ O zOd O) O<|B 35 O (fun g6_4=>zD O one4 O (A 0 O) O) O<|B 36 O (fun g6_4=>wR O O) O<|kE O (fun h=>h)<|zA<|zC O (fun c2=>?_) (fun c2=>?_)
  ·try simp only [sx] at c2
   refine zH<|zF<|zQ<|zF<|qU 5 mixed (by kernel_rfl) O O<|zE O O (zD O zHy O Y O)<|zE O O (qF O O)<|zE O O (zJ O yQ O)<|zE O O (zD O one3 O Y O)<|zE O O (zG O O)<|yM<|zU O O (zT [0,0,0] O W (yZ b sw lw cw fw g (L++[s.Name]) (pre++unrC (stsC g s.Body (L++[s.Name])) L.length pre.length i) hq (1) (L.length) (i) (0) _ (fun _=>O)) ⟨zB,O,zB,O,zB,O,zB,O,zB,O,T⟩ O) ?_
   rintro _ _ ⟨_,⟨rfl,sv21,cd21,fu21,hE21,rfl⟩,rfl⟩
   refine qV (μ':=genE b sv21 lw cd21 fu21 g (L++[s.Name])) O<|zA<|zI O<|zL zHy Y O<|zZ O zDx<|zL zDa Y O<|zU O O (zT [0,0,0] O ok29 (ih sv21 lw cd21 fu21 (L++[s.Name]) (pre++unrC (stsC g s.Body (L++[s.Name])) L.length pre.length i++[iN 1 L.length i 0]) hE21 hrb (by omega)) ⟨zB,O,zB,O,T⟩ O) ?_
   rintro _ _ ⟨_,⟨rfl,sv22,cd22,fu22,sl22,hE22,rfl⟩,rfl⟩
   refine qV (μ':=genE b sv22 sl22 cd22 fu22 g (L++[s.Name])) O<|zA<|zI O<|G O<|qD O ⟨by omega,by omega⟩<|G O<|zA ?_
   refine ⟨⟨i+1,sv22,sl22,cd22,fu22⟩,⟨by omega,by rw [unr_next];exact hE22⟩,(by show s.Many.toNat-(i+1)<s.Many.toNat-i;omega),Weak.mk [true,true,true] ⟨zB,zB,zB,zB,T⟩ O⟩
  ·try simp only [sx] at c2
   refine qL<|zM<|U<|ConD.mono (cg_loop_1 b _ _ _ _ g L [s.Name]) ?_
   rintro _ ⟨sl',rfl⟩
   refine ⟨sw,cw,fw,sl',?_,O⟩
   rw [stC_1u ho c1]
   by_cases c9:fw=true
   · rw [c9] at hq⊢;exact unr_skip hi hq
   · have e9:i=s.Many.toNat:=by simp only [c9] at c2;simp at c2;omega
     rw [←e9];exact hq
 ·try simp only [sx] at c1
  refine zH<|zF<|qU 4 mixed (by kernel_rfl) O O<|zE O O (zD O zHy O Y O)<|zE O O (qF O O)<|zE O O (zJ O yQ O)<|zE O O (zD O one3 O Y O)<|yM<|zU O O (zT [0,0,0] O W (yZ b sv sv4 code full g (L++[s.Name]) (pre) hE (1) (L.length) (0) (0) _ (fun _=>O)) ⟨zB,O,zB,O,zB,O,zB,O,zB,O,T⟩ O) ?_
  rintro _ _ ⟨_,⟨rfl,sv21,cd21,fu21,hE21,rfl⟩,rfl⟩
  refine qV (μ':=genE b sv21 sv4 cd21 fu21 g (L++[s.Name])) O<|zA<|R O<|zL zHy Y O<|qE O<|zN O yQ<|v O (yD [0,0,0] O ok62 (cg_here b sv21 sv4 cd21 fu21 g (L++[s.Name])) ⟨zB,O,T⟩ O)<|G O<|zA<|R O<|zL zHy Y O<|zZ O zDx<|zL zDa Y O<|zU O O (zT [0,0,0] O ok29 (ih sv21 sv4 cd21 fu21 (L++[s.Name]) (pre++[iN 1 L.length 0 0]) hE21 hrb (by omega)) ⟨zB,O,zB,O,T⟩ O) ?_
  rintro _ _ ⟨_,⟨rfl,sv22,cd22,fu22,sl22,hE22,rfl⟩,rfl⟩
  refine qV (μ':=genE b sv22 sl22 cd22 fu22 g (L++[s.Name])) O<|zA<|R O<|zL zHy Y O<|qE O<|zN O yQ<|zU O O (zT [0,0,0] O W (yZ b sv22 sl22 cd22 fu22 g (L++[s.Name]) (pre++[iN 1 L.length 0 0]++stsC g s.Body (L++[s.Name]) (pre++[iN 1 L.length 0 0]).length) hE22 (1) (101) (1) (0) _ (fun _=>O)) ⟨zB,O,zB,O,zB,O,zB,O,zB,O,T⟩ O) ?_
  rintro _ _ ⟨_,⟨rfl,sv23,cd23,fu23,hE23,rfl⟩,rfl⟩
  refine qV (μ':=genE b sv23 sl22 cd23 fu23 g (L++[s.Name])) O<|zA<|zF<|qU 5 mixed (by kernel_rfl) O O<|zE O O (zD O zHy O Y O)<|zE O O (qF O O)<|zE O O (zJ O yQ O)<|zE O O (zD O one3 O Y O)<|zE O O (zD O one3 O Y O)<|yM<|zU O O (zT [0,0,0] O W (yZ b sv23 sl22 cd23 fu23 g (L++[s.Name]) (pre++[iN 1 L.length 0 0]++stsC g s.Body (L++[s.Name]) (pre++[iN 1 L.length 0 0]).length++[iN 1 101 1 0]) hE23 (3) (L.length) (L.length) (101) _ (fun _=>O)) ⟨zB,O,zB,O,zB,O,zB,O,zB,O,T⟩ O) ?_
  rintro _ _ ⟨_,⟨rfl,sv24,cd24,fu24,hE24,rfl⟩,rfl⟩
  refine qV (μ':=genE b sv24 sl22 cd24 fu24 g (L++[s.Name])) O<|zA<|zF<|qU 5 mixed (by kernel_rfl) O O<|zE O O (zD O zHy O Y O)<|zE O O (qF O O)<|zE O O (zJ O yQ O)<|zE O O (qA O fd59_2 O)<|zE O O (zD O one3 O Y O)<|yM<|zU O O (zT [0,0,0] O W (yZ b sv24 sl22 cd24 fu24 g (L++[s.Name]) (pre++[iN 1 L.length 0 0]++stsC g s.Body (L++[s.Name]) (pre++[iN 1 L.length 0 0]).length++[iN 1 101 1 0]++[iN 3 L.length L.length 101]) hE24 (1) (102) (s.Many) (0) _ (fun _=>O)) ⟨zB,O,zB,O,zB,O,zB,O,zB,O,T⟩ O) ?_
  rintro _ _ ⟨_,⟨rfl,sv25,cd25,fu25,hE25,rfl⟩,rfl⟩
  refine qV (μ':=genE b sv25 sl22 cd25 fu25 g (L++[s.Name])) O<|zA<|qU 5 mixed (by kernel_rfl) O O<|zE O O (zD O zHy O Y O)<|zE O O (qF O O)<|zE O O (zJ O yQ O)<|zE O O (zG O O)<|zE O O (zD O one3 O Y O)<|yM<|zU O O (zT [0,0,0] O W (yZ b sv25 sl22 cd25 fu25 g (L++[s.Name]) (pre++[iN 1 L.length 0 0]++stsC g s.Body (L++[s.Name]) (pre++[iN 1 L.length 0 0]).length++[iN 1 101 1 0]++[iN 3 L.length L.length 101]++[iN 1 102 s.Many 0]) hE25 (8) (cd21.length) (L.length) (102) (iN 8 (pre.length+1) L.length 102) (fun h9=>by have h8:=hE21.hr;simp only [List.length_append,List.length_cons,List.length_nil] at h9 h8;rw [h8,hr_in (by omega)];rfl)) ⟨zB,O,zB,O,zB,O,zB,O,zB,O,T⟩ O) ?_
  rintro _ _ ⟨_,⟨rfl,sv26,cd26,fu26,hE26,rfl⟩,rfl⟩
  refine qV (μ':=genE b sv26 sl22 cd26 fu26 g (L++[s.Name])) O<|zA ?_
  repeat (first|refine qO ?_|refine qN ?_)
  refine yC<|U ?_
  refine ConD.mono (cg_loop_1 b _ _ _ _ g L [s.Name]) ?_
  rintro _ ⟨sl',rfl⟩
  refine ⟨sv26,cd26,fu26,sl',?_,O⟩
  rw [stC_1 ho c1]
  unfold forC rptC
  have h9:=hE26
  simp only [lenI,len1,List.append_assoc,List.cons_append,List.nil_append,List.append_nil] at h9⊢
  exact h9
set_option maxHeartbeats 4000000 in
theorem zJr (b:Nat) (sv sl:Value) (code:List In) (full:Bool) (g:Gn) (L:List ByteArray) (pre:List In) (hE:Em pre code full) (hg:g.Ok) (l:List St) (hr:RdSs g l L) (hw:L.length+stsWt l<=900000) (ih:∀x,x∈l->SW b g x.Body):
    Con cfg 29 [vPt b,vSts l] (genE b sv sl code full g L) fun r μ'=>r=.tup []/\∃sv' code' full' sl',Em (pre++stsC g l L pre.length) code' full'/\μ'=genE b sv' sl' code' full' g L:=by
 refine zW Tryz.func29 O Tryz.ntmps29 Tryz.results29 O ?_
 intro z hz
 have hll:=wT l
 refine R O<|G O<|qH O el23<|G O<|zA<|zQ<|zS ⟨[(9,.c _),(0,.c _),(7,.c _),(8,.c _)],[_,_,_]⟩ (Weak.mk [true,true,true] ⟨zB,zB,zB,zB,T⟩ O)<|qJ 1 3 O O (Nat×Value×Value×List In×Bool) (fun ⟨k,sw,lw,cw,fw⟩=>[(9,vI k)]) (fun ⟨k,sw,lw,cw,fw⟩=>[E.row b 80 [.lit sw,.lit (.bool fw),.sl 8 (g.n.Bufs.map Bf.cells),.sl 20 (g.n.Body.map St.cells),.sl 5 (g.ty.map tyC),.sl 3 (g.sl.map Sl.cells),.lit lw],E.vec sw 46 11 (cw.map In.cells),E.vec lw 9 1 (L.map fun s=>[cS s])]) (fun ⟨k,sw,lw,cw,fw⟩=>k<=l.length/\(Em (pre++stsC g (l.take k) L pre.length) cw fw)) (fun ⟨k,sw,lw,cw,fw⟩=>l.length-k) ⟨⟨0,sv,sl,code,full⟩,⟨by omega,(by simpa [stsC,seqC] using hE)⟩,Weak.mk [true,true,true] ⟨zB,zB,zB,zB,T⟩ O⟩ ?_
 rintro ⟨k,sw,lw,cw,fw⟩ ⟨hk,hq⟩
 show AWP _ _ _ _ _ ⟨[(9,vI k)]++_,[E.row b 80 [.lit sw,.lit (.bool fw),.sl 8 (g.n.Bufs.map Bf.cells),.sl 20 (g.n.Body.map St.cells),.sl 5 (g.ty.map tyC),.sl 3 (g.sl.map Sl.cells),.lit lw],E.vec sw 46 11 (cw.map In.cells),E.vec lw 9 1 (L.map fun s=>[cS s])]++_⟩
 refine R O<|yE O<|zA<|zF<|zC O (fun c1=>?_) (fun c1=>?_)
 ·try simp only [sx] at c1
  obtain ⟨x,hx⟩:=qX l k (by omega)
  have hxw:=kY (qB hx)
  have hxe:=St.wt_eq x
  have hxr:=zJx hr (qB hx)
  have hxq:=hxr
  rw [RdS_eq] at hxq
  refine zH<|zF<|zQ<|R O<|qI O el23 (by omega) (zLv (by assumption))<|zP zHc Y O<|zU O O (qR [none,none,none,none,none,some 4,none,none,none,none,none,none,none,none,none,none,some 2,some 4,some 13,some 20] O zr59 O) ?_
  rintro _ _ ⟨b1,rfl,rfl⟩
  refine D 0 sz59 O<|qS _ (qK 0 O 5 _ PLe.ptr)<|zA<|zF<|R O<|G O<|qE O<|zN O yQ<|zN O zOd<|zL one4 (A 0 O) O<|zA<|zC O (fun c2=>?_) (fun c2=>?_)
  ·try simp only [sx] at c2
   refine zM<|U ?_
   have hfl:fw=true:=by simpa using c2
   subst hfl
   exact ⟨O,sw,cw,true,lw,sts_skip k hq,O⟩
  ·try simp only [sx] at c2
   refine zH<|R O<|zZ O zEz<|zL one3 Y O<|zA<|zQ<|zF<|R O<|yO O<|G O<|zA<|zC O (fun c3=>?_) (fun c3=>?_)
   ·have d1:x.Op=2:=of_decide_eq_true c3
    refine zH<|zC O (fun c4=>?_) (fun c4=>?_)
    ·have d3:x.Op=2∨x.Op=3:=by first|exact .inl d1|exact .inr (of_decide_eq_true c4)
     refine zI O<|G O<|zP zHc Y O<|zU O O (zT [0,0,0] O ok64 (cg_store b sw lw cw fw g L (pre++stsC g (l.take k) L pre.length) hq (by omega) hg x hxr d3 (by omega)) ⟨zB,O,zB,O,T⟩ O) ?_
     rintro _ _ ⟨_,⟨rfl,sv5,cd5,fu5,sl5,hE5,rfl⟩,rfl⟩
     refine qV (μ':=genE b sv5 sl5 cd5 fu5 g L) O<|zA<|zI O<|qD O ⟨by omega,by omega⟩<|G O<|zA ?_
     refine ⟨⟨k+1,sv5,sl5,cd5,fu5⟩,⟨by omega,(by rw [zLz hx,stC_s d3];exact hE5)⟩,(by show l.length-(k+1)<l.length-k;omega),Weak.mk [true,true,true] ⟨zB,zB,zB,zB,T⟩ O⟩
    ·exact absurd (c3.symm.trans c4) (by simp)
   ·have d1:¬x.Op=2:=of_decide_eq_false c3
    refine zI O<|yO O<|G O<|zA<|zC O (fun c4=>?_) (fun c4=>?_)
    ·have d3:x.Op=2∨x.Op=3:=by first|exact .inl d1|exact .inr (of_decide_eq_true c4)
     refine zI O<|G O<|zP zHc Y O<|zU O O (zT [0,0,0] O ok64 (cg_store b sw lw cw fw g L (pre++stsC g (l.take k) L pre.length) hq (by omega) hg x hxr d3 (by omega)) ⟨zB,O,zB,O,T⟩ O) ?_
     rintro _ _ ⟨_,⟨rfl,sv5,cd5,fu5,sl5,hE5,rfl⟩,rfl⟩
     refine qV (μ':=genE b sv5 sl5 cd5 fu5 g L) O<|zA<|zI O<|qD O ⟨by omega,by omega⟩<|G O<|zA ?_
     refine ⟨⟨k+1,sv5,sl5,cd5,fu5⟩,⟨by omega,(by rw [zLz hx,stC_s d3];exact hE5)⟩,(by show l.length-(k+1)<l.length-k;omega),Weak.mk [true,true,true] ⟨zB,zB,zB,zB,T⟩ O⟩
    ·have d2:¬x.Op=3:=of_decide_eq_false c4
     refine R O<|yO O<|G O<|zA<|zC O (fun c5=>?_) (fun c5=>?_)
     ·try simp only [sx] at c5
      refine zI O<|G O<|zP zHc Y O<|zU O O (zT [0,0,0] O ok65 (cg_loop b sw lw cw fw g L (pre++stsC g (l.take k) L pre.length) hq hg x hxr c5 (by omega) (ih x (qB hx))) ⟨zB,O,zB,O,T⟩ O) ?_
      rintro _ _ ⟨_,⟨rfl,sv5,cd5,fu5,sl5,hE5,rfl⟩,rfl⟩
      refine qV (μ':=genE b sv5 sl5 cd5 fu5 g L) O<|zA<|zI O<|qD O ⟨by omega,by omega⟩<|G O<|zA ?_
      refine ⟨⟨k+1,sv5,sl5,cd5,fu5⟩,⟨by omega,(by rw [zLz hx];exact hE5)⟩,(by show l.length-(k+1)<l.length-k;omega),Weak.mk [true,true,true] ⟨zB,zB,zB,zB,T⟩ O⟩
     ·try simp only [sx] at c5
      refine R O<|yO O<|G O<|zA<|zC O (fun c6=>?_) (fun c6=>?_)
      ·try simp only [sx] at c6
       obtain ⟨hrt,hct,hrb⟩:=hxq.2.1 c6
       refine R O<|G O<|zZ O zEy<|zP kC Y O<|zU O O (zT [0,0,0] O ok66 ((cg_vt b lw g L (by omega) hg x.E).2 sw cw fw (pre++stsC g (l.take k) L pre.length) 0 120 hq hrt hct (by omega) (by omega) (by omega) (by omega)) ⟨zB,O,zB,O,zB,O,zB,O,T⟩ O) ?_
       rintro _ _ ⟨_,⟨rfl,sv1,cd1,fu1,hE1,rfl⟩,rfl⟩
       refine qV (μ':=genE b sv1 lw cd1 fu1 g L) O<|zA<|R O<|G O<|qE O<|zN O yQ<|zU O O (zT [0,0,0] O W (yZ b sv1 lw cd1 fu1 g L (pre++stsC g (l.take k) L pre.length++tstC g L x.E (pre++stsC g (l.take k) L pre.length).length 0 120) hE1 (1) (121) (1) (0) _ (fun _=>O)) ⟨zB,O,zB,O,zB,O,zB,O,zB,O,T⟩ O) ?_
       rintro _ _ ⟨_,⟨rfl,sv2,cd2,fu2,hE2,rfl⟩,rfl⟩
       refine qV (μ':=genE b sv2 lw cd2 fu2 g L) O<|zA<|R O<|G O<|qE O<|zN O yQ<|zU O O (zT [0,0,0] O W (yZ b sv2 lw cd2 fu2 g L (pre++stsC g (l.take k) L pre.length++tstC g L x.E (pre++stsC g (l.take k) L pre.length).length 0 120++[iN 1 121 1 0]) hE2 (8) (0) (120) (121) _ (fun _=>O)) ⟨zB,O,zB,O,zB,O,zB,O,zB,O,T⟩ O) ?_
       rintro _ _ ⟨_,⟨rfl,sv3,cd3,fu3,hE3,rfl⟩,rfl⟩
       refine qV (μ':=genE b sv3 lw cd3 fu3 g L) O<|G O<|zA<|R O<|G O<|zZ O zDx<|zL zDa Y O<|zU O O (zT [0,0,0] O ok29 (ih x (qB hx) sv3 lw cd3 fu3 L (pre++stsC g (l.take k) L pre.length++tstC g L x.E (pre++stsC g (l.take k) L pre.length).length 0 120++[iN 1 121 1 0]++[iN 8 0 120 121]) hE3 hrb (by omega)) ⟨zB,O,zB,O,T⟩ O) ?_
       rintro _ _ ⟨_,⟨rfl,sv4,cd4,fu4,sl5,hE4,rfl⟩,rfl⟩
       refine qV (μ':=genE b sv4 sl5 cd4 fu4 g L) O<|zA<|zI O<|G O<|qE O<|zN O yQ<|G O<|zU O O (zT [0,0,0] O ok67 (cg_land b sv4 sl5 cd4 fu4 g L (pre++stsC g (l.take k) L pre.length++tstC g L x.E (pre++stsC g (l.take k) L pre.length).length 0 120++[iN 1 121 1 0]++[iN 8 0 120 121]++stsC g x.Body L (pre++stsC g (l.take k) L pre.length++tstC g L x.E (pre++stsC g (l.take k) L pre.length).length 0 120++[iN 1 121 1 0]++[iN 8 0 120 121]).length) hE4 (pre++stsC g (l.take k) L pre.length++tstC g L x.E (pre++stsC g (l.take k) L pre.length).length 0 120++[iN 1 121 1 0]).length (by simp only [List.length_append,List.length_singleton];omega) _ O) ⟨zB,O,zB,O,T⟩ O) ?_
       rintro _ _ ⟨_,⟨rfl,sv5,cd5,fu5,hE5,rfl⟩,rfl⟩
       refine qV (μ':=genE b sv5 sl5 cd5 fu5 g L) O<|zA<|zI O<|qD O ⟨by omega,by omega⟩<|G O<|zA ?_
       refine ⟨⟨k+1,sv5,sl5,cd5,fu5⟩,⟨by omega,(by rw [zLz hx,stC_4 c6,←cf_set (fun p=>tstC g L x.E p 0 120)];exact hE5)⟩,(by show l.length-(k+1)<l.length-k;omega),Weak.mk [true,true,true] ⟨zB,zB,zB,zB,T⟩ O⟩
      ·try simp only [sx] at c6
       exact absurd hxq.2.2.2 (by omega)
 ·try simp only [sx] at c1
  refine qL ?_
  repeat (first|refine qO ?_|refine qN ?_)
  refine yC<|U ?_
  rw [yI (l:=l) (k:=k) (by omega)] at hq
  exact ⟨O,sw,cw,fw,lw,hq,O⟩
theorem cg_stmts (b:Nat) (g:Gn) (hg:g.Ok) (l:List St):SW b g l:=by
  have key:∀s:St,SW b g s.Body:=fun s=>by
    induction s using St.ind with
    |_ s ih=>exact fun sv sl code full L pre hE hr hw=>zJr b sv sl code full g L pre hE hg s.Body hr hw ih
  exact fun sv sl code full L pre hE hr hw=>zJr b sv sl code full g L pre hE hg l hr hw fun x _=>key x
end Go.W
