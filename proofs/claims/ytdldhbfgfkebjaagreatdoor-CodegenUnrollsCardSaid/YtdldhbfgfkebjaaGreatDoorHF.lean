/-
  What functions compute.
  Conditions: none.
-/
import Derived.Test.YtdldhbfgfkebjaaGreatDoorHE
import Derived.Test.YtdldhbfgfkebjaaGreatDoorEngV2
set_option linter.unusedSimpArgs false
set_option linter.unusedVariables false
set_option maxRecDepth 10000
namespace Go.W
open Go Go.Eng Go.Proofs Go.L41 Go.Br
attribute [local irreducible] AWP RWP TD fP
theorem St.wt_eq (s:St):s.wt=1+s.E.wt+s.Idx.length+fQ s.Idx+bE s.Body:=by cases s;rw [St.wt];rfl
theorem St.ind {P:St->Prop} (h:∀s:St,(∀a,a∈s.Body->P a)->P s) (s:St):P s:=by
  suffices h2:∀(n:Nat) (s:St),s.wt<=n->P s from h2 _ s (Nat.le_refl _)
  intro n
  induction n with
  |zero=>intro s hs;have:=St.wt_eq s;omega
  |succ n ih=>intro s hs;exact h s fun a ha=>ih a (by have:=St.wt_eq s;have:=kC ha;omega)
theorem seqC_pre {β:Type} (p:Int) (a:List (Int->List β)):∀b:List (Int->List β),∃y,lD p (a++b)=lD p a++y
  |[]=>⟨[],by simp⟩
  |f::r=>by
    obtain ⟨y,hy⟩:=seqC_pre p (a++[f]) r
    rw [zJu,List.append_assoc,List.singleton_append,List.append_assoc] at hy
    exact ⟨_,hy⟩
theorem zLw {g:Gn} {l:List St} {L:List ByteArray} {k:Nat} {x:St} (h:l[k]? =some x) (pre:List In):
    pre++gF g (l.take (k+1)) L pre.length=(pre++gF g (l.take k) L pre.length)++stC g x L (pre++gF g (l.take k) L pre.length).length:=by
  unfold gF;rw [seqC_next pre.length (fun s=>stC g s L) h,←List.append_assoc,lenI]
theorem sts_skip {g:Gn} {l:List St} {L:List ByteArray} {pre code:List In} (k:Nat) (h:Em (pre++gF g (l.take k) L pre.length) code true):Em (pre++gF g l L pre.length) code true:=by
  obtain ⟨y,hy⟩:=seqC_pre (pre.length:Int) ((l.take k).map fun s=>stC g s L) ((l.drop k).map fun s=>stC g s L)
  rw [←List.map_append,List.take_append_drop] at hy
  have e:pre++gF g l L pre.length=(pre++gF g (l.take k) L pre.length)++y:=by unfold gF;rw [hy,List.append_assoc]
  rw [e];exact h.skip y
theorem unr_pre (c:Int->List In) (d p:Int) (i:Nat):∀m:Nat,∃y,lV c d p (i+m)=lV c d p i++y
  |0=>⟨[],by simp⟩
  |m+1=>by
    obtain ⟨y,hy⟩:=unr_pre c d p i m
    refine ⟨y++(iN 1 d ((i+m:Nat):Int) 0::c (p+(lV c d p (i+m)).length+1)),?_⟩
    rw [←Nat.add_assoc,lV,hy,List.append_assoc]
theorem unr_skip {c:Int->List In} {d:Int} {pre code:List In} {i n:Nat} (hi:i<=n) (h:Em (pre++lV c d pre.length i) code true):Em (pre++lV c d pre.length n) code true:=by
  obtain ⟨y,hy⟩:=unr_pre c d pre.length i (n-i)
  rw [show i+(n-i)=n by omega] at hy
  rw [hy,←List.append_assoc];exact h.skip y
theorem unr_next {c:Int->List In} {d:Int} {pre:List In} {i:Nat}:pre++lV c d pre.length (i+1)=(pre++lV c d pre.length i++[iN 1 d i 0])++c (pre++lV c d pre.length i++[iN 1 d i 0]).length:=by
  rw [lV,lenI,lenI,len1];simp
theorem stC_1u {g:Gn} {s:St} {L:List ByteArray} {p:Int} (h:s.Op=1) (hm:s.Mark=3):stC g s L p=lV (gF g s.Body (L++[s.Name])) L.length p s.Many.toNat:=by rw [stC_eq,if_pos h,if_pos hm]
theorem stC_1 {g:Gn} {s:St} {L:List ByteArray} {p:Int} (h:s.Op=1) (hm:¬s.Mark=3):stC g s L p=vW (gF g s.Body (L++[s.Name])) L.length p s.Many:=by rw [stC_eq,if_pos h,if_neg hm]
theorem stC_4 {g:Gn} {s:St} {L:List ByteArray} {p:Int} (h:s.Op=4):stC g s L p=vV (jC g L s.E p 0 120) (gF g s.Body L) p:=by rw [stC_eq,if_neg (by omega),if_pos h]
theorem stC_s {g:Gn} {s:St} {L:List ByteArray} {p:Int} (h:s.Op=2∨s.Op=3):stC g s L p=sP g L s p:=by rw [stC_eq,if_neg (by omega),if_neg (by omega)]
def SW (b:Nat) (g:Gn) (l:List St):Prop:=∀(sv sl:Value) (code:List In) (full:Bool) (L:List ByteArray) (pre:List In),Em pre code full->mG g l L->L.length+bE l<=900000->Con cfg 29 [vPt b,dM l] (fH b sv sl code full g L) fun r μ'=>r=.tup []/\∃sv' code' full' sl',Em (pre++gF g l L pre.length) code' full'/\μ'=fH b sv' sl' code' full' g L
theorem ok29:bA Tryz.prog 29=true:=by kernel_rfl
theorem ok62:bA Tryz.prog 62=true:=by kernel_rfl
theorem ok64:bA Tryz.prog 64=true:=by kernel_rfl
theorem ok65:bA Tryz.prog 65=true:=by kernel_rfl
theorem ok117:bA Tryz.prog 117=true:=by kernel_rfl
theorem ok118:bA Tryz.prog 118=true:=by kernel_rfl
theorem zLj:jK Tryz.prog 75=true:=by kernel_rfl
set_option maxHeartbeats 4000000 in
theorem cg_store {b:Nat} {sv sl:Value} {code:List In} {full:Bool} {g:Gn} {L:List ByteArray} {pre:List In} (hE:Em pre code full) (hL:L.length<=1000000) (hg:g.Ok) (s:St) (hr:RdS g s L) (ho:s.Op=2∨s.Op=3) (hw:s.wt<=900000):
    Con cfg 64 [vPt b,vSt s] (fH b sv sl code full g L) fun r μ'=>r=.tup []/\∃sv' code' full' sl',Em (pre++sP g L s pre.length) code' full'/\μ'=fH b sv' sl' code' full' g L:=by
 refine zW Tryz.func64 O Tryz.ntmps64 Tryz.results64 O ?_
 intro z hz
 have hwt:=St.wt_eq s
 rw [RdS_eq] at hr
 obtain ⟨hrv,hcv,hrd⟩:=hr.2.2.1 ho
 obtain ⟨q1,q2,q3⟩:=hrd.read rfl
 refine R O<|zS O O (qP O O) ?_
 rintro _ _ ⟨b1,rfl,rfl⟩
 refine qT _ (qM 0 O 3 _ PLe.ptr)<|zA<|R O<|G O<|zT O zBq<|zE one9 zO O<|zZ O (qY [0,0,0] O ok60 (cg_find  s.Name hg) ⟨zB,O,zB,O,T⟩ O)<|zS O O (qQ [none,none,none,none,none,none,some 1,none,none,none,some 1] O zr118 O) ?_
 rintro _ _ ⟨b2,rfl,rfl⟩
 refine Y 0 sz118 O<|qT _ (qM 0 O 4 _ PLe.ptr)<|zA<|R O<|G O<|zT O zBi<|zQ yN zO O<|zS O O (W O ok114 ((cg_vt b sl g L hL hg s.E).1 sv code full pre 0 120 hE hrv hcv (by omega) (by omega) (by omega) (by omega)) ⟨zB,O,zB,O,zB,O,zB,O,T⟩) ?_
 rintro _ _ ⟨rfl,sv1,cd1,fu1,hE1,rfl⟩
 refine zA<|R O<|G O<|zQ agg118 zO O<|zT O zEz<|zE wI zO O<|zS O O (W O ok115 (cg_address hE1 hL s.Name s.Idx hg q1 q2 q3 (by omega)) ⟨zB,O,zB,O,zB,O,T⟩) ?_
 rintro _ _ ⟨rfl,sv2,cd2,fu2,hE2,rfl⟩
 refine zA<|R O<|G O<|zA<|zF<|R O<|zT O zBr<|zE one3 zO O<|yE O<|zA<|zD O (fun c1=>?_) (fun c1=>?_)
 ·try simp only [sx] at c1
  refine R O<|G O<|zA<|zF<|qW 7 mixed (by kernel_rfl) O O<|zL O O (zM O O)<|zL O O (qL O O)<|zL O O (zH O kJ O)<|zL O O (qB O zGa O)<|zL O O (zC O one3 O zO O)<|zL O O (qB O zJi O)<|zL O O (zC O one3 O zO O)<|yM<|zS O O (W O ok63 (zEf hE2 (10) (1) (100) (g.bs_ s.Name) (g.en s.Name)) ⟨zB,O,zB,O,zB,O,zB,O,zB,O,zB,O,T⟩) ?_
  rintro _ _ ⟨rfl,sv3,cd3,fu3,hE3,rfl⟩
  refine zA<|qW 7 mixed (by kernel_rfl) O O<|zL O O (zM O O)<|zL O O (qB O zPt O)<|zL O O (zC O one3 O zO O)<|zL O O (qR O ok117 (cg_operator s.Fold) ⟨zB,O,T⟩)<|zL O O (qB O zOv O)<|zL O O (qB O zEy O)<|zL O O (qC O yG O zO O)<|yM<|zS O O (W O ok116 (cg_op hE3 (12) (pE s.Fold) (1) (1) (0) ((dF g.n.Bufs s.Name).T) _ (fun _=>O)) ⟨zB,O,zB,O,zB,O,zB,O,zB,O,zB,O,zB,O,T⟩) ?_
  rintro _ _ ⟨rfl,sv4,cd4,fu4,hE4,rfl⟩
  refine zA<|qW 8 mixed (by kernel_rfl) O O<|zL O O (zM O O)<|zL O O (qL O O)<|zL O O (zH O kJ O)<|zL O O (zM O O)<|zL O O (qB O zGa O)<|zL O O (zC O one3 O zO O)<|zL O O (qB O zJi O)<|zL O O (zC O one3 O zO O)<|yM<|zS O O (W O ok63 (zEf hE4 (11) (1) (100) (g.bs_ s.Name) (g.en s.Name)) ⟨zB,O,zB,O,zB,O,zB,O,zB,O,zB,O,T⟩) ?_
  rintro _ _ ⟨rfl,sv5,cd5,fu5,hE5,rfl⟩
  refine zA ?_
  repeat (first|refine qZ ?_|refine qV ?_)
  refine yP<|U ?_
  refine ⟨O,sv5,cd5,fu5,sl,?_,O⟩
  unfold sP
  rw [if_pos c1]
  have h9:=hE5
  exact r9
 ·try simp only [sx] at c1
  refine zI<|qW 8 mixed (by kernel_rfl) O O<|zL O O (zM O O)<|zL O O (qL O O)<|zL O O (zH O kJ O)<|zL O O (zM O O)<|zL O O (qB O zGa O)<|zL O O (zC O one3 O zO O)<|zL O O (qB O zJi O)<|zL O O (zC O one3 O zO O)<|yM<|zS O O (W O ok63 (zEf hE2 (11) (0) (100) (g.bs_ s.Name) (g.en s.Name)) ⟨zB,O,zB,O,zB,O,zB,O,zB,O,zB,O,T⟩) ?_
  rintro _ _ ⟨rfl,sv5,cd5,fu5,hE5,rfl⟩
  refine zA ?_
  repeat (first|refine qZ ?_|refine qV ?_)
  refine yP<|U ?_
  refine ⟨O,sv5,cd5,fu5,sl,?_,O⟩
  unfold sP
  rw [if_neg c1]
  have h9:=hE5
  exact r9
set_option maxHeartbeats 4000000 in
theorem cg_clear {b:Nat} {sv sl:Value} {code:List In} {full:Bool} {g:Gn} {L:List ByteArray} {pre:List In} (hE:Em pre code full) (s:ByteArray) (hg:g.Ok):
    Con cfg 28 [vPt b,vS s] (fH b sv sl code full g L) fun r μ'=>r=.tup []/\∃sv' code' full',Em (pre++vZ g s pre.length) code' full'/\μ'=fH b sv' sl code' full' g L:=by
 refine zW Tryz.func28 O Tryz.ntmps28 Tryz.results28 O ?_
 intro z hz
 refine R O<|G O<|G O<|zZ O (qY [0,0,0] O ok60 (cg_find  s hg) ⟨zB,O,zB,O,T⟩ O)<|zS O O (qQ [none,none,none,none,none,none,some 1,none,none,none,some 1] O zr118 O) ?_
 rintro _ _ ⟨b1,rfl,rfl⟩
 refine Y 0 sz118 O<|qT _ (qM 0 O 4 _ PLe.ptr)<|zA<|R O<|G O<|qI O<|zJ O kJ<|yS O zr44 pl44<|yS O zr46 pl46<|zS O O (W O ok30 (zPh hE (⟨9,0,0,0,⟨0,1⟩,zTy⟩) _ (fun _=>O)) ⟨zB,O,zB,O,T⟩) ?_
 rintro _ _ ⟨rfl,sv1,cd1,fu1,hE1,rfl⟩
 refine zA<|zF<|qW 5 mixed (by kernel_rfl) O O<|zL O O (zM O O)<|zL O O (qL O O)<|zL O O (zH O kJ O)<|zL O O (qB O zGa O)<|zL O O (zC O one3 O zO O)<|yM<|zS O O (W O ok61 (kS hE1 (1) (100) (g.bs_ s) (0) _ (fun _=>O)) ⟨zB,O,zB,O,zB,O,zB,O,zB,O,T⟩) ?_
 rintro _ _ ⟨rfl,sv2,cd2,fu2,hE2,rfl⟩
 refine zA<|R O<|G O<|qI O<|zJ O kJ<|zZ O (qY [0,0,0] O ok62 (cg_here ) ⟨zB,O,T⟩ O)<|G O<|zA<|zF<|qW 7 mixed (by kernel_rfl) O O<|zL O O (zM O O)<|zL O O (qL O O)<|zL O O (zH O kJ O)<|zL O O (qB O zGa O)<|zL O O (zC O one3 O zO O)<|zL O O (qB O zJi O)<|zL O O (zC O one3 O zO O)<|yM<|zS O O (W O ok63 (zEf hE2 (11) (0) (100) (g.bs_ s) (g.en s)) ⟨zB,O,zB,O,zB,O,zB,O,zB,O,zB,O,T⟩) ?_
 rintro _ _ ⟨rfl,sv3,cd3,fu3,hE3,rfl⟩
 refine zA<|R O<|G O<|qI O<|zJ O kJ<|zS O O (W O ok61 (kS hE3 (1) (101) (1) (0) _ (fun _=>O)) ⟨zB,O,zB,O,zB,O,zB,O,zB,O,T⟩) ?_
 rintro _ _ ⟨rfl,sv4,cd4,fu4,hE4,rfl⟩
 refine zA<|R O<|G O<|qI O<|zJ O kJ<|zS O O (W O ok61 (kS hE4 (3) (100) (100) (101) _ (fun _=>O)) ⟨zB,O,zB,O,zB,O,zB,O,zB,O,T⟩) ?_
 rintro _ _ ⟨rfl,sv5,cd5,fu5,hE5,rfl⟩
 refine zA<|zF<|qW 5 mixed (by kernel_rfl) O O<|zL O O (zM O O)<|zL O O (qL O O)<|zL O O (zH O kJ O)<|zL O O (qB O zJi O)<|zL O O (zC O one3 O zO O)<|yM<|zS O O (W O ok61 (kS hE5 (1) (102) (g.en s) (0) _ (fun _=>O)) ⟨zB,O,zB,O,zB,O,zB,O,zB,O,T⟩) ?_
 rintro _ _ ⟨rfl,sv6,cd6,fu6,hE6,rfl⟩
 refine zA<|zK O<|G O<|qI O<|zJ O kJ<|G O<|zS O O (W O ok61 (kS hE6 (8) (cd2.length) (100) (102) (iN 8 (pre.length+2) 100 102) (fun h9=>by have h8:=hE2.hr;simp only [List.length_append,List.length_cons,List.length_nil] at h9 h8;rw [h8,hr_in (by omega)];rfl)) ⟨zB,O,zB,O,zB,O,zB,O,zB,O,T⟩) ?_
 rintro _ _ ⟨rfl,sv7,cd7,fu7,hE7,rfl⟩
 refine zA ?_
 repeat (first|refine qZ ?_|refine qV ?_)
 refine yP<|U ?_
 refine ⟨O,sv7,cd7,fu7,?_,O⟩
 unfold vZ tX
 have h9:=hE7
 exact r9
theorem cg_loop_1 {b:Nat} {sv sl:Value} {code:List In} {full:Bool} {g:Gn} {L:List ByteArray} (M:List ByteArray):
    ConD cfg 118 [.c (.iptr [.lit (.pointer (some ⟨b,0,none⟩))]),.c (.iptr [cI L.length])] (fH b sv sl code full g (L++M)) (fun μ'=>∃sl',μ'=fH b sv sl' code full g L):=by
 refine conD_intro Tryz.func118 O Tryz.ntmps118 Tryz.results118 O ?_
 intro z
 refine yL 7 0 [⟨0,.q []⟩,⟨1,.q []⟩,⟨2,.q []⟩,⟨3,.q []⟩,⟨4,.q [0]⟩,⟨5,.q []⟩,⟨6,.e 2 []⟩] mixed (by kernel_rfl) (by kernel_rfl) O O O<|J O<|J O<|J O<|J O<|J O<|J O<|J O<|wQ<|zX O (by decide) O O (zC O zLj O zO O)<|zX O (by decide) O O (zC O zLj O zO O)<|zX O (by decide) O O (qL O O)<|zX O (by decide) O O (zH O fd80_4 O)<|zX O (by decide) O O (zC O zEu O (A 0 O) O)<|zX O (by decide) O O (zC O one3 O zO O)<|zEs O O (by decide) O O (zCx (k:=L.length) 0 O el78 O O O O (by simp)) ?_
 rintro _ _ ⟨sv1,rfl,rfl⟩
 refine ⟨_,O,?_⟩
 refine wP O<|qI O<|zJ O fd80_4<|Y 0 sz78 O<|zA ?_
 refine ⟨.inl O,?_⟩
 have e9:List.take L.length (List.map (fun s=>[cS s]) (L++M))=L.map (fun s=>[cS s]):=by rw [List.map_append,List.take_left' (by simp)]
 exact ⟨sv1,congrArg (fun q=>[E.row b 80 [.lit sv,.lit (.bool full),.sl 8 (g.n.Bufs.map Bf.cells),.sl 20 (g.n.Body.map St.cells),.sl 5 (g.ty.map tyC),.sl 3 (g.sl.map Sl.cells),.lit sv1],E.vec sv 46 11 (code.map In.cells),E.vec sv1 9 1 q]) e9⟩
set_option maxHeartbeats 4000000 in
theorem cg_loop {b:Nat} {sv sl:Value} {code:List In} {full:Bool} {g:Gn} {L:List ByteArray} {pre:List In} (hE:Em pre code full) (hg:g.Ok) (s:St) (hr:RdS g s L) (ho:s.Op=1) (hw:L.length+s.wt<=900000) (ih:SW b g s.Body):
    Con cfg 65 [vPt b,vSt s] (fH b sv sl code full g L) fun r μ'=>r=.tup []/\∃sv' code' full' sl',Em (pre++stC g s L pre.length) code' full'/\μ'=fH b sv' sl' code' full' g L:=by
 refine con_introD Tryz.func65 O Tryz.ntmps65 O ?_
 intro z hx
 have hz:=hx.1
 have hwt:=St.wt_eq s
 rw [RdS_eq] at hr
 obtain ⟨hm,hrb⟩:=hr.1 ho
 have hLn:(L++[s.Name]).length=L.length+1:=by simp
 refine xSeq hx<|zK O<|zS O O (qP O O) ?_
 rintro _ _ ⟨b1,rfl,rfl⟩
 refine qT _ (qM 0 O 2 _ PLe.ptr)<|zS O O (qP O O) ?_
 rintro _ _ ⟨b2,rfl,rfl⟩
 refine qT _ (qM 0 O 3 _ PLe.ptr)<|zA<|xSeq hx<|zK O<|zE zLj zO O<|qI O<|zJ O fd80_4<|zE zEu (A 0 O) O<|zZ O (yK 2 O el78 O O)<|zS O O (yZ O zr3) ?_
 rintro _ _ ⟨b3,rfl,rfl⟩
 refine Y 0 sz3 O<|qT _ (qM 0 O 4 _ PLe.ptr)<|zA<|xSeq hx ?_
 rw [List.length_map]
 refine yL 9 0 [⟨0,.q []⟩,⟨1,.q []⟩,⟨2,.q []⟩,⟨3,.q []⟩,⟨4,.q [0]⟩,⟨5,.q []⟩,⟨6,.q []⟩,⟨7,.q []⟩,⟨8,.e 2 []⟩] mixed (by kernel_rfl) (by kernel_rfl) O O O<|J O<|J O<|J O<|J O<|J O<|J O<|J O<|J O<|J O<|wQ<|zX O (by decide) O O (zC O zLj O zO O)<|zX O (by decide) O O (zC O zLj O zO O)<|zX O (by decide) O O (qL O O)<|zX O (by decide) O O (zH O fd80_4 O)<|zX O (by decide) O O (zC O zEu O (A 0 O) O)<|zX O (by decide) O O (qB O zBq O)<|zX O (by decide) O O (zC O one9 O zO O)<|zX O (by decide) O O (yJ O el78 zr9 O O O O)<|zEs O O (by decide) O O (yI 0 O el78 O O O (by simp only [List.length_map,List.length_cons,List.length_nil];omega) (by simp only [List.length_map,List.length_cons,List.length_nil];omega)) ?_
 rintro _ _ ⟨sv4,rfl,rfl⟩
 refine ⟨_,O,?_⟩
 refine wP O<|qI O<|zJ O fd80_4<|Y 0 sz78 O<|zA<|xDefer hx Tryz.results65 (by decide) O O (zFr O O O O O) O O O ok118 ?_
 intro z hz
 refine zF<|zF<|zU _ (Weak.vecEq 2 O (rows':=(L++[s.Name]).map fun s=>[cS s]) (by first|rfl|simp|rw [List.take_of_length_le (by simp)]))<|zK O<|zT O zNg<|zE one3 zO O<|yE O<|zA<|zD O (fun c1=>?_) (fun c1=>?_)
 ·try simp only [sx] at c1
  refine zF<|R O<|G O<|zA<|zP<|zU ⟨[(5,.c _),(2,.c _),(3,.c _),(4,.c _)],[_,_,_]⟩ (Weak.mk [true,true,true] ⟨zB,zB,zB,zB,T⟩ O)<|qF 1 3 O O (Nat×Value×Value×List In×Bool) (fun ⟨i,sw,lw,cw,fw⟩=>[(5,vI i)]) (fun ⟨i,sw,lw,cw,fw⟩=>[E.row b 80 [.lit sw,.lit (.bool fw),.sl 8 (g.n.Bufs.map Bf.cells),.sl 20 (g.n.Body.map St.cells),.sl 5 (g.ty.map tyC),.sl 3 (g.sl.map Sl.cells),.lit lw],E.vec sw 46 11 (cw.map In.cells),E.vec lw 9 1 ((L++[s.Name]).map fun s=>[cS s])]) (fun ⟨i,sw,lw,cw,fw⟩=>i<=s.Many.toNat/\Em (pre++lV (gF g s.Body (L++[s.Name])) L.length pre.length i) cw fw) (fun ⟨i,sw,lw,cw,fw⟩=>s.Many.toNat-i) ⟨⟨0,sv,sv4,code,full⟩,⟨by omega,by simpa [lV] using hE⟩,Weak.mk [true,true,true] ⟨zB,zB,zB,zB,T⟩ O⟩ ?_
  rintro ⟨i,sw,lw,cw,fw⟩ ⟨hi,hq⟩
  refine zF<|R O<|G O<|zT O zIc<|zE one3 zO O<|yC O<|G O<|rL0 O (fun g6_4=>zC O zLj O zO O) O<|B 32 O (fun g6_4=>qL O O) O<|B 33 O (fun g6_4=>zH O kJ O) O<|B 34 O (fun g6_4=>zH O zTn O) O<|B 35 O (fun g6_4=>zC O one4 O (A 0 O) O) O<|B 36 O (fun g6_4=>wJ O O) O<|yW O (fun h=>h)<|zA<|zD O (fun c2=>?_) (fun c2=>?_)
  ·try simp only [sx] at c2
   refine zI<|zF<|zP<|zF<|qW 5 mixed (by kernel_rfl) O O<|zL O O (zC O zLj O zO O)<|zL O O (qL O O)<|zL O O (zH O kJ O)<|zL O O (zC O one3 O zO O)<|zL O O (zM O O)<|yM<|zS O O (W O ok61 (kS hq (1) (L.length) (i) (0) _ (fun _=>O)) ⟨zB,O,zB,O,zB,O,zB,O,zB,O,T⟩) ?_
   rintro _ _ ⟨rfl,sv21,cd21,fu21,hE21,rfl⟩
   refine zA<|zK O<|zE zLj zO O<|zT O zBb<|zE zAh zO O<|zS O O (W O ok29 (ih sv21 lw cd21 fu21 (L++[s.Name]) (pre++lV (gF g s.Body (L++[s.Name])) L.length pre.length i++[iN 1 L.length i 0]) hE21 hrb (by omega)) ⟨zB,O,zB,O,T⟩) ?_
   exact v11
  ·try simp only [sx] at c2
   refine qK<|zN<|U<|ConD.mono (cg_loop_1 [s.Name]) ?_
   rintro _ ⟨sl',rfl⟩
   refine ⟨sw,cw,fw,sl',?_,O⟩
   rw [stC_1u ho c1]
   by_cases c9:fw=true
   · rw [c9] at hq⊢;exact unr_skip hi hq
   · have e9:i=s.Many.toNat:=by simp only [c9] at c2;simp at c2;omega
     rw [←e9];exact hq
 ·try simp only [sx] at c1
  refine zI<|zF<|qW 4 mixed (by kernel_rfl) O O<|zL O O (zC O zLj O zO O)<|zL O O (qL O O)<|zL O O (zH O kJ O)<|zL O O (zC O one3 O zO O)<|yM<|zS O O (W O ok61 (kS hE (1) (L.length) (0) (0) _ (fun _=>O)) ⟨zB,O,zB,O,zB,O,zB,O,zB,O,T⟩) ?_
  rintro _ _ ⟨rfl,sv21,cd21,fu21,hE21,rfl⟩
  refine zA<|R O<|zE zLj zO O<|qI O<|zJ O kJ<|zZ O (qY [0,0,0] O ok62 (cg_here) ⟨zB,O,T⟩ O)<|G O<|zA<|R O<|zE zLj zO O<|zT O zBb<|zE zAh zO O<|zS O O (W O ok29 (ih sv21 sv4 cd21 fu21 (L++[s.Name]) (pre++[iN 1 L.length 0 0]) hE21 hrb (by omega)) ⟨zB,O,zB,O,T⟩) ?_
  rintro _ _ ⟨rfl,sv22,cd22,fu22,sl22,hE22,rfl⟩
  refine zA<|R O<|zE zLj zO O<|qI O<|zJ O kJ<|zS O O (W O ok61 (kS hE22 (1) (101) (1) (0) _ (fun _=>O)) ⟨zB,O,zB,O,zB,O,zB,O,zB,O,T⟩) ?_
  rintro _ _ ⟨rfl,sv23,cd23,fu23,hE23,rfl⟩
  refine zA<|zF<|qW 5 mixed (by kernel_rfl) O O<|zL O O (zC O zLj O zO O)<|zL O O (qL O O)<|zL O O (zH O kJ O)<|zL O O (zC O one3 O zO O)<|zL O O (zC O one3 O zO O)<|yM<|zS O O (W O ok61 (kS hE23 (3) (L.length) (L.length) (101) _ (fun _=>O)) ⟨zB,O,zB,O,zB,O,zB,O,zB,O,T⟩) ?_
  rintro _ _ ⟨rfl,sv24,cd24,fu24,hE24,rfl⟩
  refine zA<|zF<|qW 5 mixed (by kernel_rfl) O O<|zL O O (zC O zLj O zO O)<|zL O O (qL O O)<|zL O O (zH O kJ O)<|zL O O (qB O zIc O)<|zL O O (zC O one3 O zO O)<|yM<|zS O O (W O ok61 (kS hE24 (1) (102) (s.Many) (0) _ (fun _=>O)) ⟨zB,O,zB,O,zB,O,zB,O,zB,O,T⟩) ?_
  rintro _ _ ⟨rfl,sv25,cd25,fu25,hE25,rfl⟩
  refine zA<|qW 5 mixed (by kernel_rfl) O O<|zL O O (zC O zLj O zO O)<|zL O O (qL O O)<|zL O O (zH O kJ O)<|zL O O (zM O O)<|zL O O (zC O one3 O zO O)<|yM<|zS O O (W O ok61 (kS hE25 (8) (cd21.length) (L.length) (102) (iN 8 (pre.length+1) L.length 102) (fun h9=>by have h8:=hE21.hr;simp only [List.length_append,List.length_cons,List.length_nil] at h9 h8;rw [h8,hr_in (by omega)];rfl)) ⟨zB,O,zB,O,zB,O,zB,O,zB,O,T⟩) ?_
  rintro _ _ ⟨rfl,sv26,cd26,fu26,hE26,rfl⟩
  refine zA ?_
  repeat (first|refine qZ ?_|refine qV ?_)
  refine yP<|U ?_
  refine ConD.mono (cg_loop_1 [s.Name]) ?_
  rintro _ ⟨sl',rfl⟩
  refine ⟨sv26,cd26,fu26,sl',?_,O⟩
  rw [stC_1 ho c1]
  unfold vW tX
  have h9:=hE26
  simp only [lenI,len1,List.append_assoc,List.cons_append,List.nil_append,List.append_nil] at h9⊢
  exact h9
set_option maxHeartbeats 4000000 in
theorem zNs {b:Nat} {sv sl:Value} {code:List In} {full:Bool} {g:Gn} {L:List ByteArray} {pre:List In} (hE:Em pre code full) (hg:g.Ok) (l:List St) (hr:mG g l L) (hw:L.length+bE l<=900000) (ih:∀x,x∈l->SW b g x.Body):
    Con cfg 29 [vPt b,dM l] (fH b sv sl code full g L) fun r μ'=>r=.tup []/\∃sv' code' full' sl',Em (pre++gF g l L pre.length) code' full'/\μ'=fH b sv' sl' code' full' g L:=by
 refine zW Tryz.func29 O Tryz.ntmps29 Tryz.results29 O ?_
 intro z hz
 have hll:=wH l
 refine R O<|G O<|qD O el23<|G O<|zA<|zP<|zU ⟨[(9,.c _),(0,.c _),(7,.c _),(8,.c _)],[_,_,_]⟩ (Weak.mk [true,true,true] ⟨zB,zB,zB,zB,T⟩ O)<|qF 1 3 O O (Nat×Value×Value×List In×Bool) (fun ⟨k,sw,lw,cw,fw⟩=>[(9,vI k)]) (fun ⟨k,sw,lw,cw,fw⟩=>[E.row b 80 [.lit sw,.lit (.bool fw),.sl 8 (g.n.Bufs.map Bf.cells),.sl 20 (g.n.Body.map St.cells),.sl 5 (g.ty.map tyC),.sl 3 (g.sl.map Sl.cells),.lit lw],E.vec sw 46 11 (cw.map In.cells),E.vec lw 9 1 (L.map fun s=>[cS s])]) (fun ⟨k,sw,lw,cw,fw⟩=>k<=l.length/\(Em (pre++gF g (l.take k) L pre.length) cw fw)) (fun ⟨k,sw,lw,cw,fw⟩=>l.length-k) ⟨⟨0,sv,sl,code,full⟩,⟨by omega,(by simpa [gF,lD] using hE)⟩,Weak.mk [true,true,true] ⟨zB,zB,zB,zB,T⟩ O⟩ ?_
 rintro ⟨k,sw,lw,cw,fw⟩ ⟨hk,hq⟩
 show AWP _ _ _ _ _ ⟨[(9,vI k)]++_,[E.row b 80 [.lit sw,.lit (.bool fw),.sl 8 (g.n.Bufs.map Bf.cells),.sl 20 (g.n.Body.map St.cells),.sl 5 (g.ty.map tyC),.sl 3 (g.sl.map Sl.cells),.lit lw],E.vec sw 46 11 (cw.map In.cells),E.vec lw 9 1 (L.map fun s=>[cS s])]++_⟩
 refine R O<|yC O<|zA<|zF<|zD O (fun c1=>?_) (fun c1=>?_)
 ·try simp only [sx] at c1
  obtain ⟨x,hx⟩:=qU l k (by omega)
  have hxw:=kC (qE hx)
  have hxe:=St.wt_eq x
  have hxr:=zNz hr (qE hx)
  have hxq:=hxr
  rw [RdS_eq] at hxq
  refine zI<|zF<|zP<|R O<|zY O el23 (by omega) (zCc (by assumption))<|zQ zEi zO O<|zS O O (qQ [none,none,none,none,none,some 4,none,none,none,none,none,none,none,none,none,none,some 2,some 4,some 13,some 20] O zr59 O) ?_
  rintro _ _ ⟨b1,rfl,rfl⟩
  refine Y 0 sz59 O<|qT _ (qM 0 O 5 _ PLe.ptr)<|zA<|zF<|R O<|G O<|qI O<|zJ O kJ<|zJ O zTn<|zE one4 (A 0 O) O<|zA<|zD O (fun c2=>?_) (fun c2=>?_)
  ·try simp only [sx] at c2
   refine zN<|U ?_
   have hfl:fw=true:=by simpa using c2
   subst hfl
   exact ⟨O,sw,cw,true,lw,sts_skip k hq,O⟩
  ·try simp only [sx] at c2
   refine zI<|R O<|zT O zBr<|zE one3 zO O<|zA<|zP<|zF<|R O<|yE O<|G O<|zA<|zD O (fun c3=>?_) (fun c3=>?_)
   ·have d1:x.Op=2:=of_decide_eq_true c3
    refine zI<|zD O (fun c4=>?_) (fun c4=>?_)
    ·exact l5
    ·exact absurd (c3.symm.trans c4) (by simp)
   ·have d1:¬x.Op=2:=of_decide_eq_false c3
    refine zK O<|yE O<|G O<|zA<|zD O (fun c4=>?_) (fun c4=>?_)
    ·exact l5
    ·have d2:¬x.Op=3:=of_decide_eq_false c4
     refine R O<|yE O<|G O<|zA<|zD O (fun c5=>?_) (fun c5=>?_)
     ·try simp only [sx] at c5
      refine zK O<|G O<|zQ zEi zO O<|zS O O (W O ok65 (cg_loop hq hg x hxr c5 (by omega) (ih x (qE hx))) ⟨zB,O,zB,O,T⟩) ?_
      rintro _ _ ⟨rfl,sv5,cd5,fu5,sl5,hE5,rfl⟩
      refine zA<|zK O<|qA O ⟨by omega,by omega⟩<|G O<|zA ?_
      refine ⟨⟨k+1,sv5,sl5,cd5,fu5⟩,⟨by omega,(by rw [zLw hx];exact hE5)⟩,(by show l.length-(k+1)<l.length-k;omega),Weak.mk [true,true,true] ⟨zB,zB,zB,zB,T⟩ O⟩
     ·try simp only [sx] at c5
      refine R O<|yE O<|G O<|zA<|zD O (fun c6=>?_) (fun c6=>?_)
      ·try simp only [sx] at c6
       obtain ⟨hrt,hct,hrb⟩:=hxq.2.1 c6
       refine R O<|G O<|zT O zBi<|zQ yN zO O<|zS O O (W O ok66 ((cg_vt b lw g L (by omega) hg x.E).2 sw cw fw (pre++gF g (l.take k) L pre.length) 0 120 hq hrt hct (by omega) (by omega) (by omega) (by omega)) ⟨zB,O,zB,O,zB,O,zB,O,T⟩) ?_
       rintro _ _ ⟨rfl,sv1,cd1,fu1,hE1,rfl⟩
       refine zA<|R O<|G O<|qI O<|zJ O kJ<|zS O O (W O ok61 (kS hE1 (1) (121) (1) (0) _ (fun _=>O)) ⟨zB,O,zB,O,zB,O,zB,O,zB,O,T⟩) ?_
       rintro _ _ ⟨rfl,sv2,cd2,fu2,hE2,rfl⟩
       refine zA<|R O<|G O<|qI O<|zJ O kJ<|zS O O (W O ok61 (kS hE2 (8) (0) (120) (121) _ (fun _=>O)) ⟨zB,O,zB,O,zB,O,zB,O,zB,O,T⟩) ?_
       rintro _ _ ⟨rfl,sv3,cd3,fu3,hE3,rfl⟩
       refine G O<|zA<|R O<|G O<|zT O zBb<|zE zAh zO O<|zS O O (W O ok29 (ih x (qE hx) sv3 lw cd3 fu3 L (pre++gF g (l.take k) L pre.length++jC g L x.E (pre++gF g (l.take k) L pre.length).length 0 120++[iN 1 121 1 0]++[iN 8 0 120 121]) hE3 hrb (by omega)) ⟨zB,O,zB,O,T⟩) ?_
       rintro _ _ ⟨rfl,sv4,cd4,fu4,sl5,hE4,rfl⟩
       refine zA<|zK O<|G O<|qI O<|zJ O kJ<|G O<|zS O O (W O ok67 (cg_land hE4 (pre++gF g (l.take k) L pre.length++jC g L x.E (pre++gF g (l.take k) L pre.length).length 0 120++[iN 1 121 1 0]).length (by simp only [List.length_append,List.length_singleton];omega) _ O) ⟨zB,O,zB,O,T⟩) ?_
       rintro _ _ ⟨rfl,sv5,cd5,fu5,hE5,rfl⟩
       refine zA<|zK O<|qA O ⟨by omega,by omega⟩<|G O<|zA ?_
       refine ⟨⟨k+1,sv5,sl5,cd5,fu5⟩,⟨by omega,(by rw [zLw hx,stC_4 c6,←cf_set (fun p=>jC g L x.E p 0 120)];exact hE5)⟩,(by show l.length-(k+1)<l.length-k;omega),Weak.mk [true,true,true] ⟨zB,zB,zB,zB,T⟩ O⟩
      ·try simp only [sx] at c6
       exact absurd hxq.2.2.2 (by omega)
 ·try simp only [sx] at c1
  refine qK ?_
  repeat (first|refine qZ ?_|refine qV ?_)
  refine yP<|U ?_
  rw [qX (l:=l) (k:=k) (by omega)] at hq
  exact ⟨O,sw,cw,fw,lw,hq,O⟩
theorem cg_stmts (b:Nat) (g:Gn) (hg:g.Ok) (l:List St):SW b g l:=by
  have key:∀s:St,SW b g s.Body:=fun s=>by
    induction s using St.ind with
    |_ s ih=>exact fun sv sl code full L pre hE hr hw=>zNs hE hg s.Body hr hw ih
  exact fun sv sl code full L pre hE hr hw=>zNs hE hg l hr hw fun x _=>key x
end Go.W
