/-
  What functions compute.
  Conditions: none.
-/
import Derived.Test.YtdldhbfgfkebjaaGreatDoorHE
import Derived.Test.YtdldhbfgfkebjaaGreatDoorEngV2
set_option linter.unusedSimpArgs false
set_option linter.unusedVariables false
set_option maxRecDepth 10000
namespace Go.W
open Go Go.Eng Go.Proofs Go.L41 Go.Br
attribute [local irreducible] AWP RWP TD fY
theorem St.wt_eq (s:St):s.wt=1+s.E.wt+s.Idx.length+gF s.Idx+bL s.Body:=by cases s;rw [St.wt];rfl
theorem St.ind {P:St->Prop} (h:∀s:St,(∀a,a∈s.Body->P a)->P s) (s:St):P s:=by
  suffices h2:∀(n:Nat) (s:St),s.wt<=n->P s from h2 _ s (Nat.le_refl _)
  intro n
  induction n with
  |zero=>intro s hs;have:=St.wt_eq s;omega
  |succ n ih=>intro s hs;exact h s fun a ha=>ih a (by have:=St.wt_eq s;have:=kL ha;omega)
theorem seqC_pre {β:Type} (p:Int) (a:List (Int->List β)):∀b:List (Int->List β),∃y,lE p (a++b)=lE p a++y
  |[]=>⟨[],by simp⟩
  |f::r=>by
    obtain ⟨y,hy⟩:=seqC_pre p (a++[f]) r
    rw [zPt,List.append_assoc,List.singleton_append,List.append_assoc] at hy
    exact ⟨_,hy⟩
theorem zPm {g:Gn} {l:List St} {L:List ByteArray} {k:Nat} {x:St} (h:l[k]? =some x) (pre:List In):
    pre++jB g (l.take (k+1)) L pre.length=(pre++jB g (l.take k) L pre.length)++stC g x L (pre++jB g (l.take k) L pre.length).length:=by
  unfold jB;rw [seqC_next pre.length (fun s=>stC g s L) h,←List.append_assoc,lenI]
theorem sts_skip {g:Gn} {l:List St} {L:List ByteArray} {pre code:List In} (k:Nat) (h:Em (pre++jB g (l.take k) L pre.length) code true):Em (pre++jB g l L pre.length) code true:=by
  obtain ⟨y,hy⟩:=seqC_pre (pre.length:Int) ((l.take k).map fun s=>stC g s L) ((l.drop k).map fun s=>stC g s L)
  rw [←List.map_append,List.take_append_drop] at hy
  have e:pre++jB g l L pre.length=(pre++jB g (l.take k) L pre.length)++y:=by unfold jB;rw [hy,List.append_assoc]
  rw [e];exact h.skip y
theorem unr_pre (c:Int->List In) (d p:Int) (i:Nat):∀m:Nat,∃y,mE c d p (i+m)=mE c d p i++y
  |0=>⟨[],by simp⟩
  |m+1=>by
    obtain ⟨y,hy⟩:=unr_pre c d p i m
    refine ⟨y++(iN 1 d ((i+m:Nat):Int) 0::c (p+(mE c d p (i+m)).length+1)),?_⟩
    rw [←Nat.add_assoc,mE,hy,List.append_assoc]
theorem unr_skip {c:Int->List In} {d:Int} {pre code:List In} {i n:Nat} (hi:i<=n) (h:Em (pre++mE c d pre.length i) code true):Em (pre++mE c d pre.length n) code true:=by
  obtain ⟨y,hy⟩:=unr_pre c d pre.length i (n-i)
  rw [show i+(n-i)=n by omega] at hy
  rw [hy,←List.append_assoc];exact h.skip y
theorem unr_next {c:Int->List In} {d:Int} {pre:List In} {i:Nat}:pre++mE c d pre.length (i+1)=(pre++mE c d pre.length i++[iN 1 d i 0])++c (pre++mE c d pre.length i++[iN 1 d i 0]).length:=by
  rw [mE,lenI,lenI,len1];simp
theorem stC_1u {g:Gn} {s:St} {L:List ByteArray} {p:Int} (h:s.Op=1) (hm:s.Mark=3):stC g s L p=mE (jB g s.Body (L++[s.Name])) L.length p s.Many.toNat:=by rw [stC_eq,if_pos h,if_pos hm]
theorem stC_1 {g:Gn} {s:St} {L:List ByteArray} {p:Int} (h:s.Op=1) (hm:¬s.Mark=3):stC g s L p=xL (jB g s.Body (L++[s.Name])) L.length p s.Many:=by rw [stC_eq,if_pos h,if_neg hm]
theorem stC_4 {g:Gn} {s:St} {L:List ByteArray} {p:Int} (h:s.Op=4):stC g s L p=vQ (lS g L s.E p 0 120) (jB g s.Body L) p:=by rw [stC_eq,if_neg (by omega),if_pos h]
theorem stC_s {g:Gn} {s:St} {L:List ByteArray} {p:Int} (h:s.Op=2∨s.Op=3):stC g s L p=tE g L s p:=by rw [stC_eq,if_neg (by omega),if_neg (by omega)]
def SW (b:Nat) (g:Gn) (l:List St):Prop:=∀(sv sl:Value) (code:List In) (full:Bool) (L:List ByteArray) (pre:List In),Em pre code full->mX g l L->L.length+bL l<=900000->Con cfg 29 [vPt b,fV l] (fJ b sv sl code full g L) fun r μ'=>r=.tup []/\∃sv' code' full' sl',Em (pre++jB g l L pre.length) code' full'/\μ'=fJ b sv' sl' code' full' g L
theorem ok29:bA Tryz.prog 29=true:=by kernel_rfl
theorem ok62:bA Tryz.prog 62=true:=by kernel_rfl
theorem ok64:bA Tryz.prog 64=true:=by kernel_rfl
theorem ok65:bA Tryz.prog 65=true:=by kernel_rfl
theorem ok117:bA Tryz.prog 117=true:=by kernel_rfl
theorem ok118:bA Tryz.prog 118=true:=by kernel_rfl
theorem zKr:jQ Tryz.prog 75=true:=by kernel_rfl
set_option maxHeartbeats 4000000 in
theorem cg_store {b:Nat} {sv sl:Value} {code:List In} {full:Bool} {g:Gn} {L:List ByteArray} {pre:List In} (hE:Em pre code full) (hL:L.length<=1000000) (hg:g.Ok) (s:St) (hr:RdS g s L) (ho:s.Op=2∨s.Op=3) (hw:s.wt<=900000):
    Con cfg 64 [vPt b,vSt s] (fJ b sv sl code full g L) fun r μ'=>r=.tup []/\∃sv' code' full' sl',Em (pre++tE g L s pre.length) code' full'/\μ'=fJ b sv' sl' code' full' g L:=by
 refine zU Tryz.func64 O Tryz.ntmps64 Tryz.results64 O ?_
 intro z hz
 have hwt:=St.wt_eq s
 rw [RdS_eq] at hr
 obtain ⟨hrv,hcv,hrd⟩:=hr.2.2.1 ho
 obtain ⟨q1,q2,q3⟩:=hrd.read rfl
 refine R O<|zV O O (qO O O) ?_
 rintro _ _ ⟨b1,rfl,rfl⟩
 refine qX _ (qK 0 O 3 _ PLe.ptr)<|zA<|R O<|G O<|zX O zCp<|zH one9 zQ O<|zW O (yI [0,0,0] O ok60 (cg_find  s.Name hg) ⟨zB,O,zB,O,T⟩ O)<|zV O O (qR [none,none,none,none,none,none,some 1,none,none,none,some 1] O zr118 O) ?_
 rintro _ _ ⟨b2,rfl,rfl⟩
 refine D 0 sz118 O<|qX _ (qK 0 O 4 _ PLe.ptr)<|zA<|R O<|G O<|zX O zDf<|zO yP zQ O<|zV O O (qQ O ok114 ((cg_vt b sl g L hL hg s.E).1 sv code full pre 0 120 hE hrv hcv (by omega) (by omega) (by omega) (by omega)) ⟨zB,O,zB,O,zB,O,zB,O,T⟩) ?_
 rintro _ _ ⟨rfl,sv1,cd1,fu1,hE1,rfl⟩
 refine zA<|R O<|G O<|zO agg118 zQ O<|zX O zKa<|zH wJ zQ O<|zV O O (qQ O ok115 (cg_address hE1 hL s.Name s.Idx hg q1 q2 q3 (by omega)) ⟨zB,O,zB,O,zB,O,T⟩) ?_
 rintro _ _ ⟨rfl,sv2,cd2,fu2,hE2,rfl⟩
 refine zA<|R O<|G O<|zA<|zI<|R O<|zX O zBu<|zH one3 zQ O<|qZ O<|zA<|zC O (fun c1=>?_) (fun c1=>?_)
 ·try simp only [sx] at c1
  refine R O<|G O<|zA<|zI<|qW 7 mixed (by kernel_rfl) O O<|zL O O (zN O O)<|zL O O (qI O O)<|zL O O (zD O kB O)<|zL O O (qF O zFm O)<|zL O O (zF O one3 O zQ O)<|zL O O (qF O zIs O)<|zL O O (zF O one3 O zQ O)<|yJ<|zV O O (qQ O ok63 (zDx hE2 (10) (1) (100) (g.bs_ s.Name) (g.en s.Name)) ⟨zB,O,zB,O,zB,O,zB,O,zB,O,zB,O,T⟩) ?_
  rintro _ _ ⟨rfl,sv3,cd3,fu3,hE3,rfl⟩
  refine zA<|qW 7 mixed (by kernel_rfl) O O<|zL O O (zN O O)<|zL O O (qF O zSu O)<|zL O O (zF O one3 O zQ O)<|zL O O (qS O ok117 (cg_operator s.Fold) ⟨zB,O,T⟩)<|zL O O (qF O zNx O)<|zL O O (qF O zHg O)<|zL O O (qC O yH O zQ O)<|yJ<|zV O O (qQ O ok116 (cg_op hE3 (12) (rK s.Fold) (1) (1) (0) ((dI g.n.Bufs s.Name).T) _ (fun _=>O)) ⟨zB,O,zB,O,zB,O,zB,O,zB,O,zB,O,zB,O,T⟩) ?_
  rintro _ _ ⟨rfl,sv4,cd4,fu4,hE4,rfl⟩
  refine zA<|qW 8 mixed (by kernel_rfl) O O<|zL O O (zN O O)<|zL O O (qI O O)<|zL O O (zD O kB O)<|zL O O (zN O O)<|zL O O (qF O zFm O)<|zL O O (zF O one3 O zQ O)<|zL O O (qF O zIs O)<|zL O O (zF O one3 O zQ O)<|yJ<|zV O O (qQ O ok63 (zDx hE4 (11) (1) (100) (g.bs_ s.Name) (g.en s.Name)) ⟨zB,O,zB,O,zB,O,zB,O,zB,O,zB,O,T⟩) ?_
  rintro _ _ ⟨rfl,sv5,cd5,fu5,hE5,rfl⟩
  refine zA ?_
  repeat (first|refine qV ?_|refine qT ?_)
  refine yF<|U ?_
  refine ⟨O,sv5,cd5,fu5,sl,?_,O⟩
  unfold tE
  rw [if_pos c1]
  have h9:=hE5
  exact v15
 ·try simp only [sx] at c1
  refine zJ<|qW 8 mixed (by kernel_rfl) O O<|zL O O (zN O O)<|zL O O (qI O O)<|zL O O (zD O kB O)<|zL O O (zN O O)<|zL O O (qF O zFm O)<|zL O O (zF O one3 O zQ O)<|zL O O (qF O zIs O)<|zL O O (zF O one3 O zQ O)<|yJ<|zV O O (qQ O ok63 (zDx hE2 (11) (0) (100) (g.bs_ s.Name) (g.en s.Name)) ⟨zB,O,zB,O,zB,O,zB,O,zB,O,zB,O,T⟩) ?_
  rintro _ _ ⟨rfl,sv5,cd5,fu5,hE5,rfl⟩
  refine zA ?_
  repeat (first|refine qV ?_|refine qT ?_)
  refine yF<|U ?_
  refine ⟨O,sv5,cd5,fu5,sl,?_,O⟩
  unfold tE
  rw [if_neg c1]
  have h9:=hE5
  exact v15
set_option maxHeartbeats 4000000 in
theorem cg_clear {b:Nat} {sv sl:Value} {code:List In} {full:Bool} {g:Gn} {L:List ByteArray} {pre:List In} (hE:Em pre code full) (s:ByteArray) (hg:g.Ok):
    Con cfg 28 [vPt b,vS s] (fJ b sv sl code full g L) fun r μ'=>r=.tup []/\∃sv' code' full',Em (pre++xN g s pre.length) code' full'/\μ'=fJ b sv' sl code' full' g L:=by
 refine zU Tryz.func28 O Tryz.ntmps28 Tryz.results28 O ?_
 intro z hz
 refine R O<|G O<|G O<|zW O (yI [0,0,0] O ok60 (cg_find  s hg) ⟨zB,O,zB,O,T⟩ O)<|zV O O (qR [none,none,none,none,none,none,some 1,none,none,none,some 1] O zr118 O) ?_
 rintro _ _ ⟨b1,rfl,rfl⟩
 refine D 0 sz118 O<|qX _ (qK 0 O 4 _ PLe.ptr)<|zA<|R O<|G O<|qE O<|zG O kB<|yZ O zr44 pl44<|yZ O zr46 pl46<|zV O O (qQ O ok30 (zOh hE (⟨9,0,0,0,⟨0,1⟩,zTy⟩) _ (fun _=>O)) ⟨zB,O,zB,O,T⟩) ?_
 rintro _ _ ⟨rfl,sv1,cd1,fu1,hE1,rfl⟩
 refine zA<|zI<|qW 5 mixed (by kernel_rfl) O O<|zL O O (zN O O)<|zL O O (qI O O)<|zL O O (zD O kB O)<|zL O O (qF O zFm O)<|zL O O (zF O one3 O zQ O)<|yJ<|zV O O (qQ O ok61 (kJ hE1 (1) (100) (g.bs_ s) (0) _ (fun _=>O)) ⟨zB,O,zB,O,zB,O,zB,O,zB,O,T⟩) ?_
 rintro _ _ ⟨rfl,sv2,cd2,fu2,hE2,rfl⟩
 refine zA<|R O<|G O<|qE O<|zG O kB<|zW O (yI [0,0,0] O ok62 (cg_here ) ⟨zB,O,T⟩ O)<|G O<|zA<|zI<|qW 7 mixed (by kernel_rfl) O O<|zL O O (zN O O)<|zL O O (qI O O)<|zL O O (zD O kB O)<|zL O O (qF O zFm O)<|zL O O (zF O one3 O zQ O)<|zL O O (qF O zIs O)<|zL O O (zF O one3 O zQ O)<|yJ<|zV O O (qQ O ok63 (zDx hE2 (11) (0) (100) (g.bs_ s) (g.en s)) ⟨zB,O,zB,O,zB,O,zB,O,zB,O,zB,O,T⟩) ?_
 rintro _ _ ⟨rfl,sv3,cd3,fu3,hE3,rfl⟩
 refine zA<|R O<|G O<|qE O<|zG O kB<|zV O O (qQ O ok61 (kJ hE3 (1) (101) (1) (0) _ (fun _=>O)) ⟨zB,O,zB,O,zB,O,zB,O,zB,O,T⟩) ?_
 rintro _ _ ⟨rfl,sv4,cd4,fu4,hE4,rfl⟩
 refine zA<|R O<|G O<|qE O<|zG O kB<|zV O O (qQ O ok61 (kJ hE4 (3) (100) (100) (101) _ (fun _=>O)) ⟨zB,O,zB,O,zB,O,zB,O,zB,O,T⟩) ?_
 rintro _ _ ⟨rfl,sv5,cd5,fu5,hE5,rfl⟩
 refine zA<|zI<|qW 5 mixed (by kernel_rfl) O O<|zL O O (zN O O)<|zL O O (qI O O)<|zL O O (zD O kB O)<|zL O O (qF O zIs O)<|zL O O (zF O one3 O zQ O)<|yJ<|zV O O (qQ O ok61 (kJ hE5 (1) (102) (g.en s) (0) _ (fun _=>O)) ⟨zB,O,zB,O,zB,O,zB,O,zB,O,T⟩) ?_
 rintro _ _ ⟨rfl,sv6,cd6,fu6,hE6,rfl⟩
 refine zA<|zM O<|G O<|qE O<|zG O kB<|G O<|zV O O (qQ O ok61 (kJ hE6 (8) (cd2.length) (100) (102) (iN 8 (pre.length+2) 100 102) (fun h9=>by have h8:=hE2.hr;simp only [List.length_append,List.length_cons,List.length_nil] at h9 h8;rw [h8,hr_in (by omega)];rfl)) ⟨zB,O,zB,O,zB,O,zB,O,zB,O,T⟩) ?_
 rintro _ _ ⟨rfl,sv7,cd7,fu7,hE7,rfl⟩
 refine zA ?_
 repeat (first|refine qV ?_|refine qT ?_)
 refine yF<|U ?_
 refine ⟨O,sv7,cd7,fu7,?_,O⟩
 unfold xN tF
 have h9:=hE7
 exact v15
theorem cg_loop_1 {b:Nat} {sv sl:Value} {code:List In} {full:Bool} {g:Gn} {L:List ByteArray} (M:List ByteArray):
    ConD cfg 118 [.c (.iptr [.lit (.pointer (some ⟨b,0,none⟩))]),.c (.iptr [cI L.length])] (fJ b sv sl code full g (L++M)) (fun μ'=>∃sl',μ'=fJ b sv sl' code full g L):=by
 refine conD_intro Tryz.func118 O Tryz.ntmps118 Tryz.results118 O ?_
 intro z
 refine yS 7 0 [⟨0,.q []⟩,⟨1,.q []⟩,⟨2,.q []⟩,⟨3,.q []⟩,⟨4,.q [0]⟩,⟨5,.q []⟩,⟨6,.e 2 []⟩] mixed (by kernel_rfl) (by kernel_rfl) O O O<|v O<|v O<|v O<|v O<|v O<|v O<|v O<|zAg<|zY O (by decide) O O (zF O zKr O zQ O)<|zY O (by decide) O O (zF O zKr O zQ O)<|zY O (by decide) O O (qI O O)<|zY O (by decide) O O (zD O fd80_4 O)<|zY O (by decide) O O (zF O zIh O (Y 0 O) O)<|zY O (by decide) O O (zF O one3 O zQ O)<|zHk O O (by decide) O O (zEi (k:=L.length) 0 O el78 O O O O (by simp)) ?_
 rintro _ _ ⟨sv1,rfl,rfl⟩
 refine ⟨_,O,?_⟩
 refine zAe O<|qE O<|zG O fd80_4<|D 0 sz78 O<|zA ?_
 refine ⟨.inl O,?_⟩
 have e9:List.take L.length (List.map (fun s=>[cS s]) (L++M))=L.map (fun s=>[cS s]):=by rw [List.map_append,List.take_left' (by simp)]
 exact ⟨sv1,congrArg (fun q=>[E.row b 80 [.lit sv,.lit (.bool full),.sl 8 (g.n.Bufs.map Bf.cells),.sl 20 (g.n.Body.map St.cells),.sl 5 (g.ty.map tyC),.sl 3 (g.sl.map Sl.cells),.lit sv1],E.vec sv 46 11 (code.map In.cells),E.vec sv1 9 1 q]) e9⟩
set_option maxHeartbeats 4000000 in
theorem cg_loop {b:Nat} {sv sl:Value} {code:List In} {full:Bool} {g:Gn} {L:List ByteArray} {pre:List In} (hE:Em pre code full) (hg:g.Ok) (s:St) (hr:RdS g s L) (ho:s.Op=1) (hw:L.length+s.wt<=900000) (ih:SW b g s.Body):
    Con cfg 65 [vPt b,vSt s] (fJ b sv sl code full g L) fun r μ'=>r=.tup []/\∃sv' code' full' sl',Em (pre++stC g s L pre.length) code' full'/\μ'=fJ b sv' sl' code' full' g L:=by
 refine con_introD Tryz.func65 O Tryz.ntmps65 O ?_
 intro z hx
 have hz:=hx.1
 have hwt:=St.wt_eq s
 rw [RdS_eq] at hr
 obtain ⟨hm,hrb⟩:=hr.1 ho
 have hLn:(L++[s.Name]).length=L.length+1:=by simp
 refine xSeq hx<|zM O<|zV O O (qO O O) ?_
 rintro _ _ ⟨b1,rfl,rfl⟩
 refine qX _ (qK 0 O 2 _ PLe.ptr)<|zV O O (qO O O) ?_
 rintro _ _ ⟨b2,rfl,rfl⟩
 refine qX _ (qK 0 O 3 _ PLe.ptr)<|zA<|xSeq hx<|zM O<|zH zKr zQ O<|qE O<|zG O fd80_4<|zH zIh (Y 0 O) O<|zW O (yL 2 O el78 O O)<|zV O O (yN O zr3) ?_
 rintro _ _ ⟨b3,rfl,rfl⟩
 refine D 0 sz3 O<|qX _ (qK 0 O 4 _ PLe.ptr)<|zA<|xSeq hx ?_
 rw [List.length_map]
 refine yS 9 0 [⟨0,.q []⟩,⟨1,.q []⟩,⟨2,.q []⟩,⟨3,.q []⟩,⟨4,.q [0]⟩,⟨5,.q []⟩,⟨6,.q []⟩,⟨7,.q []⟩,⟨8,.e 2 []⟩] mixed (by kernel_rfl) (by kernel_rfl) O O O<|v O<|v O<|v O<|v O<|v O<|v O<|v O<|v O<|v O<|zAg<|zY O (by decide) O O (zF O zKr O zQ O)<|zY O (by decide) O O (zF O zKr O zQ O)<|zY O (by decide) O O (qI O O)<|zY O (by decide) O O (zD O fd80_4 O)<|zY O (by decide) O O (zF O zIh O (Y 0 O) O)<|zY O (by decide) O O (qF O zCp O)<|zY O (by decide) O O (zF O one9 O zQ O)<|zY O (by decide) O O (yM O el78 zr9 O O O O)<|zHk O O (by decide) O O (yQ 0 O el78 O O O (by simp only [List.length_map,List.length_cons,List.length_nil];omega) (by simp only [List.length_map,List.length_cons,List.length_nil];omega)) ?_
 rintro _ _ ⟨sv4,rfl,rfl⟩
 refine ⟨_,O,?_⟩
 refine zAe O<|qE O<|zG O fd80_4<|D 0 sz78 O<|zA<|xDefer hx Tryz.results65 (by decide) O O (zFe O O O O O) O O O ok118 ?_
 intro z hz
 refine zI<|zI<|zT _ (Weak.vecEq 2 O (rows':=(L++[s.Name]).map fun s=>[cS s]) (by first|rfl|simp|rw [List.take_of_length_le (by simp)]))<|zM O<|zX O zSv<|zH one3 zQ O<|qZ O<|zA<|zC O (fun c1=>?_) (fun c1=>?_)
 ·try simp only [sx] at c1
  refine zI<|R O<|G O<|zA<|zP<|zT ⟨[(5,.c _),(2,.c _),(3,.c _),(4,.c _)],[_,_,_]⟩ (Weak.mk [true,true,true] ⟨zB,zB,zB,zB,T⟩ O)<|qG 1 3 O O (Nat×Value×Value×List In×Bool) (fun ⟨i,sw,lw,cw,fw⟩=>[(5,vI i)]) (fun ⟨i,sw,lw,cw,fw⟩=>[E.row b 80 [.lit sw,.lit (.bool fw),.sl 8 (g.n.Bufs.map Bf.cells),.sl 20 (g.n.Body.map St.cells),.sl 5 (g.ty.map tyC),.sl 3 (g.sl.map Sl.cells),.lit lw],E.vec sw 46 11 (cw.map In.cells),E.vec lw 9 1 ((L++[s.Name]).map fun s=>[cS s])]) (fun ⟨i,sw,lw,cw,fw⟩=>i<=s.Many.toNat/\Em (pre++mE (jB g s.Body (L++[s.Name])) L.length pre.length i) cw fw) (fun ⟨i,sw,lw,cw,fw⟩=>s.Many.toNat-i) ⟨⟨0,sv,sv4,code,full⟩,⟨by omega,by simpa [mE] using hE⟩,Weak.mk [true,true,true] ⟨zB,zB,zB,zB,T⟩ O⟩ ?_
  rintro ⟨i,sw,lw,cw,fw⟩ ⟨hi,hq⟩
  refine zI<|R O<|G O<|zX O zMi<|zH one3 zQ O<|yB O<|G O<|rL0 O (fun g6_4=>zF O zKr O zQ O) O<|A 32 O (fun g6_4=>qI O O) O<|A 33 O (fun g6_4=>zD O kB O) O<|A 34 O (fun g6_4=>zD O zSt O) O<|A 35 O (fun g6_4=>zF O one4 O (Y 0 O) O) O<|A 36 O (fun g6_4=>wA O O) O<|yK O (fun h=>h)<|zA<|zC O (fun c2=>?_) (fun c2=>?_)
  ·try simp only [sx] at c2
   refine zJ<|zI<|zP<|zI<|qW 5 mixed (by kernel_rfl) O O<|zL O O (zF O zKr O zQ O)<|zL O O (qI O O)<|zL O O (zD O kB O)<|zL O O (zF O one3 O zQ O)<|zL O O (zN O O)<|yJ<|zV O O (qQ O ok61 (kJ hq (1) (L.length) (i) (0) _ (fun _=>O)) ⟨zB,O,zB,O,zB,O,zB,O,zB,O,T⟩) ?_
   rintro _ _ ⟨rfl,sv21,cd21,fu21,hE21,rfl⟩
   refine zA<|zM O<|zH zKr zQ O<|zX O zCo<|zH zBm zQ O<|zV O O (qQ O ok29 (ih sv21 lw cd21 fu21 (L++[s.Name]) (pre++mE (jB g s.Body (L++[s.Name])) L.length pre.length i++[iN 1 L.length i 0]) hE21 hrb (by omega)) ⟨zB,O,zB,O,T⟩) ?_
   rintro _ _ ⟨rfl,sv22,cd22,fu22,sl22,hE22,rfl⟩
   refine zA<|zM O<|G O<|qB O ⟨by omega,by omega⟩<|G O<|zA ?_
   refine ⟨⟨i+1,sv22,sl22,cd22,fu22⟩,⟨by omega,by rw [unr_next];exact hE22⟩,(by show s.Many.toNat-(i+1)<s.Many.toNat-i;omega),Weak.mk [true,true,true] ⟨zB,zB,zB,zB,T⟩ O⟩
  ·try simp only [sx] at c2
   refine qH<|zK<|U<|ConD.mono (cg_loop_1 [s.Name]) ?_
   rintro _ ⟨sl',rfl⟩
   refine ⟨sw,cw,fw,sl',?_,O⟩
   rw [stC_1u ho c1]
   by_cases c9:fw=true
   · rw [c9] at hq⊢;exact unr_skip hi hq
   · have e9:i=s.Many.toNat:=by simp only [c9] at c2;simp at c2;omega
     rw [←e9];exact hq
 ·try simp only [sx] at c1
  refine zJ<|zI<|qW 4 mixed (by kernel_rfl) O O<|zL O O (zF O zKr O zQ O)<|zL O O (qI O O)<|zL O O (zD O kB O)<|zL O O (zF O one3 O zQ O)<|yJ<|zV O O (qQ O ok61 (kJ hE (1) (L.length) (0) (0) _ (fun _=>O)) ⟨zB,O,zB,O,zB,O,zB,O,zB,O,T⟩) ?_
  rintro _ _ ⟨rfl,sv21,cd21,fu21,hE21,rfl⟩
  refine zA<|R O<|zH zKr zQ O<|qE O<|zG O kB<|zW O (yI [0,0,0] O ok62 (cg_here) ⟨zB,O,T⟩ O)<|G O<|zA<|R O<|zH zKr zQ O<|zX O zCo<|zH zBm zQ O<|zV O O (qQ O ok29 (ih sv21 sv4 cd21 fu21 (L++[s.Name]) (pre++[iN 1 L.length 0 0]) hE21 hrb (by omega)) ⟨zB,O,zB,O,T⟩) ?_
  rintro _ _ ⟨rfl,sv22,cd22,fu22,sl22,hE22,rfl⟩
  refine zA<|R O<|zH zKr zQ O<|qE O<|zG O kB<|zV O O (qQ O ok61 (kJ hE22 (1) (101) (1) (0) _ (fun _=>O)) ⟨zB,O,zB,O,zB,O,zB,O,zB,O,T⟩) ?_
  rintro _ _ ⟨rfl,sv23,cd23,fu23,hE23,rfl⟩
  refine zA<|zI<|qW 5 mixed (by kernel_rfl) O O<|zL O O (zF O zKr O zQ O)<|zL O O (qI O O)<|zL O O (zD O kB O)<|zL O O (zF O one3 O zQ O)<|zL O O (zF O one3 O zQ O)<|yJ<|zV O O (qQ O ok61 (kJ hE23 (3) (L.length) (L.length) (101) _ (fun _=>O)) ⟨zB,O,zB,O,zB,O,zB,O,zB,O,T⟩) ?_
  rintro _ _ ⟨rfl,sv24,cd24,fu24,hE24,rfl⟩
  refine zA<|zI<|qW 5 mixed (by kernel_rfl) O O<|zL O O (zF O zKr O zQ O)<|zL O O (qI O O)<|zL O O (zD O kB O)<|zL O O (qF O zMi O)<|zL O O (zF O one3 O zQ O)<|yJ<|zV O O (qQ O ok61 (kJ hE24 (1) (102) (s.Many) (0) _ (fun _=>O)) ⟨zB,O,zB,O,zB,O,zB,O,zB,O,T⟩) ?_
  rintro _ _ ⟨rfl,sv25,cd25,fu25,hE25,rfl⟩
  refine zA<|qW 5 mixed (by kernel_rfl) O O<|zL O O (zF O zKr O zQ O)<|zL O O (qI O O)<|zL O O (zD O kB O)<|zL O O (zN O O)<|zL O O (zF O one3 O zQ O)<|yJ<|zV O O (qQ O ok61 (kJ hE25 (8) (cd21.length) (L.length) (102) (iN 8 (pre.length+1) L.length 102) (fun h9=>by have h8:=hE21.hr;simp only [List.length_append,List.length_cons,List.length_nil] at h9 h8;rw [h8,hr_in (by omega)];rfl)) ⟨zB,O,zB,O,zB,O,zB,O,zB,O,T⟩) ?_
  rintro _ _ ⟨rfl,sv26,cd26,fu26,hE26,rfl⟩
  refine zA ?_
  repeat (first|refine qV ?_|refine qT ?_)
  refine yF<|U ?_
  refine ConD.mono (cg_loop_1 [s.Name]) ?_
  rintro _ ⟨sl',rfl⟩
  refine ⟨sv26,cd26,fu26,sl',?_,O⟩
  rw [stC_1 ho c1]
  unfold xL tF
  have h9:=hE26
  simp only [lenI,len1,List.append_assoc,List.cons_append,List.nil_append,List.append_nil] at h9⊢
  exact h9
set_option maxHeartbeats 4000000 in
theorem zMy {b:Nat} {sv sl:Value} {code:List In} {full:Bool} {g:Gn} {L:List ByteArray} {pre:List In} (hE:Em pre code full) (hg:g.Ok) (l:List St) (hr:mX g l L) (hw:L.length+bL l<=900000) (ih:∀x,x∈l->SW b g x.Body):
    Con cfg 29 [vPt b,fV l] (fJ b sv sl code full g L) fun r μ'=>r=.tup []/\∃sv' code' full' sl',Em (pre++jB g l L pre.length) code' full'/\μ'=fJ b sv' sl' code' full' g L:=by
 refine zU Tryz.func29 O Tryz.ntmps29 Tryz.results29 O ?_
 intro z hz
 have hll:=wL l
 refine R O<|G O<|zZ O el23<|G O<|zA<|zP<|zT ⟨[(9,.c _),(0,.c _),(7,.c _),(8,.c _)],[_,_,_]⟩ (Weak.mk [true,true,true] ⟨zB,zB,zB,zB,T⟩ O)<|qG 1 3 O O (Nat×Value×Value×List In×Bool) (fun ⟨k,sw,lw,cw,fw⟩=>[(9,vI k)]) (fun ⟨k,sw,lw,cw,fw⟩=>[E.row b 80 [.lit sw,.lit (.bool fw),.sl 8 (g.n.Bufs.map Bf.cells),.sl 20 (g.n.Body.map St.cells),.sl 5 (g.ty.map tyC),.sl 3 (g.sl.map Sl.cells),.lit lw],E.vec sw 46 11 (cw.map In.cells),E.vec lw 9 1 (L.map fun s=>[cS s])]) (fun ⟨k,sw,lw,cw,fw⟩=>k<=l.length/\(Em (pre++jB g (l.take k) L pre.length) cw fw)) (fun ⟨k,sw,lw,cw,fw⟩=>l.length-k) ⟨⟨0,sv,sl,code,full⟩,⟨by omega,(by simpa [jB,lE] using hE)⟩,Weak.mk [true,true,true] ⟨zB,zB,zB,zB,T⟩ O⟩ ?_
 rintro ⟨k,sw,lw,cw,fw⟩ ⟨hk,hq⟩
 show AWP _ _ _ _ _ ⟨[(9,vI k)]++_,[E.row b 80 [.lit sw,.lit (.bool fw),.sl 8 (g.n.Bufs.map Bf.cells),.sl 20 (g.n.Body.map St.cells),.sl 5 (g.ty.map tyC),.sl 3 (g.sl.map Sl.cells),.lit lw],E.vec sw 46 11 (cw.map In.cells),E.vec lw 9 1 (L.map fun s=>[cS s])]++_⟩
 refine R O<|yB O<|zA<|zI<|zC O (fun c1=>?_) (fun c1=>?_)
 ·try simp only [sx] at c1
  obtain ⟨x,hx⟩:=qU l k (by omega)
  have hxw:=kL (qA hx)
  have hxe:=St.wt_eq x
  have hxr:=zNe hr (qA hx)
  have hxq:=hxr
  rw [RdS_eq] at hxq
  refine zJ<|zI<|zP<|R O<|qD O el23 (by omega) (zEl (by assumption))<|zO zFo zQ O<|zV O O (qR [none,none,none,none,none,some 4,none,none,none,none,none,none,none,none,none,none,some 2,some 4,some 13,some 20] O zr59 O) ?_
  rintro _ _ ⟨b1,rfl,rfl⟩
  refine D 0 sz59 O<|qX _ (qK 0 O 5 _ PLe.ptr)<|zA<|zI<|R O<|G O<|qE O<|zG O kB<|zG O zSt<|zH one4 (Y 0 O) O<|zA<|zC O (fun c2=>?_) (fun c2=>?_)
  ·try simp only [sx] at c2
   refine zK<|U ?_
   have hfl:fw=true:=by simpa using c2
   subst hfl
   exact ⟨O,sw,cw,true,lw,sts_skip k hq,O⟩
  ·try simp only [sx] at c2
   refine zJ<|R O<|zX O zBu<|zH one3 zQ O<|zA<|zP<|zI<|R O<|qZ O<|G O<|zA<|zC O (fun c3=>?_) (fun c3=>?_)
   ·have d1:x.Op=2:=of_decide_eq_true c3
    refine zJ<|zC O (fun c4=>?_) (fun c4=>?_)
    ·exact m9
    ·exact absurd (c3.symm.trans c4) (by simp)
   ·have d1:¬x.Op=2:=of_decide_eq_false c3
    refine zM O<|qZ O<|G O<|zA<|zC O (fun c4=>?_) (fun c4=>?_)
    ·exact m9
    ·have d2:¬x.Op=3:=of_decide_eq_false c4
     refine R O<|qZ O<|G O<|zA<|zC O (fun c5=>?_) (fun c5=>?_)
     ·try simp only [sx] at c5
      refine zM O<|G O<|zO zFo zQ O<|zV O O (qQ O ok65 (cg_loop hq hg x hxr c5 (by omega) (ih x (qA hx))) ⟨zB,O,zB,O,T⟩) ?_
      rintro _ _ ⟨rfl,sv5,cd5,fu5,sl5,hE5,rfl⟩
      refine zA<|zM O<|qB O ⟨by omega,by omega⟩<|G O<|zA ?_
      refine ⟨⟨k+1,sv5,sl5,cd5,fu5⟩,⟨by omega,(by rw [zPm hx];exact hE5)⟩,(by show l.length-(k+1)<l.length-k;omega),Weak.mk [true,true,true] ⟨zB,zB,zB,zB,T⟩ O⟩
     ·try simp only [sx] at c5
      refine R O<|qZ O<|G O<|zA<|zC O (fun c6=>?_) (fun c6=>?_)
      ·try simp only [sx] at c6
       obtain ⟨hrt,hct,hrb⟩:=hxq.2.1 c6
       refine R O<|G O<|zX O zDf<|zO yP zQ O<|zV O O (qQ O ok66 ((cg_vt b lw g L (by omega) hg x.E).2 sw cw fw (pre++jB g (l.take k) L pre.length) 0 120 hq hrt hct (by omega) (by omega) (by omega) (by omega)) ⟨zB,O,zB,O,zB,O,zB,O,T⟩) ?_
       rintro _ _ ⟨rfl,sv1,cd1,fu1,hE1,rfl⟩
       refine zA<|R O<|G O<|qE O<|zG O kB<|zV O O (qQ O ok61 (kJ hE1 (1) (121) (1) (0) _ (fun _=>O)) ⟨zB,O,zB,O,zB,O,zB,O,zB,O,T⟩) ?_
       rintro _ _ ⟨rfl,sv2,cd2,fu2,hE2,rfl⟩
       refine zA<|R O<|G O<|qE O<|zG O kB<|zV O O (qQ O ok61 (kJ hE2 (8) (0) (120) (121) _ (fun _=>O)) ⟨zB,O,zB,O,zB,O,zB,O,zB,O,T⟩) ?_
       rintro _ _ ⟨rfl,sv3,cd3,fu3,hE3,rfl⟩
       refine G O<|zA<|R O<|G O<|zX O zCo<|zH zBm zQ O<|zV O O (qQ O ok29 (ih x (qA hx) sv3 lw cd3 fu3 L (pre++jB g (l.take k) L pre.length++lS g L x.E (pre++jB g (l.take k) L pre.length).length 0 120++[iN 1 121 1 0]++[iN 8 0 120 121]) hE3 hrb (by omega)) ⟨zB,O,zB,O,T⟩) ?_
       rintro _ _ ⟨rfl,sv4,cd4,fu4,sl5,hE4,rfl⟩
       refine zA<|zM O<|G O<|qE O<|zG O kB<|G O<|zV O O (qQ O ok67 (cg_land hE4 (pre++jB g (l.take k) L pre.length++lS g L x.E (pre++jB g (l.take k) L pre.length).length 0 120++[iN 1 121 1 0]).length (by simp only [List.length_append,List.length_singleton];omega) _ O) ⟨zB,O,zB,O,T⟩) ?_
       rintro _ _ ⟨rfl,sv5,cd5,fu5,hE5,rfl⟩
       refine zA<|zM O<|qB O ⟨by omega,by omega⟩<|G O<|zA ?_
       refine ⟨⟨k+1,sv5,sl5,cd5,fu5⟩,⟨by omega,(by rw [zPm hx,stC_4 c6,←cf_set (fun p=>lS g L x.E p 0 120)];exact hE5)⟩,(by show l.length-(k+1)<l.length-k;omega),Weak.mk [true,true,true] ⟨zB,zB,zB,zB,T⟩ O⟩
      ·try simp only [sx] at c6
       exact absurd hxq.2.2.2 (by omega)
 ·try simp only [sx] at c1
  refine qH ?_
  repeat (first|refine qV ?_|refine qT ?_)
  refine yF<|U ?_
  rw [yA (l:=l) (k:=k) (by omega)] at hq
  exact ⟨O,sw,cw,fw,lw,hq,O⟩
theorem cg_stmts (b:Nat) (g:Gn) (hg:g.Ok) (l:List St):SW b g l:=by
  have key:∀s:St,SW b g s.Body:=fun s=>by
    induction s using St.ind with
    |_ s ih=>exact fun sv sl code full L pre hE hr hw=>zMy hE hg s.Body hr hw ih
  exact fun sv sl code full L pre hE hr hw=>zMy hE hg l hr hw fun x _=>key x
end Go.W
