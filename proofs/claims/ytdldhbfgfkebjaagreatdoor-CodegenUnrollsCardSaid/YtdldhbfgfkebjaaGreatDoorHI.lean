/-
  What functions compute.
  Conditions: none.
-/
import Derived.Test.YtdldhbfgfkebjaaGreatDoorHH
set_option linter.unusedSimpArgs false
set_option linter.unusedVariables false
set_option maxRecDepth 10000
namespace Go.W
open Go Go.Eng Go.Proofs Go.L41 Go.Br
attribute [local irreducible] AWP RWP TD fP
abbrev fJ (b:Nat) (sv sl:Value) (code:List In) (full:Bool) (g:Gn) (L:List ByteArray):List E:=
  [.row b 90 [.sl 8 (g.n.Bufs.map Bf.cells),.sl 20 (g.n.Body.map St.cells),.sl 5 (g.ty.map tyC),.sl 3 (g.sl.map Sl.cells),.lit sl,.lit sv,.lit (.bool full)],.vec sv 46 11 (code.map In.cells),.vec sl 9 1 (L.map fun s=>[cS s])]
theorem bufD_of {l:List Bf} {k:Nat} {x:Bf} {s:ByteArray} (h:l[k]? =some x) (hp:bO (l.take k) s=false) (hx:x.Name=s):dF l s=x:=by
  induction l generalizing k with
  |nil=>simp at h
  |cons a r ih=>
    rw [dF]
    cases k with
    |zero=>simp only [List.getElem?_cons_zero,Option.some.injEq] at h;subst h;rw [if_pos hx]
    |succ k=>
      rw [List.take_succ_cons] at hp
      unfold bO at hp
      rw [List.any_cons,Bool.or_eq_false_iff] at hp
      rw [if_neg (of_decide_eq_false hp.1)]
      exact ih (by simpa using h) hp.2
theorem fd90_0:bD Tryz.prog 90 0=some (0,25):=by kernel_rfl
theorem fd90_1:bD Tryz.prog 90 1=some (2,28):=by kernel_rfl
theorem fd90_2:bD Tryz.prog 90 2=some (3,33):=by kernel_rfl
theorem zNe:bD Tryz.prog 90 3=some (4,78):=by kernel_rfl
theorem zTm:bD Tryz.prog 90 4=some (5,32):=by kernel_rfl
theorem fd90_5:bD Tryz.prog 90 5=some (6,4):=by kernel_rfl
theorem ok36:bA Tryz.prog 36=true:=by kernel_rfl
theorem ok76:bA Tryz.prog 76=true:=by kernel_rfl
theorem ok77:bA Tryz.prog 77=true:=by kernel_rfl
theorem ok78:bA Tryz.prog 78=true:=by kernel_rfl
theorem ok79:bA Tryz.prog 79=true:=by kernel_rfl
theorem ok80:bA Tryz.prog 80=true:=by kernel_rfl
theorem ok125:bA Tryz.prog 125=true:=by kernel_rfl
theorem zHi {b:Nat} {sv sl:Value} {code:List In} {full:Bool} {g:Gn} {L:List ByteArray}  :
    Con cfg 78 [vPt b] (fJ b sv sl code full g L) fun r μ'=>r=vI code.length/\μ'=fJ b sv sl code full g L:=by
 refine zW Tryz.func78 O Tryz.ntmps78 Tryz.results78 O ?_
 intro z hz
 refine R O<|G O<|zA<|R O<|G O<|qI O<|zJ O zTm<|zE zIk (A 0 O) O<|zZ O (yK 1 O el32 O O)<|G O<|zA<|zN<|zV O ?_
 exact ⟨congrArg vI (by rw [List.length_map]),O⟩
set_option maxHeartbeats 4000000 in
theorem zDf {b:Nat} {sv sl:Value} {code:List In} {full:Bool} {g:Gn} {L:List ByteArray} {pre:List In} (hE:Em pre code full) (i j:In) (hij:pre.length<65536->i=j):
    Con cfg 77 [vPt b,vIn i] (fJ b sv sl code full g L) fun r μ'=>r=.tup []/\∃sv' code' full',Em (pre++[j]) code' full'/\μ'=fJ b sv' sl code' full' g L:=by
 refine zW Tryz.func77 O Tryz.ntmps77 Tryz.results77 O ?_
 intro z hz
 have hlen:=hE.len
 refine R O<|zS O O (qP O O) ?_
 rintro _ _ ⟨b1,rfl,rfl⟩
 refine qT _ (qM 0 O 3 _ PLe.ptr)<|zA<|zF<|R O<|G O<|qI O<|zJ O zTm<|zE zIk (A 0 O) O<|zZ O (yK 1 O el32 O O)<|zZ O (kY O O O)<|zA<|zD O (fun c1=>?_) (fun c1=>?_)
 ·try simp only [sx] at c1
  refine R O<|G O<|qI O<|zJ O fd90_5<|Y 0 sz4 O<|zA<|zN<|U ?_
  exact ⟨O,sv,code,true,hE.full (by omega) j,O⟩
 ·try simp only [sx] at c1
  refine zI<|yL 8 0 [⟨0,.q []⟩,⟨1,.q []⟩,⟨2,.q []⟩,⟨3,.q []⟩,⟨4,.q [0]⟩,⟨5,.q []⟩,⟨6,.q []⟩,⟨7,.e 1 []⟩] mixed (by kernel_rfl) (by kernel_rfl) O O O<|J O<|J O<|J O<|J O<|J O<|J O<|J O<|J O<|wQ<|zX O (by decide) O O (zM O O)<|zX O (by decide) O O (zM O O)<|zX O (by decide) O O (qL O O)<|zX O (by decide) O O (zH O zTm O)<|zX O (by decide) O O (zC O zIk O (A 0 O) O)<|zX O (by decide) O O (qC O agg46 O zO O)<|zX O (by decide) O O (yJ O el32 zr46 O O O O)<|zEs O O (by decide) O O (yI 0 O el32 O O O (by simp only [List.length_map,List.length_cons,List.length_nil];omega) (by simp only [List.length_map,List.length_cons,List.length_nil];omega)) ?_
  rintro _ _ ⟨sv2,rfl,rfl⟩
  refine ⟨_,O,?_⟩
  refine wP O<|qI O<|zJ O zTm<|Y 0 sz32 O<|zA ?_
  repeat (first|refine qZ ?_|refine qV ?_)
  refine yP<|U ?_
  refine ⟨O,sv2,code++[i],full,hE.push (by omega) hij,?_⟩
  simp only [fJ,List.map_append];rfl
set_option maxHeartbeats 4000000 in
theorem kV {b:Nat} {sv sl:Value} {code:List In} {full:Bool} {g:Gn} {L:List ByteArray} {pre:List In} (hE:Em pre code full) (op x y u:Int) (j:In) (hij:pre.length<65536->iN op x y u=j):
    Con cfg 36 [vPt b,vI op,vI x,vI y,vI u] (fJ b sv sl code full g L) fun r μ'=>r=.tup []/\∃sv' code' full',Em (pre++[j]) code' full'/\μ'=fJ b sv' sl code' full' g L:=by
 refine zW Tryz.func36 O Tryz.ntmps36 Tryz.results36 O ?_
 intro z hz
 refine zK O<|G O<|G O<|G O<|G O<|G O<|yS O zr46 pl46<|zS O O (W O ok77 (zDf hE (iN op x y u) j hij) ⟨zB,O,zB,O,T⟩) ?_
 rintro _ _ ⟨rfl,sv1,cd1,fu1,hE1,rfl⟩
 refine zA ?_
 repeat (first|refine qZ ?_|refine qV ?_)
 refine yP<|U ?_
 exact ⟨O,sv1,cd1,fu1,hE1,O⟩
set_option maxHeartbeats 4000000 in
theorem zEa {b:Nat} {sv sl:Value} {code:List In} {full:Bool} {g:Gn} {L:List ByteArray} {pre:List In} (hE:Em pre code full) (op q x f t:Int):
    Con cfg 79 [vPt b,vI op,vI q,vI x,vI f,vI t] (fJ b sv sl code full g L) fun r μ'=>r=.tup []/\∃sv' code' full',Em (pre++[iA op q x f t]) code' full'/\μ'=fJ b sv' sl code' full' g L:=by
 refine zW Tryz.func79 O Tryz.ntmps79 Tryz.results79 O ?_
 intro z hz
 refine zK O<|G O<|G O<|G O<|G O<|G O<|G O<|yS O zr44 pl44<|yS O zr46 pl46<|zS O O (W O ok77 (zDf hE (iA op q x f t) _ (fun _=>O)) ⟨zB,O,zB,O,T⟩) ?_
 rintro _ _ ⟨rfl,sv1,cd1,fu1,hE1,rfl⟩
 refine zA ?_
 repeat (first|refine qZ ?_|refine qV ?_)
 refine yP<|U ?_
 exact ⟨O,sv1,cd1,fu1,hE1,O⟩
set_option maxHeartbeats 4000000 in
theorem r48_repeat {b:Nat} {sv sl:Value} {code:List In} {full:Bool} {g:Gn} {L:List ByteArray} {pre:List In} (hE:Em pre code full) (a a' x m:Int) (ha:pre.length+3<65536->a=a'):
    Con cfg 80 [vPt b,vI a,vI x,vI m] (fJ b sv sl code full g L) fun r μ'=>r=.tup []/\∃sv' code' full',Em (pre++tX a' x m) code' full'/\μ'=fJ b sv' sl code' full' g L:=by
 refine zW Tryz.func80 O Tryz.ntmps80 Tryz.results80 O ?_
 intro z hz
 refine R O<|G O<|zS O O (W O ok36 (kV hE (1) (101) (1) (0) _ (fun _=>O)) ⟨zB,O,zB,O,zB,O,zB,O,zB,O,T⟩) ?_
 rintro _ _ ⟨rfl,sv1,cd1,fu1,hE1,rfl⟩
 refine zA<|R O<|G O<|G O<|G O<|zS O O (W O ok36 (kV hE1 (3) (x) (x) (101) _ (fun _=>O)) ⟨zB,O,zB,O,zB,O,zB,O,zB,O,T⟩) ?_
 rintro _ _ ⟨rfl,sv2,cd2,fu2,hE2,rfl⟩
 refine zA<|R O<|G O<|G O<|zS O O (W O ok36 (kV hE2 (1) (102) (m) (0) _ (fun _=>O)) ⟨zB,O,zB,O,zB,O,zB,O,zB,O,T⟩) ?_
 rintro _ _ ⟨rfl,sv3,cd3,fu3,hE3,rfl⟩
 refine zA<|zK O<|G O<|G O<|G O<|zS O O (W O ok36 (kV hE3 (8) (a) (x) (102) (iN 8 a' x 102) (fun h9=>by rw [ha (by simpa [List.length_append] using h9)])) ⟨zB,O,zB,O,zB,O,zB,O,zB,O,T⟩) ?_
 rintro _ _ ⟨rfl,sv4,cd4,fu4,hE4,rfl⟩
 refine zA ?_
 repeat (first|refine qZ ?_|refine qV ?_)
 refine yP<|U ?_
 refine ⟨O,sv4,cd4,fu4,?_,O⟩
 unfold tX
 have h9:=hE4
 exact r9
theorem zSt {b:Nat} {sv sl:Value} {code:List In} {full:Bool} {g:Gn} {L:List ByteArray} (s:ByteArray) (hg:g.Ok) (hs:bO g.n.Bufs s=true):
    Con cfg 76 [vPt b,vS s] (fJ b sv sl code full g L) fun r μ'=>r=.tup [vI (g.bs_ s),vI (dE (g.dm s)),vIs (g.dm s),vIs (jD (g.dm s))]/\μ'=fJ b sv sl code full g L:=by
 refine zW Tryz.func76 O Tryz.ntmps76 Tryz.results76 O ?_
 intro z hz
 have hsl:=hg.sl
 have hnb:=hg.nb
 obtain ⟨p1,p2,p3,p4,p5,p6,p7⟩:=hg.plc hs
 refine R O<|G O<|G O<|zZ O (yO 1 O O)<|zZ O (yO 1 O O)<|zA<|zF<|R O<|G O<|zA<|zP<|zU ⟨[(8,.c _),(0,.c _),(1,.c _)],[_,_,_]⟩ (Weak.mk [true,true,true] ⟨zB,zB,zB,T⟩ O)<|qF 1 0 O O (Nat) (fun k=>[(8,vI k)]) (fun k=>[]) (fun k=>k<=g.n.Bufs.length/\(bO (g.n.Bufs.take k) s=false)) (fun k=>g.n.Bufs.length-k) ⟨0,⟨by omega,O⟩,Weak.mk [true,true,true] ⟨zB,zB,zB,T⟩ O⟩ ?_
 rintro k ⟨hk,hp⟩
 refine zF<|R O<|G O<|G O<|qI O<|zJ O fd90_0<|zJ O zAn<|zE zDg (A 0 O) O<|qD O el22<|yC O<|zA<|zD O (fun c1=>?_) (fun c1=>?_)
 ·try simp only [sx] at c1
  obtain ⟨x,hx⟩:=qU g.n.Bufs k (by omega)
  refine zI<|zF<|zP<|R O<|G O<|qI O<|zJ O fd90_0<|zJ O zAn<|zE zDg (A 0 O) O<|G O<|zY O el22 (by omega) (v hx)<|zT O zEc<|zE one9 zO O<|G O<|zZ O (kE O O O)<|zA<|zD O (fun c2=>?_) (fun c2=>?_)
  ·try simp only [sx] at c2
   have hbd:=bufD_of hx hp c2
   have hst:=(hg.slot hx (by rw [c2];exact hp)).1
   rw [c2] at hst
   have hdm:x.Dims=g.dm s:=by show x.Dims=(dF g.n.Bufs s).Dims;rw [hbd]
   have hdl:x.Dims.length<=6:=by rw [hdm];exact p7
   refine R O<|G O<|qI O<|zJ O fd90_0<|zJ O zAn<|zE zDg (A 0 O) O<|G O<|zY O el22 (by omega) (v hx)<|zT O zCn<|zE zCy zO O<|G O<|zA<|zF<|qW 17 mixed (by kernel_rfl) O O<|zL O O (zM O O)<|zL O O (qL O O)<|zL O O (zH O fd90_2 O)<|zL O O (zC O one33 O (A 0 O) O)<|zL O O (zM O O)<|zL O O (qH O el33 O O (by omega) (v hst))<|zL O O (qB O zTo O)<|zL O O (zC O one3 O zO O)<|zL O O (zM O O)<|zL O O (qR O ok41 (zOk x.Dims (by omega)) ⟨zB,O,T⟩)<|zL O O (zM O O)<|zL O O (zM O O)<|zL O O (qR O ok125 (ref11_Strides x.Dims (by omega)) ⟨zB,O,T⟩)<|zL O O (yR O O)<|zL O O (yR O O)<|zL O O (yR O O)<|zL O O (yR O O)<|yM<|zA<|zN ?_
   repeat (first|refine zIn ?_|refine zGu ?_)
   refine fin4 (D O) (D O) (D O) (D O) ?_
   rw [hdm];exact ⟨rfl,rfl⟩
  ·try simp only [sx] at c2
   refine zI<|zK O<|G O<|qA O ⟨by omega,by omega⟩<|G O<|zA ?_
   refine ⟨k+1,⟨by omega,zJy hx hp c2⟩,(by omega),Weak.mk [true,true,true] ⟨zB,zB,zB,T⟩ O⟩
 ·try simp only [sx] at c1
  refine qK<|R O<|G O<|G O<|zZ O (yO 1 O O)<|zZ O (yO 1 O O)<|zA<|zN ?_
  repeat (first|refine zIn ?_|refine zGu ?_)
  refine fin4 (D O) (D O) (D O) (D O) ?_
  rw [qX (l:=g.n.Bufs) (k:=k) (by omega),hs] at hp
  cases hp
theorem r48_depth {b:Nat} {sv sl:Value} {code:List In} {full:Bool} {g:Gn} {L:List ByteArray} (hL:L.length<=1000000) (s:ByteArray) (hs:bR L s=true):
    Con cfg 162 [vPt b,vS s] (fJ b sv sl code full g L) fun r μ'=>r=vI (rB L s)/\μ'=fJ b sv sl code full g L:=by
 refine zW Tryz.func162 O Tryz.ntmps162 Tryz.results162 O ?_
 intro z hz
 refine R O<|G O<|zA<|zF<|R O<|G O<|zA<|zP<|zU ⟨[(5,.c _),(0,.c _),(1,.c _)],[_,_,_]⟩ (Weak.mk [true,true,true] ⟨zB,zB,zB,T⟩ O)<|qF 1 0 O O (Nat) (fun k=>[(5,vI k)]) (fun k=>[]) (fun k=>k<=L.length/\(bR (L.take k) s=false)) (fun k=>L.length-k) ⟨0,⟨by omega,O⟩,Weak.mk [true,true,true] ⟨zB,zB,zB,T⟩ O⟩ ?_
 rintro k ⟨hk,hp⟩
 refine zF<|R O<|G O<|G O<|qI O<|zJ O zNe<|zE zEu (A 0 O) O<|zZ O (yK 2 O el78 O O)<|yC O<|zA<|zD O (fun c1=>?_) (fun c1=>?_)
 ·try simp only [sx] at c1
  obtain ⟨x,hx⟩:=qU L k (by omega)
  refine zI<|zF<|zP<|R O<|G O<|qI O<|zJ O zNe<|zE zEu (A 0 O) O<|G O<|zZ O (qO 2 O el78 O O O (by omega) (by rw [List.length_map];omega))<|zE one9 (kG 2 O (wM (enc:=fun s=>[cS s]) hx O)) O<|G O<|zZ O (kE O O O)<|zA<|zD O (fun c2=>?_) (fun c2=>?_)
  ·try simp only [sx] at c2
   refine R O<|G O<|G O<|zA<|zN<|zV O ?_
   exact ⟨congrArg vI (idxB_some hx c2.symm hp).symm,O⟩
  ·try simp only [sx] at c2
   refine zI<|zK O<|G O<|qA O ⟨by omega,by omega⟩<|G O<|zA ?_
   refine ⟨k+1,⟨by omega,zJg hx hp c2⟩,(by omega),Weak.mk [true,true,true] ⟨zB,zB,zB,T⟩ O⟩
 ·try simp only [sx] at c1
  refine qK<|R O<|G O<|zA<|zN<|zV O ?_
  rw [qX (l:=L) (k:=k) (by omega),hs] at hp
  cases hp
theorem r48_number {b:Nat} {sv sl:Value} {code:List In} {full:Bool} {g:Gn} {L:List ByteArray} (hg:g.Ok) (t:Ty) (hs:t∈g.ty):
    Con cfg 128 [vPt b,vTy t] (fJ b sv sl code full g L) fun r μ'=>r=vI (vC g.ty t)/\μ'=fJ b sv sl code full g L:=by
 refine zW Tryz.func128 O Tryz.ntmps128 Tryz.results128 O ?_
 intro z hz
 have htl:=hg.tl
 refine R O<|zS O O (qP O O) ?_
 rintro _ _ ⟨b1,rfl,rfl⟩
 refine qT _ (qM 0 O 3 _ PLe.ptr)<|G O<|zA<|zF<|R O<|G O<|zA<|zP<|zU ⟨[(5,.c _),(0,.c _),(3,.c _)],[_,_,_]⟩ (Weak.mk [true,true,true] ⟨zB,zB,zB,T⟩ O)<|qF 1 0 O O (Nat) (fun k=>[(5,vI k)]) (fun k=>[]) (fun k=>k<=g.ty.length/\((g.ty.take k).any (fun x=>decide (t=x))=false)) (fun k=>g.ty.length-k) ⟨0,⟨by omega,O⟩,Weak.mk [true,true,true] ⟨zB,zB,zB,T⟩ O⟩ ?_
 rintro k ⟨hk,hp⟩
 refine zF<|R O<|G O<|G O<|qI O<|zJ O fd90_1<|zE one28 (A 0 O) O<|qD O el28<|yC O<|zA<|zD O (fun c1=>?_) (fun c1=>?_)
 ·try simp only [sx] at c1
  obtain ⟨x,hx⟩:=qU g.ty k (by omega)
  refine zI<|zF<|zP<|zF<|qW 9 mixed (by kernel_rfl) O O<|zL O O (zM O O)<|zL O O (qL O O)<|zL O O (zH O fd90_1 O)<|zL O O (zC O one28 O (A 0 O) O)<|zL O O (zM O O)<|zL O O (qH O el28 O O (by omega) (v hx))<|zL O O (qC O yG O zO O)<|zL O O (qC O yG O zO O)<|zL O O (zKe O fl31 O O O)<|yM<|zA<|zD O (fun c2=>?_) (fun c2=>?_)
  ·have hxt:x=t:=ty_t (a:=x) (b:=t) c2
   refine R O<|G O<|G O<|zA<|zN<|zV O ?_
   exact ⟨congrArg vI (zDx hx (decide_eq_true hxt.symm) hp).symm,O⟩
  ·have hxt:¬t=x:=fun h=>ty_f (a:=x) (b:=t) c2 h.symm
   refine zI<|zK O<|G O<|qA O ⟨by omega,by omega⟩<|G O<|zA ?_
   refine ⟨k+1,⟨by omega,zDo hx hp (decide_eq_false hxt)⟩,(by omega),Weak.mk [true,true,true] ⟨zB,zB,zB,T⟩ O⟩
 ·try simp only [sx] at c1
  refine qK<|R O<|G O<|zA<|zN<|zV O ?_
  rw [qX (l:=g.ty) (k:=k) (by omega)] at hp
  exact absurd (zQx.2 hs) (by unfold tE;rw [hp];simp)
set_option maxHeartbeats 4000000 in
theorem zMm {b:Nat} {sv sl:Value} {code:List In} {full:Bool} {g:Gn} {L:List ByteArray} {pre:List In} (hE:Em pre code full) (i:Nat) (hi:i<pre.length) (p:Int) (hp:p=hrI i):
    Con cfg 87 [vPt b,vI p] (fJ b sv sl code full g L) fun r μ'=>r=.tup []/\∃sv' code' full',Em (gR pre i pre.length) code' full'/\μ'=fJ b sv' sl code' full' g L:=by
 refine zW Tryz.func87 O Tryz.ntmps87 Tryz.results87 O ?_
 intro z hz
 have hlen:=hE.len
 refine R O<|G O<|G O<|qI O<|zJ O zTm<|zE zIk (A 0 O) O<|zZ O (yK 1 O el32 O O)<|yC O<|zA<|zD O (fun c1=>?_) (fun c1=>?_)
 ·try simp only [sx] at c1
  have h0:0<=hrI i:=by unfold hrI;omega
  obtain ⟨m,hm⟩:∃m:Nat,hrI i=m:=⟨(hrI i).toNat,by omega⟩
  have hx0:m<code.length:=by omega
  have hrw:=jmp_rows (a:=code.length) (List.getElem?_eq_getElem hx0)
  have hx:=List.getElem?_eq_getElem hx0
  have q3:=hE.pat hi (by omega)
  rw [hm,Int.toNat_natCast] at q3
  rw [hm] at hp
  subst hp
  generalize code[m]=x at hx hrw
  refine yL 7 0 [⟨0,.q []⟩,⟨1,.q []⟩,⟨2,.q []⟩,⟨3,.q [0]⟩,⟨4,.q []⟩,⟨5,.q []⟩,⟨6,.q [0,1,2]⟩] mixed (by kernel_rfl) (by kernel_rfl) O O O<|J O<|J O<|J O<|J O<|J O<|J O<|J O<|wQ<|zX O (by decide) O O (zM O O)<|zX O (by decide) O O (qL O O)<|zX O (by decide) O O (zH O zTm O)<|zX O (by decide) O O (zC O zIk O (A 0 O) O)<|zX O (by decide) O O (zM O O)<|zX O (by decide) O O (zM O O)<|zX O (by decide) O O (qY [0,0,0] O ok78 (zHi ) ⟨zB,O,T⟩ O)<|wP O<|zZ O (qO 1 O el32 O O O (by omega) (by rw [List.length_map];omega))<|zZ O (zDn O fd46_1 O)<|zAo O O (kN O sz3 O O O (zDz 1 O (wM (enc:=In.cells) hx O) O))<|zA ?_
  repeat (first|refine qZ ?_|refine qV ?_)
  refine yP<|U ?_
  refine ⟨O,sv,gR code m code.length,full,q3,?_⟩
  simp only [fJ,hrw,List.length_map,Int.toNat_natCast]
  rfl
 ·try simp only [sx] at c1
  refine zI ?_
  repeat (first|refine qZ ?_|refine qV ?_)
  refine yP<|U ?_
  exact ⟨O,sv,code,full,hE.pat0 hi (by omega),O⟩
set_option maxHeartbeats 4000000 in
theorem r48_clear {b:Nat} {sv sl:Value} {code:List In} {full:Bool} {g:Gn} {L:List ByteArray} {pre:List In} (hE:Em pre code full) (s:ByteArray) (hg:g.Ok) (hs:bO g.n.Bufs s=true):
    Con cfg 34 [vPt b,vS s] (fJ b sv sl code full g L) fun r μ'=>r=.tup []/\∃sv' code' full',Em (pre++vZ g s pre.length) code' full'/\μ'=fJ b sv' sl code' full' g L:=by
 refine zW Tryz.func34 O Tryz.ntmps34 Tryz.results34 O ?_
 intro z hz
 obtain ⟨p1,p2,p3,p4,p5,p6,p7⟩:=hg.plc hs
 have hen:g.bs_ s+dE (g.dm s)=g.en s:=by unfold Gn.en;rw [p1];rfl
 refine R O<|G O<|G O<|zZ O (qY [0,0,0] O ok76 (zSt  s hg hs) ⟨zB,O,zB,O,T⟩ O)<|zZ O (yA O O)<|kP O<|kP O<|kP O<|kP O<|G O<|G O<|G O<|G O<|zA<|R O<|G O<|yS O zr44 pl44<|yS O zr46 pl46<|zS O O (W O ok77 (zDf hE (⟨9,0,0,0,⟨0,1⟩,zTy⟩) _ (fun _=>O)) ⟨zB,O,zB,O,T⟩) ?_
 rintro _ _ ⟨rfl,sv1,cd1,fu1,hE1,rfl⟩
 refine zA<|R O<|G O<|G O<|zS O O (W O ok36 (kV hE1 (1) (100) (g.bs_ s) (0) _ (fun _=>O)) ⟨zB,O,zB,O,zB,O,zB,O,zB,O,T⟩) ?_
 rintro _ _ ⟨rfl,sv2,cd2,fu2,hE2,rfl⟩
 refine zA<|R O<|G O<|zZ O (qY [0,0,0] O ok78 (zHi ) ⟨zB,O,T⟩ O)<|G O<|zA<|R O<|G O<|G O<|G O<|G O<|qA O ⟨by omega,by omega⟩ ?_
 refine zS O O (W O ok79 (zEa hE2 11 0 100 (g.bs_ s) (g.en s)) ⟨zB,O,zB,O,zB,O,zB,O,zB,O,VLe.of_eq (congrArg vI hen),O,T⟩) ?_
 rintro _ _ ⟨rfl,sv3,cd3,fu3,hE3,rfl⟩
 refine zA<|zK O<|G O<|G O<|G O<|G O<|qA O ⟨by omega,by omega⟩ ?_
 refine zS O O (W O ok80 (r48_repeat hE3 cd2.length (pre.length+2) 100 (g.en s) (fun h9=>by have h8:=hE2.hr;simp only [List.length_append,List.length_cons,List.length_nil] at h9 h8;rw [h8,hr_in (by omega)];rfl)) ⟨zB,O,zB,O,zB,O,VLe.of_eq (congrArg vI hen),O,T⟩) ?_
 rintro _ _ ⟨rfl,sv4,cd4,fu4,hE4,rfl⟩
 refine zA ?_
 repeat (first|refine qZ ?_|refine qV ?_)
 refine yP<|U ?_
 refine ⟨O,sv4,cd4,fu4,?_,O⟩
 unfold vZ
 have h9:=hE4
 exact r9
theorem r48_operator (f:Int):
    Pur cfg 84 [vI f] (vI (pE f)):=by
 refine zW Tryz.func84 O Tryz.ntmps84 Tryz.results84 O ?_
 exact p8
end Go.W
