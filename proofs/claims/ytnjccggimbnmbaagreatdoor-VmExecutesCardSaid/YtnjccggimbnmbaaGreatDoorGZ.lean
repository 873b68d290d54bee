/-
  What functions compute.
  What functions compute.
  What functions compute.
  Conditions: none.
-/
import Derived.Test.YtnjccggimbnmbaaGreatDoorGY
import Derived.Test.YtnjccggimbnmbaaGreatDoorPlainM
import Derived.Test.YtnjccggimbnmbaaGreatDoorGL
set_option linter.unusedSimpArgs false
set_option linter.unusedVariables false
section
set_option maxRecDepth 10000
namespace Go.W
open Go Go.Eng Go.Proofs Go.L41 Go.Br
attribute [local irreducible] AWP RWP TD fT
theorem value_Zero1 {t:Ty} (h:bD t=true):Pur cfg 44 [vTy t] (bJ ⟨0,1⟩):=by
  have e:=value_Zero t
  rw [pL,h] at e;exact e
theorem ref04_Zero1 {t:Ty} (h:bD t=true):Pur cfg 57 [vTy t] (bJ ⟨0,1⟩):=by
  have e:=ref04_Zero t
  rw [pL,h] at e;exact e
theorem agg49:lA Tryz.prog 49=some 3:=by kernel_rfl
theorem zGo:lA Tryz.prog 52=some 7:=by kernel_rfl
theorem agg54:lA Tryz.prog 54=some 8:=by kernel_rfl
theorem el31:dK Tryz.prog 31=some (54,8,104):=by kernel_rfl
theorem zMu:bE Tryz.prog 52 0=some (0,43):=by kernel_rfl
theorem zLe:bE Tryz.prog 52 1=some (5,44):=by kernel_rfl
theorem zFz:bE Tryz.prog 52 2=some (6,50):=by kernel_rfl
theorem fd54_0:bE Tryz.prog 54 0=some (0,9):=by kernel_rfl
theorem zPp:bE Tryz.prog 54 1=some (1,52):=by kernel_rfl
theorem ok11:bA Tryz.prog 11=true:=by kernel_rfl
theorem ok28:bA Tryz.prog 28=true:=by kernel_rfl
theorem ok45:bA Tryz.prog 45=true:=by kernel_rfl
theorem ok50:bA Tryz.prog 50=true:=by kernel_rfl
theorem ok64:bA Tryz.prog 64=true:=by kernel_rfl
theorem ok80:bA Tryz.prog 80=true:=by kernel_rfl
theorem ok81:bA Tryz.prog 81=true:=by kernel_rfl
theorem ok82:bA Tryz.prog 82=true:=by kernel_rfl
theorem ok83:bA Tryz.prog 83=true:=by kernel_rfl
theorem ok97:bA Tryz.prog 97=true:=by kernel_rfl
theorem ok117:bA Tryz.prog 117=true:=by kernel_rfl
theorem ok118:bA Tryz.prog 118=true:=by kernel_rfl
theorem ok123:bA Tryz.prog 123=true:=by kernel_rfl
theorem ok124:bA Tryz.prog 124=true:=by kernel_rfl
theorem pl52:fG Tryz.prog 52=some [(0,5),(5,1),(6,1)]:=by kernel_rfl
theorem sz52:(Tryz.prog.info? 52).map (·.size)=some 7:=by kernel_rfl
theorem zr52:dM Tryz.prog 52=some [(Value.int IntKind.i64 0),(Value.int IntKind.i64 0),(Value.int IntKind.i64 0),(Value.int IntKind.i64 0),(Value.int IntKind.i64 0),(Value.slice none 0 0),(Value.slice none 0 0)]:=by kernel_rfl
theorem law31_Light (n:Ns) (hf:n.Fit):
    Pur cfg 4 [vNs n] (vB (tA n)):=by
 refine zR Tryz.func4 O Tryz.ntmps4 Tryz.results4 O ?_
 intro z hz
 have hbl:=hf.bufs
 refine Y O<|zW O O (qB O O) ?_
 rintro _ _ ⟨b1,rfl,rfl⟩
 refine G O<|zA<|zK<|Y O<|G O<|zA<|zT<|zY ⟨[(3,.c _),(1,.c _)],[_]⟩ (Weak.mk [true] ⟨zC,zC,T⟩ O)<|qG 1 0 O O (Nat) (fun k=>[(3,vI k)]) (fun k=>[]) (fun k=>k<=n.Bufs.length/\((n.Bufs.take k).all (fun b=>decide (tB b.Dims<=64))=true)) (fun k=>n.Bufs.length-k) ⟨0,⟨by omega,O⟩,Weak.mk [true] ⟨zC,zC,T⟩ O⟩ ?_
 rintro k ⟨hk,hp⟩
 refine zK<|Y O<|G O<|zD O zAb<|zI zCl (J 0 O) O<|qC O el22<|yF O<|zA<|zE O (fun c1=>?_) (fun c1=>?_)
 ·try simp only [sx] at c1
  obtain ⟨b,hb⟩:=yC n.Bufs k (by omega)
  refine zJ<|zK<|zT<|Y O<|G O<|zA<|zK<|Y O<|G O<|zA<|zT<|zY ⟨[(5,.c _),(4,.c _),(1,.c _),(3,.c _)],[_]⟩ (Weak.mk [true] ⟨zC,zC,zC,zC,T⟩ O)<|qG 2 0 O O (Nat) (fun j=>[(5,vI j),(4,vI (tB (b.Dims.take j)))]) (fun j=>[]) (fun j=>j<=b.Dims.length) (fun j=>b.Dims.length-j) ⟨0,(by omega),Weak.mk [true] ⟨zC,VLe.of_eq (O),zC,zC,T⟩ O⟩ ?_
  rintro j hj
  have hdl:=hf.dims b (qL hb)
  refine zK<|Y O<|G O<|zD O zAb<|zI zCl (J 0 O) O<|G O<|qI O el22 (by omega) (D (by assumption))<|yB O zCu<|zI zBt qD O<|qC O v<|yF O<|zA<|zE O (fun c2=>?_) (fun c2=>?_)
  ·try simp only [sx] at c2
   obtain ⟨d,hd⟩:=yC b.Dims j (by omega)
   refine zJ<|zK<|zT<|zQ O<|G O<|zD O zAb<|zI zCl (J 0 O) O<|G O<|qI O el22 (by omega) (D (by assumption))<|yB O zCu<|zI zBt qD O<|G O<|qI O v (by omega) (D (by assumption))<|zI one3 qD O<|zX O (zEb O O O)<|zX O (zOt O O O)<|zX O (zJx O O O)<|G O<|zA<|zQ O<|G O<|qF O ⟨by omega,by omega⟩<|G O<|zA ?_
   refine ⟨j+1,(by omega),(by omega),Weak.mk [true] ⟨zC,VLe.of_eq (congrArg vI (lgtD_next hd).symm),zC,zC,T⟩ O⟩
  ·try simp only [sx] at c2
   rw [yP (l:=b.Dims) (k:=j) (by omega)]
   refine qM<|Y O<|G O<|zAf O<|zA<|zE O (fun c3=>?_) (fun c3=>?_)
   ·try simp only [sx] at c3
    refine Y O<|G O<|zA<|zG<|zS O ?_
    rw [lgt_no hb (by omega)]
   ·try simp only [sx] at c3
    refine zJ<|zQ O<|G O<|qF O ⟨by omega,by omega⟩<|G O<|zA ?_
    refine ⟨k+1,⟨by omega,zCg hb hp (decide_eq_true (by omega))⟩,(by omega),Weak.mk [true] ⟨zC,zC,T⟩ O⟩
 ·try simp only [sx] at c1
  refine qM<|Y O<|zL zBv (J 0 O) O<|zZ O ok11 (law30_Few n 200 200 hf (by decide) O) ⟨zC,O,zC,O,T⟩<|G O<|rL0 O (fun g11_2=>zF O zAb O) O<|rL1 42 O (fun g11_2=>zH O zCl O (J 0 O) O) O<|rL1 43 O (fun g11_2=>yH O el22 O) O<|rL1 44 O (fun g11_2=>kH O O O) O<|yO O (fun h=>h)<|G O<|zA<|zG<|zS O ?_
  rw [yP (by omega)] at hp;exact congrArg vB (lgt_yes hp).symm
theorem law31_Few (l:List Nmd) (hl:l.length<=140737488355328):
    Pur cfg 6 [jJ l] (vB (pN l)):=by
 refine zR Tryz.func6 O Tryz.ntmps6 Tryz.results6 O ?_
 intro z hz
 refine Y O<|G O<|zA<|zK<|Y O<|G O<|zA<|zT<|zY ⟨[(3,.c _),(0,.c _)],[]⟩ (Weak.mk [] ⟨zC,zC,T⟩ O)<|qG 1 0 O O (Nat) (fun k=>[(3,vI k)]) (fun k=>[]) (fun k=>k<=l.length/\((l.take k).any sO=false)) (fun k=>l.length-k) ⟨0,⟨by omega,O⟩,Weak.mk [] ⟨zC,zC,T⟩ O⟩ ?_
 rintro k ⟨hk,hp⟩
 refine zK<|Y O<|G O<|G O<|qC O el31<|yF O<|zA<|zE O (fun c1=>?_) (fun c1=>?_)
 ·try simp only [sx] at c1
  obtain ⟨x,hx⟩:=yC l k (by omega)
  refine zJ<|zK<|zT<|Y O<|G O<|G O<|qI O el31 (by omega) (D (by assumption))<|yB O zPp<|yB O zFz<|zI zCq qD O<|qC O el50<|zAf O<|G O<|rL0 O (fun g4_8=>zO O O) O<|rL0 O (fun g4_8=>zO O O) O<|rLz [(19,_),(20,_)] O gv1 ⟨O,O,O,O,T⟩ (fun g4_8=>qH O el31 O O (by omega) (D (by assumption))) O<|rL1 21 O (fun g4_8=>qU O zPp O) O<|rL1 22 O (fun g4_8=>qU O zLe O) O<|rL1 23 O (fun g4_8=>zH O zBt O qD O) O<|rL1 24 O (fun g4_8=>yH O v O) O<|rL1 25 O (fun g4_8=>kD O O O) O<|r_or O (fun h=>(lzf h))<|G O<|rL0 O (fun g4_18=>zO O O) O<|rL0 O (fun g4_18=>zO O O) O<|rLz [(29,_),(30,_)] O gv1 ⟨O,O,O,O,T⟩ (fun g4_18=>qH O el31 O O (by omega) (D (by assumption))) O<|rL1 31 O (fun g4_18=>qU O fd54_0 O) O<|rL1 32 O (fun g4_18=>zH O one9 O qD O) O<|rL1 33 O (fun g4_18=>wT O un9 O) O<|rL1 34 O (fun g4_18=>kD O O O) O<|r_or O (fun h=>(lzf h))<|zA<|zE O (fun c2=>?_) (fun c2=>?_)
  ·have c2:sO x=true:=by simpa [sO,Lz] using c2
   refine Y O<|G O<|zA<|zG<|zS O ?_
   rw [fewNm_no hx c2]
  ·have c2:sO x=false:=by simpa [sO,Lz] using c2
   refine zJ<|zQ O<|G O<|qF O ⟨by omega,by omega⟩<|G O<|zA ?_
   refine ⟨k+1,⟨by omega,zAj hx hp c2⟩,(by omega),Weak.mk [] ⟨zC,zC,T⟩ O⟩
 ·try simp only [sx] at c1
  refine qM<|Y O<|G O<|qC O el31<|zX O (kH O O O)<|G O<|zA<|zG<|zS O ?_
  rw [yP (by omega)] at hp;exact congrArg vB (fewNm_yes hp).symm
theorem zKu (l:List Nmd) (c:C) (p:Nmd->Bool) (hl:l.length<=140737488355328) (hc:∀x,x∈l->FnPur cfg c [xO x] (vB (p x))):
    Pur cfg 117 [jJ l,.c c] (vI (bW p l)):=by
 refine zR Tryz.func117 O Tryz.ntmps117 Tryz.results117 O ?_
 intro z hz
 refine Y O<|G O<|zA<|zK<|Y O<|G O<|qC O el31<|G O<|zA<|zT<|zY ⟨[(8,.c _),(0,.c _),(1,.c _),(7,.c _)],[]⟩ (Weak.mk [] ⟨zC,zC,zC,zC,T⟩ O)<|qG 1 0 O O (Nat) (fun k=>[(8,vI k)]) (fun k=>[]) (fun k=>k<=l.length/\((l.take k).any p=false)) (fun k=>l.length-k) ⟨0,⟨by omega,O⟩,Weak.mk [] ⟨zC,zC,zC,zC,T⟩ O⟩ ?_
 rintro k ⟨hk,hp⟩
 refine Y O<|yF O<|zA<|zK<|zE O (fun c1=>?_) (fun c1=>?_)
 ·try simp only [sx] at c1
  obtain ⟨x,hx⟩:=yC l k (by omega)
  refine zJ<|zK<|zT<|Y O<|G O<|G O<|zA<|Y O<|G O<|G O<|G O<|qI O el31 (by omega) (D (by assumption))<|zL agg54 qD O<|zX O (zAm O O (hc _ (qL hx)) ⟨zC,O,T⟩)<|zA<|zE O (fun c2=>?_) (fun c2=>?_)
  ·exact v11
  ·exact p9
 ·exact k7
theorem zKt (l:List St0) (c:C) (p:St0->Bool) (hl:l.length<=140737488355328) (hc:∀x,x∈l->FnPur cfg c [vZ x] (vB (p x))):
    Pur cfg 84 [pM l,.c c] (vI (bW p l)):=by
 refine zR Tryz.func84 O Tryz.ntmps84 Tryz.results84 O ?_
 intro z hz
 refine Y O<|G O<|zA<|zK<|Y O<|G O<|qC O el28<|G O<|zA<|zT<|zY ⟨[(8,.c _),(0,.c _),(1,.c _),(7,.c _)],[]⟩ (Weak.mk [] ⟨zC,zC,zC,zC,T⟩ O)<|qG 1 0 O O (Nat) (fun k=>[(8,vI k)]) (fun k=>[]) (fun k=>k<=l.length/\((l.take k).any p=false)) (fun k=>l.length-k) ⟨0,⟨by omega,O⟩,Weak.mk [] ⟨zC,zC,zC,zC,T⟩ O⟩ ?_
 rintro k ⟨hk,hp⟩
 refine Y O<|yF O<|zA<|zK<|zE O (fun c1=>?_) (fun c1=>?_)
 ·try simp only [sx] at c1
  obtain ⟨x,hx⟩:=yC l k (by omega)
  refine zJ<|zK<|zT<|Y O<|G O<|G O<|zA<|Y O<|G O<|G O<|G O<|qI O el28 (by omega) (D (by assumption))<|zL agg49 qD O<|zX O (zAm O O (hc _ (qL hx)) ⟨zC,O,T⟩)<|zA<|zE O (fun c2=>?_) (fun c2=>?_)
  ·exact v11
  ·exact p9
 ·exact k7
theorem zLg (l:List Vl) (c:C) (p:Vl->Bool) (hl:l.length<=140737488355328) (hc:∀x,x∈l->FnPur cfg c [bJ x] (vB (p x))):
    Pur cfg 50 [jM l,.c c] (vI (bW p l)):=by
 refine zR Tryz.func50 O Tryz.ntmps50 Tryz.results50 O ?_
 intro z hz
 refine Y O<|G O<|zA<|zK<|Y O<|G O<|qC O el50<|G O<|zA<|zT<|zY ⟨[(8,.c _),(0,.c _),(1,.c _),(7,.c _)],[]⟩ (Weak.mk [] ⟨zC,zC,zC,zC,T⟩ O)<|qG 1 0 O O (Nat) (fun k=>[(8,vI k)]) (fun k=>[]) (fun k=>k<=l.length/\((l.take k).any p=false)) (fun k=>l.length-k) ⟨0,⟨by omega,O⟩,Weak.mk [] ⟨zC,zC,zC,zC,T⟩ O⟩ ?_
 rintro k ⟨hk,hp⟩
 refine Y O<|yF O<|zA<|zK<|zE O (fun c1=>?_) (fun c1=>?_)
 ·try simp only [sx] at c1
  obtain ⟨x,hx⟩:=yC l k (by omega)
  refine zJ<|zK<|zT<|Y O<|G O<|G O<|zA<|Y O<|G O<|G O<|G O<|qI O el50 (by omega) (D (by assumption))<|zL qN qD O<|zX O (zAm O O (hc _ (qL hx)) ⟨zC,O,T⟩)<|zA<|zE O (fun c2=>?_) (fun c2=>?_)
  ·exact v11
  ·exact p9
 ·exact k7
theorem zIr (l:List Vl) (c:C) (p:Vl->Bool) (hl:l.length<=140737488355328) (hc:∀x,x∈l->FnPur cfg c [bJ x] (vB (p x))):
    Pur cfg 20 [jM l,.c c] (vB (l.any p)):=by
 refine zR Tryz.func20 O Tryz.ntmps20 Tryz.results20 O ?_
 intro z hz
 refine Y O<|G O<|zA<|Y O<|G O<|G O<|zZ O ok50 (zLg l c p hl hc) ⟨zC,O,zC,O,T⟩<|zX O (kB O O O)<|G O<|zA<|zG<|zS O ?_
 rw [zHb]
theorem interp_find_1 (x:Nmd) (s:ByteArray):
    Pur cfg 118 [xO x,.c (.iptr [cS s])] (vB (decide (x.Name=s))):=by
 refine zR Tryz.func118 O Tryz.ntmps118 Tryz.results118 O ?_
 intro z hz
 refine Y O<|zW O O (qB O O) ?_
 rintro _ _ ⟨b1,rfl,rfl⟩
 refine G O<|zA<|Y O<|zD O fd54_0<|zI one9 (J 0 O) O<|zI one9 qD O<|zX O (kF O O O)<|G O<|zA<|zG<|zS O ?_
 exact O
theorem interp_find (mem:List Nmd) (s:ByteArray) (hm:mem.length<=140737488355328)  :
    Pur cfg 80 [jJ mem,vS s] (.tup [vTn ((fJ mem s).getD zTn),vB (fJ mem s).isSome]):=by
 refine zR Tryz.func80 O Tryz.ntmps80 Tryz.results80 O ?_
 intro z hz
 refine Y O<|zW O O (qB O O) ?_
 rintro _ _ ⟨b1,rfl,rfl⟩
 refine zW O O (qT [none,none,none,none,none,some 1,some 2] O zr52 O) ?_
 rintro _ _ ⟨b2,rfl,rfl⟩
 refine G O<|zA<|Y O<|G O<|yZ _ (kM 1 O 3 _ PLe.ptr)<|zX O (zGd O O O O O)<|zZ O ok117 (zKu mem _ (fun x=>decide (x.Name=s)) hm (fun x _=>FnPur.of_pur (first:=[]) (cap:=[.iptr [cS s]]) ok118 (interp_find_1 x s))) ⟨zC,O,zC,O,T⟩<|G O<|zA<|zK<|Y O<|G O<|yF O<|zA<|zE O (fun c1=>?_) (fun c1=>?_)
 ·try simp only [sx] at c1
  refine Y O<|zX O (kY [none,none,none,none,none,some 1,some 2] O zr52 pl52 O O)<|rStR 0 sz52 O<|G O<|zA<|zG<|R (zP zGo O (J 0 O) O) (L O) ?_
  rw [fndT_idx,if_neg (by omega)];rfl
 ·try simp only [sx] at c1
  obtain ⟨i,x,hi,hx⟩:=idx_fnd (show 0<=bW (fun x:Nmd=>decide (x.Name=s)) mem by omega)
  have e:fJ mem s=some x.T:=by rw [fndT_idx,hi,if_pos (by omega),Int.toNat_natCast,hx];rfl
  have hil:=(List.getElem?_eq_some_iff.1 hx).1
  rw [hi]
  refine zJ<|Y O<|G O<|G O<|qI O el31 (by omega) (D hx)<|yB O zPp<|zL zGo qD O<|rStR 0 sz52 O<|G O<|zA<|zG<|R (zP zGo O (J 0 O) O) (L O) ?_
  rw [e];rfl
theorem zOb (mem:List Nmd) (s:ByteArray) (hm:mem.length<=140737488355328)  :
    Pur cfg 28 [jJ mem,vS s] (.tup [vTn ((fJ mem s).getD zTn),vB (fJ mem s).isSome]):=by
 refine zR Tryz.func28 O Tryz.ntmps28 Tryz.results28 O ?_
 intro z hz
 refine Y O<|zW O O (qT [none,none,none,none,none,some 1,some 2] O zr52 O) ?_
 rintro _ _ ⟨b1,rfl,rfl⟩
 refine G O<|zA<|zK<|Y O<|G O<|zA<|zT<|zY ⟨[(6,.c _),(0,.c _),(1,.c _),(4,.c _)],[_]⟩ (Weak.mk [true] ⟨zC,zC,zC,zC,T⟩ O)<|qG 1 0 O O (Nat) (fun k=>[(6,vI k)]) (fun k=>[]) (fun k=>k<=mem.length/\(fJ mem s=fJ (mem.drop k) s)) (fun k=>mem.length-k) ⟨0,⟨by omega,O⟩,Weak.mk [true] ⟨zC,zC,zC,zC,T⟩ O⟩ ?_
 rintro k ⟨hk,hp⟩
 refine zK<|Y O<|G O<|G O<|qC O el31<|yF O<|zA<|zE O (fun c1=>?_) (fun c1=>?_)
 ·try simp only [sx] at c1
  obtain ⟨x,hx⟩:=yC mem k (by omega)
  refine zJ<|zK<|zT<|Y O<|G O<|G O<|qI O el31 (by omega) (D (by assumption))<|yB O fd54_0<|zI one9 qD O<|G O<|zX O (kF O O O)<|zA<|zE O (fun c2=>?_) (fun c2=>?_)
  ·try simp only [sx] at c2
   refine Y O<|G O<|G O<|qI O el31 (by omega) (D (by assumption))<|yB O zPp<|zL zGo qD O<|rStR 0 sz52 O<|G O<|zA<|zG<|R (zP zGo O (J 0 O) O) (L O) ?_
   rw [hp,fndT_at hx c2];rfl
  ·try simp only [sx] at c2
   refine zJ<|zQ O<|G O<|qF O ⟨by omega,by omega⟩<|G O<|zA ?_
   refine ⟨k+1,⟨by omega,hp.trans (fndT_nx hx c2)⟩,(by omega),Weak.mk [true] ⟨zC,zC,zC,zC,T⟩ O⟩
 ·try simp only [sx] at c1
  refine qM<|Y O<|zX O (kY [none,none,none,none,none,some 1,some 2] O zr52 pl52 O O)<|rStR 0 sz52 O<|G O<|zA<|zG<|R (zP zGo O (J 0 O) O) (L O) ?_
  rw [hp,fndT_end (by omega)];rfl
theorem zRw (t:Tn) (hd:t.Dims.length<=17592186044416) (hv:t.Vals.length<=140737488355328):
    Pur cfg 81 [vTn t] (vI (gP t)):=by
 refine zR Tryz.func81 O Tryz.ntmps81 Tryz.results81 O ?_
 intro z hz
 refine Y O<|zW O O (qB O O) ?_
 rintro _ _ ⟨b1,rfl,rfl⟩
 refine G O<|zA<|zK<|Y O<|zD O zMu<|zL qX (J 0 O) O<|zZ O ok51 (kO t.T) ⟨zC,O,T⟩<|G O<|zA<|Y O<|G O<|yQ O<|zA<|zE O (fun c1=>?_) (fun c1=>?_)
 ·try simp only [sx] at c1
  have ht:=zHl c1
  refine Y O<|G O<|G O<|zA<|zG<|zS O ?_
  rw [tn_10 ht,bS,ht];rfl
 ·try simp only [sx] at c1
  have ht:=zEc c1
  refine zJ<|zK<|Y O<|zD O zLe<|zI zBt (J 0 O) O<|zZ O ok79 (zGh t.Dims hd) ⟨zC,O,T⟩<|G O<|zA<|Y O<|G O<|yQ O<|zA<|zE O (fun c2=>?_) (fun c2=>?_)
  ·try simp only [sx] at c2
   refine Y O<|G O<|G O<|zA<|zG<|zS O ?_
   rw [tn_d ht c2]
  ·try simp only [sx] at c2
   refine zJ<|zK<|zK<|qV 7 mixed (by kernel_rfl) O O<|zN O O (zF O zFz O)<|zN O O (zH O zCq O (J 0 O) O)<|zN O O (yH O el50 O)<|zN O O (zF O zLe O)<|zN O O (zH O zBt O (J 0 O) O)<|zN O O (qE O ok45 (zNw t.Dims hd) ⟨zC,O,T⟩)<|zN O O (kT O O O)<|yK<|zA<|zE O (fun c3=>?_) (fun c3=>?_)
   ·try simp only [sx] at c3
    refine Y O<|G O<|zA<|zG<|zS O ?_
    rw [tn_l ht c2 c3]
   ·try simp only [sx] at c3
    refine zJ<|zK<|Y O<|zD O zFz<|zI zCq (J 0 O) O<|qC O el50<|G O<|zA<|zT<|zY ⟨[(29,.c _),(1,.c _),(27,.c _),(28,.c _)],[_]⟩ (Weak.mk [true] ⟨zC,zC,zC,zC,T⟩ O)<|qG 1 0 O O (Nat) (fun k=>[(29,vI k)]) (fun k=>[]) (fun k=>k<=t.Vals.length/\((t.Vals.take k).all (bC t.T)=true)) (fun k=>t.Vals.length-k) ⟨0,⟨by omega,O⟩,Weak.mk [true] ⟨zC,zC,zC,zC,T⟩ O⟩ ?_
    rintro k ⟨hk,hp⟩
    refine Y O<|yF O<|zA<|zK<|zE O (fun c4=>?_) (fun c4=>?_)
    ·try simp only [sx] at c4
     obtain ⟨x,hx⟩:=yC t.Vals k (by omega)
     refine zJ<|zK<|zT<|Y O<|qI O el50 (by omega) (D (by assumption))<|zL qN qD O<|zW O O (qS O zr59) ?_
     rintro _ _ ⟨b2,rfl,rfl⟩
     refine rStR 0 W O<|zA<|Y O<|zD O zMu<|zL qX (J 1 O) O<|zL qN (J 0 O) O<|zZ O ok22 (zAw t.T x) ⟨zC,O,zC,O,T⟩<|yT O<|zA<|zE O (fun c5=>?_) (fun c5=>?_)
     ·have hb:bC t.T x=false:=by rw [ht] at c5;simpa using c5
      refine Y O<|G O<|zA<|zG<|zS O ?_
      rw [tn_v ht c2 c3 hx hb]
     ·have hb:bC t.T x=true:=by rw [ht] at c5;simpa using c5
      refine zJ<|zQ O<|qF O ⟨by omega,by omega⟩<|G O<|zA ?_
      refine ⟨k+1,⟨by omega,zCg hx hp hb⟩,(by omega),Weak.mk [false,true] ⟨zC,zC,zC,zC,T⟩ O⟩
    ·try simp only [sx] at c4
     refine qM<|Y O<|G O<|zA<|zG<|zS O ?_
     rw [yP (by omega)] at hp;rw [tn_0 ht c2 c3 hp]
theorem ref12_Shape (d:List Int) (hl:d.length<=17592186044416):
    Pur cfg 123 [vIs d] (vI (bR d)):=by
 refine zR Tryz.func123 O Tryz.ntmps123 Tryz.results123 O ?_
 intro z hz
 refine Y O<|G O<|zA<|zK<|Y O<|G O<|qC O v<|zAf O<|zA<|zE O (fun c1=>?_) (fun c1=>?_)
 ·exact v43
 ·try simp only [sx] at c1
  refine zJ<|zK<|Y O<|G O<|zA<|zT<|zY ⟨[(3,.c _),(0,.c _)],[]⟩ (Weak.mk [] ⟨zC,zC,T⟩ O)<|qG 1 0 O O (Nat) (fun k=>[(3,vI k)]) (fun k=>[]) (fun k=>k<=d.length/\((d.take k).all mC=true)) (fun k=>d.length-k) ⟨0,⟨by omega,O⟩,Weak.mk [] ⟨zC,zC,T⟩ O⟩ ?_
  rintro k ⟨hk,hp⟩
  refine zK<|Y O<|G O<|G O<|qC O v<|yF O<|zA<|zE O (fun c2=>?_) (fun c2=>?_)
  ·exact n7
  ·try simp only [sx] at c2
   have hpos:d.all mC=true:=by rw [yP (by omega)] at hp;exact hp
   refine qM<|Y O<|G O<|zA<|zK<|Y O<|G O<|zA<|zT<|zY ⟨[(5,.c _),(4,.c _),(0,.c _)],[]⟩ (Weak.mk [] ⟨zC,zC,zC,T⟩ O)<|qG 2 0 O O (Nat×Int) (fun ⟨j,s⟩=>[(5,vI j),(4,vI s)]) (fun ⟨j,s⟩=>[]) (fun ⟨j,s⟩=>j<=d.length/\(1<=s)/\(s<=4096)/\(bH 1 d=bH s (d.drop j))) (fun ⟨j,s⟩=>d.length-j) ⟨⟨0,1⟩,⟨by omega,by omega,by omega,O⟩,Weak.mk [] ⟨zC,VLe.of_eq (O),zC,T⟩ O⟩ ?_
   rintro ⟨j,s⟩ ⟨hj,hs1,hs2,hs3⟩
   show AWP _ _ _ _ _ ⟨[(5,vI j),(4,vI s)]++_,[]++_⟩
   refine zK<|Y O<|G O<|G O<|qC O v<|yF O<|zA<|zE O (fun c4=>?_) (fun c4=>?_)
   ·try simp only [sx] at c4
    obtain ⟨m,hm⟩:=yC d j (by omega)
    refine zJ<|zK<|zT<|zK<|zK<|qV 7 mixed (by kernel_rfl) O O<|zN O O (zO O O)<|zN O O (zO O O)<|zN O O (qH O v O O (by omega) (D (by assumption)))<|zN O O (zH O one3 O qD O)<|zN O O (zO O O)<|zN O O (zUh O O O (by omega))<|zN O O (kD O O O)<|yK<|zA<|zE O (fun c5=>?_) (fun c5=>?_)
    ·try simp only [sx] at c5
     have hov:=quo_t hs1 c5
     refine Y O<|G O<|zA<|zG<|zS O ?_
     rw [zMy (by omega) hpos (zJb hm hs3 hov)]
    ·try simp only [sx] at c5
     have hov:=quo_f hs1 (Int.not_lt.2 c5)
     have hm1:=zDk hs1 (zDi hpos hm)
     refine zJ<|zQ O<|G O<|G O<|G O<|qI O v (by omega) (D (by assumption))<|zI one3 qD O<|zX O (yI O O O (by have:=zDk hs1 (zDi hpos hm);exact ⟨by omega,by omega⟩))<|G O<|zA<|zQ O<|G O<|qF O ⟨by omega,by omega⟩<|G O<|zA ?_
     refine ⟨⟨j+1,s*m⟩,⟨by omega,by omega,by omega,zGr hm hs3 hov⟩,(by show d.length-(j+1)<d.length-j;omega),Weak.mk [] ⟨zC,zC,zC,T⟩ O⟩
   ·exact v37
theorem ref12_Size (d:List Int) (hl:d.length<=17592186044416) (hd:bR d=0):
    Pur cfg 124 [vIs d] (vI (bZ d)):=by
 refine zR Tryz.func124 O Tryz.ntmps124 Tryz.results124 O ?_
 intro z hz
 obtain ⟨q1,hpos,t,ht,q2,q3⟩:=zMz hd
 refine Y O<|G O<|zA<|Y O<|G O<|zA<|zK<|Y O<|G O<|zA<|zT<|zY ⟨[(4,.c _),(3,.c _),(0,.c _)],[]⟩ (Weak.mk [] ⟨zC,zC,zC,T⟩ O)<|qG 2 0 O O (Nat×Int) (fun ⟨k,s⟩=>[(4,vI k),(3,vI s)]) (fun ⟨k,s⟩=>[]) (fun ⟨k,s⟩=>k<=d.length/\(1<=s)/\(s<=4096)/\(bH 1 d=bH s (d.drop k))) (fun ⟨k,s⟩=>d.length-k) ⟨⟨0,1⟩,⟨by omega,by omega,by omega,O⟩,Weak.mk [] ⟨zC,VLe.of_eq (O),zC,T⟩ O⟩ ?_
 rintro ⟨k,s⟩ ⟨hk,hs1,hs2,hs3⟩
 show AWP _ _ _ _ _ ⟨[(4,vI k),(3,vI s)]++_,[]++_⟩
 refine zK<|Y O<|G O<|G O<|qC O v<|yF O<|zA<|zE O (fun c1=>?_) (fun c1=>?_)
 ·try simp only [sx] at c1
  obtain ⟨m,hm⟩:=yC d k (by omega)
  have hm1:=zDk hs1 (zDi hpos hm)
  have hfit:=size_fit hm hs3 ht
  refine zJ<|zK<|zT<|zQ O<|G O<|G O<|G O<|qI O v (by omega) (D (by assumption))<|zI one3 qD O<|zX O (yI O O O ⟨by omega,by omega⟩)<|G O<|zA<|zQ O<|G O<|qF O ⟨by omega,by omega⟩<|G O<|zA ?_
  refine ⟨⟨k+1,s*m⟩,⟨by omega,by omega,by omega,zGr hm hs3 hfit⟩,(by show d.length-(k+1)<d.length-k;omega),Weak.mk [] ⟨zC,zC,zC,T⟩ O⟩
 ·try simp only [sx] at c1
  refine qM<|Y O<|G O<|G O<|zA<|zG<|zS O ?_
  rw [zHy hd (zGs hs3 (by omega))]
theorem ref12_Validate (t:Tn) (hd:t.Dims.length<=17592186044416) (hv:t.Vals.length<=140737488355328):
    Pur cfg 97 [vTn t] (vI (gP t)):=by
 refine zR Tryz.func97 O Tryz.ntmps97 Tryz.results97 O ?_
 intro z hz
 refine Y O<|zW O O (qB O O) ?_
 rintro _ _ ⟨b1,rfl,rfl⟩
 refine G O<|zA<|zK<|Y O<|zD O zMu<|zL qX (J 0 O) O<|zZ O ok62 (zCv t.T) ⟨zC,O,T⟩<|yT O<|zA<|zE O (fun c1=>?_) (fun c1=>?_)
 ·try simp only [sx] at c1
  have ht:bD t.T=false:=by simpa using c1
  refine Y O<|G O<|zA<|zG<|zS O ?_
  rw [tn_10 ht]
 ·try simp only [sx] at c1
  have ht:bD t.T=true:=by simpa using c1
  refine zJ<|zK<|Y O<|zD O zLe<|zI zBt (J 0 O) O<|zZ O ok123 (ref12_Shape t.Dims hd) ⟨zC,O,T⟩<|G O<|zA<|Y O<|G O<|yQ O<|zA<|zE O (fun c2=>?_) (fun c2=>?_)
  ·try simp only [sx] at c2
   refine Y O<|G O<|G O<|zA<|zG<|zS O ?_
   rw [tn_d ht c2]
  ·try simp only [sx] at c2
   refine zJ<|zK<|zK<|qV 7 mixed (by kernel_rfl) O O<|zN O O (zF O zFz O)<|zN O O (zH O zCq O (J 0 O) O)<|zN O O (yH O el50 O)<|zN O O (zF O zLe O)<|zN O O (zH O zBt O (J 0 O) O)<|zN O O (qE O ok124 (ref12_Size t.Dims hd c2) ⟨zC,O,T⟩)<|zN O O (kT O O O)<|yK<|zA<|zE O (fun c3=>?_) (fun c3=>?_)
   ·try simp only [sx] at c3
    refine Y O<|G O<|zA<|zG<|zS O ?_
    rw [tn_l ht c2 c3]
   ·try simp only [sx] at c3
    refine zJ<|zK<|Y O<|G O<|zA<|zT<|zY ⟨[(4,.c _),(1,.c _)],[_]⟩ (Weak.mk [true] ⟨zC,zC,T⟩ O)<|qG 1 0 O O (Nat) (fun k=>[(4,vI k)]) (fun k=>[]) (fun k=>k<=t.Vals.length/\((t.Vals.take k).all (bC t.T)=true)) (fun k=>t.Vals.length-k) ⟨0,⟨by omega,O⟩,Weak.mk [true] ⟨zC,zC,T⟩ O⟩ ?_
    rintro k ⟨hk,hp⟩
    refine zK<|Y O<|G O<|zD O zFz<|zI zCq (J 0 O) O<|qC O el50<|yF O<|zA<|zE O (fun c4=>?_) (fun c4=>?_)
    ·try simp only [sx] at c4
     obtain ⟨x,hx⟩:=yC t.Vals k (by omega)
     refine zJ<|zK<|zT<|zK<|qV 9 mixed (by kernel_rfl) O O<|zN O O (zF O zMu O)<|zN O O (zV O qX O (J 0 O) O)<|zN O O (zF O zFz O)<|zN O O (zH O zCq O (J 0 O) O)<|zN O O (zO O O)<|zN O O (qH O el50 O O (by omega) (D (by assumption)))<|zN O O (zV O qN O qD O)<|zN O O (qE O ok63 (zGf t.T x ht) ⟨zC,O,zC,O,T⟩)<|zN O O (kA O O)<|yK<|zA<|zE O (fun c5=>?_) (fun c5=>?_)
     ·try simp only [sx] at c5
      have hb:bC t.T x=false:=by simpa using c5
      refine Y O<|G O<|zA<|zG<|zS O ?_
      rw [tn_v ht c2 c3 hx hb]
     ·try simp only [sx] at c5
      have hb:bC t.T x=true:=by simpa using c5
      refine zJ<|zQ O<|G O<|qF O ⟨by omega,by omega⟩<|G O<|zA ?_
      refine ⟨k+1,⟨by omega,zCg hx hp hb⟩,(by omega),Weak.mk [true] ⟨zC,zC,T⟩ O⟩
    ·try simp only [sx] at c4
     refine qM<|Y O<|G O<|zA<|zG<|zS O ?_
     rw [yP (by omega)] at hp;rw [tn_0 ht c2 c3 hp]
theorem zPy (a b:List Int) (ha:a.length<=17592186044416):
    Pur cfg 82 [vIs a,vIs b] (vB (decide (a=b))):=by
 refine zR Tryz.func82 O Tryz.ntmps82 Tryz.results82 O ?_
 intro z hz
 refine Y O<|G O<|zA<|zK<|Y O<|G O<|qC O v<|G O<|qC O v<|yQ O<|zA<|zE O (fun c1=>?_) (fun c1=>?_)
 ·exact j5
 ·try simp only [sx] at c1
  refine zJ<|zK<|Y O<|G O<|qC O v<|G O<|zA<|zT<|zY ⟨[(13,.c _),(0,.c _),(1,.c _),(12,.c _)],[]⟩ (Weak.mk [] ⟨zC,zC,zC,zC,T⟩ O)<|qG 1 0 O O (Nat) (fun k=>[(13,vI k)]) (fun k=>[]) (fun k=>k<=a.length/\(a.take k=b.take k)) (fun k=>a.length-k) ⟨0,⟨by omega,O⟩,Weak.mk [] ⟨zC,zC,zC,zC,T⟩ O⟩ ?_
  rintro k ⟨hk,hp⟩
  refine Y O<|yF O<|zA<|zK<|zE O (fun c2=>?_) (fun c2=>?_)
  ·try simp only [sx] at c2
   obtain ⟨x,hx⟩:=yC a k (by omega)
   obtain ⟨y,hy⟩:=yC b k (by omega)
   refine zJ<|zK<|zT<|Y O<|G O<|G O<|zA<|zK<|qV 9 mixed (by kernel_rfl) O O<|zN O O (zO O O)<|zN O O (zO O O)<|zN O O (qH O v O O (by omega) (D (by assumption)))<|zN O O (zH O one3 O qD O)<|zN O O (zO O O)<|zN O O (zO O O)<|zN O O (qH O v O O (by omega) (D (by assumption)))<|zN O O (zH O one3 O qD O)<|zN O O (kT O O O)<|yK<|zA<|zE O (fun c3=>?_) (fun c3=>?_)
   ·exact v10
   ·try simp only [sx] at c3
    refine zJ<|zQ O<|qF O ⟨by omega,by omega⟩<|G O<|zA ?_
    refine ⟨k+1,⟨by omega,zDd hx hy hp c3⟩,(by omega),Weak.mk [] ⟨zC,zC,zC,zC,T⟩ O⟩
  ·exact k9
theorem zOj (t:Tn) (hd:t.Dims.length<=17592186044416) (hv:t.Vals.length<=1048576):
    Pur cfgO 83 [vTn t] (vTn t):=by
 refine zR Tryz.func83 O Tryz.ntmps83 Tryz.results83 O ?_
 intro z hz
 refine Y O<|zW O O (qB O O) ?_
 rintro _ _ ⟨b1,rfl,rfl⟩
 refine zW O O (qT [none,none,none,none,none,some 1,some 2] O zr52 O) ?_
 rintro _ _ ⟨b2,rfl,rfl⟩
 refine zA<|zK<|qV 9 mixed (by kernel_rfl) O O<|zN O O (zF O zMu O)<|zN O O (zV O qX O (J 1 O) O)<|zN O O (zF O zLe O)<|zN O O (zH O zBt O (J 1 O) O)<|zN O O (qE O ok23 (OwnR.pur (upO (zCx t.Dims hd))) ⟨zC,O,T⟩)<|zN O O (zF O zFz O)<|zN O O (zH O zCq O (J 1 O) O)<|zN O O (qE O ok49 (OwnR.pur (zIf t.Vals hv)) ⟨zC,O,T⟩)<|zN O O (zBp O zr52 pl52 O)<|yK<|rStR 0 sz52 O<|zA<|zG<|fin1 (zP zGo O (J 0 O) O) ?_
 exact O
theorem zTk (mem:List Nmd) (b:Bf) (hm:mem.length<=140737488355328) (hF:∀x,x∈mem->x.T.Dims.length<=17592186044416/\x.T.Vals.length<=1048576):
    Pur cfgO 46 [jJ mem,vBf b] (.tup [vTn (vC mem b),vI (fN mem b)]):=by
 refine zR Tryz.func46 O Tryz.ntmps46 Tryz.results46 O ?_
 intro z hz
 obtain ⟨t,ht⟩:∃t,t=(fJ mem b.Name).getD zTn:=⟨_,rfl⟩
 refine Y O<|zW O O (qB O O) ?_
 rintro _ _ ⟨b1,rfl,rfl⟩
 refine zW O O (qT [none,none,none,none,none,some 1,some 2] O zr52 O) ?_
 rintro _ _ ⟨b2,rfl,rfl⟩
 refine G O<|zA<|Y O<|G O<|zD O zCc<|zI one9 (J 1 O) O<|zZ O ok80 (upO (show Pur cfg 80 [jJ mem,vS b.Name] (.tup [vTn t,vB (fJ mem b.Name).isSome]) from ht ▸ interp_find mem b.Name hm)) ⟨zC,O,zC,O,T⟩<|qW O<|yD O<|qY O<|zW O O (qT [none,none,none,none,none,some 1,some 2] O zr52 O) ?_
 rintro _ _ ⟨b3,rfl,rfl⟩
 refine rStR 0 sz52 O<|G O<|zA<|zK<|zT<|Y O<|G O<|yT O<|G O<|zA<|zE O (fun c1=>?_) (fun c1=>?_)
 ·try simp only [sx] at c1
  have e0:fN mem b=9:=zSz (fnd_none (by simpa using c1))
  exact n8
 ·try simp only [sx] at c1
  have hs:fJ mem b.Name=some t:=fnd_some (by simpa using c1) ht
  obtain ⟨y,hy,hyt⟩:=fndT_mem hs
  obtain ⟨hd,hv⟩:=hF y hy
  rw [hyt] at hd hv
  refine Y O<|zL zGo (J 0 O) O<|zZ O ok81 (upO (zRw t hd (by omega))) ⟨zC,O,T⟩<|yQ O<|G O<|zA<|zE O (fun c2=>?_) (fun c2=>?_)
  ·try simp only [sx] at c2
   have e0:fN mem b=1:=must_1 hs c2
   exact n8
  ·try simp only [sx] at c2
   refine Y O<|zD O zMu<|zL qX (J 0 O) O<|zD O zDn<|zL qX (J 2 O) O<|zX O (zAu O fl43 O O O)<|G O<|zA<|zE O (fun c3=>?_) (fun c3=>?_)
   ·have c3:¬t.T=b.T:=tyv_f c3
    have e0:fN mem b=10:=must_10 hs c2 c3
    exact n8
   ·have c3:t.T=b.T:=tyv_t c3
    refine Y O<|zD O zLe<|zI zBt (J 0 O) O<|zD O zCu<|zI zBt (J 2 O) O<|zZ O ok82 (upO (zPy t.Dims b.Dims hd)) ⟨zC,O,zC,O,T⟩<|yT O<|G O<|zA<|zE O (fun c4=>?_) (fun c4=>?_)
    ·try simp only [sx] at c4
     have c4:¬t.Dims=b.Dims:=by simpa using c4
     have e0:fN mem b=15:=must_15 hs c2 c3 c4
     exact n8
    ·try simp only [sx] at c4
     have c4:t.Dims=b.Dims:=by simpa using c4
     have e0:fN mem b=0:=must_0 hs c2 c3 c4
     refine zJ<|Y O<|zL zGo (J 0 O) O<|zZ O ok83 (zOj t hd hv) ⟨zC,O,T⟩<|rStR 1 sz52 O<|G O<|zA<|zG<|R (zP zGo O (J 1 O) O) (L O) ?_
     rw [prv_yes e0 hs,e0];rfl
theorem ref19_Must (mem:List Nmd) (b:Bf) (hm:mem.length<=140737488355328) (hF:∀x,x∈mem->x.T.Dims.length<=17592186044416/\x.T.Vals.length<=1048576):
    Pur cfg 56 [jJ mem,vS b.Name,vTy b.T,vIs b.Dims] (vI (fN mem b)):=by
 refine zR Tryz.func56 O Tryz.ntmps56 Tryz.results56 O ?_
 intro z hz
 obtain ⟨t,ht⟩:∃t,t=(fJ mem b.Name).getD zTn:=⟨_,rfl⟩
 refine Y O<|zW O O (qB O O) ?_
 rintro _ _ ⟨b1,rfl,rfl⟩
 refine G O<|zA<|Y O<|G O<|G O<|zZ O ok28 (show Pur cfg 28 [jJ mem,vS b.Name] (.tup [vTn t,vB (fJ mem b.Name).isSome]) from ht ▸ zOb mem b.Name hm) ⟨zC,O,zC,O,T⟩<|qW O<|yD O<|qY O<|zW O O (qT [none,none,none,none,none,some 1,some 2] O zr52 O) ?_
 rintro _ _ ⟨b2,rfl,rfl⟩
 refine rStR 0 sz52 O<|G O<|zA<|zK<|zT<|Y O<|G O<|yT O<|G O<|zA<|zE O (fun c1=>?_) (fun c1=>?_)
 ·try simp only [sx] at c1
  have e0:fN mem b=9:=zSz (fnd_none (by simpa using c1))
  refine Y O<|G O<|zA<|zG<|zS O ?_
  rw [e0]
 ·try simp only [sx] at c1
  have hs:fJ mem b.Name=some t:=fnd_some (by simpa using c1) ht
  obtain ⟨y,hy,hyt⟩:=fndT_mem hs
  obtain ⟨hd,hv⟩:=hF y hy
  rw [hyt] at hd hv
  refine Y O<|zL zGo (J 0 O) O<|zZ O ok97 (ref12_Validate t hd (by omega)) ⟨zC,O,T⟩<|yQ O<|G O<|zA<|zE O (fun c2=>?_) (fun c2=>?_)
  ·try simp only [sx] at c2
   have e0:fN mem b=1:=must_1 hs c2
   refine Y O<|G O<|zA<|zG<|zS O ?_
   rw [e0]
  ·try simp only [sx] at c2
   refine Y O<|zD O zMu<|zL qX (J 0 O) O<|zL qX (J 1 O) O<|zX O (zAu O fl43 O O O)<|G O<|zA<|zE O (fun c3=>?_) (fun c3=>?_)
   ·have c3:¬t.T=b.T:=tyv_f c3
    have e0:fN mem b=10:=must_10 hs c2 c3
    refine Y O<|G O<|zA<|zG<|zS O ?_
    rw [e0]
   ·have c3:t.T=b.T:=tyv_t c3
    refine Y O<|zD O zLe<|zI zBt (J 0 O) O<|G O<|zZ O ok64 (base_Ints t.Dims b.Dims hd) ⟨zC,O,zC,O,T⟩<|yT O<|G O<|zA<|zE O (fun c4=>?_) (fun c4=>?_)
    ·try simp only [sx] at c4
     have c4:¬t.Dims=b.Dims:=by simpa using c4
     have e0:fN mem b=15:=must_15 hs c2 c3 c4
     refine Y O<|G O<|zA<|zG<|zS O ?_
     rw [e0]
    ·try simp only [sx] at c4
     have c4:t.Dims=b.Dims:=by simpa using c4
     have e0:fN mem b=0:=must_0 hs c2 c3 c4
     refine zJ<|Y O<|G O<|zA<|zG<|zS O ?_
     rw [e0]
end Go.W
end
section
set_option maxRecDepth 10000
namespace Go.W
open Go Go.Eng Go.Proofs Go.L41 Go.Br
attribute [local irreducible] AWP RWP TD fT
theorem agg30:lA Tryz.prog 30=some 4:=by kernel_rfl
theorem fd49_1:bE Tryz.prog 49 1=some (1,3):=by kernel_rfl
theorem fd49_2:bE Tryz.prog 49 2=some (2,3):=by kernel_rfl
theorem ok27:bA Tryz.prog 27=true:=by kernel_rfl
theorem ok43:bA Tryz.prog 43=true:=by kernel_rfl
theorem ok44:bA Tryz.prog 44=true:=by kernel_rfl
theorem ok46:bA Tryz.prog 46=true:=by kernel_rfl
theorem ok47:bA Tryz.prog 47=true:=by kernel_rfl
theorem ok55:bA Tryz.prog 55=true:=by kernel_rfl
theorem ok56:bA Tryz.prog 56=true:=by kernel_rfl
theorem ok57:bA Tryz.prog 57=true:=by kernel_rfl
theorem ok84:bA Tryz.prog 84=true:=by kernel_rfl
theorem ok85:bA Tryz.prog 85=true:=by kernel_rfl
theorem pl49:fG Tryz.prog 49=some [(0,1),(1,1),(2,1)]:=by kernel_rfl
theorem pl54:fG Tryz.prog 54=some [(0,1),(1,7)]:=by kernel_rfl
theorem sz49:(Tryz.prog.info? 49).map (·.size)=some 3:=by kernel_rfl
theorem zr49:dM Tryz.prog 49=some [(Value.string (ByteArray.mk #[])),(Value.int IntKind.i64 0),(Value.int IntKind.i64 0)]:=by kernel_rfl
theorem zr54:dM Tryz.prog 54=some [(Value.string (ByteArray.mk #[])),(Value.int IntKind.i64 0),(Value.int IntKind.i64 0),(Value.int IntKind.i64 0),(Value.int IntKind.i64 0),(Value.int IntKind.i64 0),(Value.slice none 0 0),(Value.slice none 0 0)]:=by kernel_rfl
theorem zHa (n:Ns) (hn:n.Ok) (ins:List Nmd) (hm:ins.length<=140737488355328) (hF:∀x,x∈ins->x.T.Dims.length<=17592186044416/\x.T.Vals.length<=1048576):
    Pur cfgO 16 [vNs n,jJ ins] (.tup [jJ (gQ n ins).1,vI (gQ n ins).2]):=by
 refine zR Tryz.func16 O Tryz.ntmps16 Tryz.results16 O ?_
 intro z hz
 have hnb:=hn.bufs
 refine Y O<|zW O O (qB O O) ?_
 rintro _ _ ⟨b1,rfl,rfl⟩
 refine G O<|G O<|zA<|zK<|Y O<|zL zBv (J 0 O) O<|zZ O ok43 (upO (zOg n hn)) ⟨zC,O,T⟩<|qW O<|qY O<|qY O<|G O<|G O<|zA<|Y O<|G O<|yQ O<|zA<|zE O (fun c1=>?_) (fun c1=>?_)
 ·try simp only [sx] at c1
  refine Y O<|G O<|yN 8 O<|G O<|zA<|zG<|R (L O) (L O) ?_
  rw [init_v c1];rfl
 ·try simp only [sx] at c1
  have hbT:=bufs_ty (valid_bufs c1).1
  refine zJ<|Y O<|G O<|yZ _ (wH 54 8)<|zA<|zK<|Y O<|zD O zAb<|zI zCl (J 1 O) O<|qC O el22<|G O<|zA<|zT<|zY ⟨[(24,.c _),(8,.c _),(1,.c _),(22,.c _),(23,.c _)],[_]⟩ (Weak.mk [true,false] ⟨zC,zC,zC,zC,zC,T⟩ O)<|qG 2 1 O O (Nat×Value) (fun ⟨k,sw⟩=>[(24,vI k),(8,.c (.lit sw))]) (fun ⟨k,sw⟩=>[E.vec sw 54 8 (((n.Bufs.take k).map (mF ins)).map Nmd.cells)]) (fun ⟨k,sw⟩=>k<=n.Bufs.length/\(jR ins n.Bufs=jR ins (n.Bufs.drop k))) (fun ⟨k,sw⟩=>n.Bufs.length-k) ⟨⟨0,(.slice none 0 0)⟩,⟨by omega,O⟩,Weak.mk [true] ⟨zC,zC,zC,zC,zC,T⟩ O⟩ ?_
  rintro ⟨k,sw⟩ ⟨hk,hp⟩
  show AWP _ _ _ _ _ ⟨[(24,vI k),(8,.c (.lit sw))]++_,[E.vec sw 54 8 (((n.Bufs.take k).map (mF ins)).map Nmd.cells)]++_⟩
  refine Y O<|yF O<|zA<|zK<|zE O (fun c2=>?_) (fun c2=>?_)
  ·try simp only [sx] at c2
   obtain ⟨b,hb⟩:=yC n.Bufs k (by omega)
   have hbt:=hbT b (qL hb)
   have hsz:=zEk b.Dims
   have hbd:=hn.dims b (qL hb)
   refine zJ<|zK<|zT<|Y O<|qI O el22 (by omega) (D (by assumption))<|zL zIv qD O<|zW O O (qT [none,none,none,none,none,none,some 1,none] O zr46 O) ?_
   rintro _ _ ⟨b3,rfl,rfl⟩
   refine rStR 0 sz46 O<|zA<|zK<|kG 15 1 [⟨0,.q []⟩,⟨1,.q [1]⟩,⟨2,.q []⟩,⟨3,.q [1]⟩,⟨4,.q []⟩,⟨5,.q []⟩,⟨6,.q [1]⟩,⟨7,.q []⟩,⟨8,.q []⟩,⟨9,.q []⟩,⟨10,.q [1]⟩,⟨11,.q []⟩,⟨12,.q []⟩,⟨13,.q []⟩,⟨14,.f 0⟩] mixed (by kernel_rfl) (by kernel_rfl) O O O<|zU O<|zU O<|zU O<|zU O<|zU O<|zU O<|zU O<|zU O<|zU O<|zU O<|zU O<|zU O<|zU O<|zU O<|zFb O O (zBe (qT [none,none,none,none,none,some 1,some 2] O zr52 O)) ⟨_,_,0,O,O⟩<|zAz<|qA O (by decide) O O (zF O zDn O)<|qA O (by decide) O O (zV O qX O (J 0 O) O)<|qA O (by decide) O O (zF O zCu O)<|qA O (by decide) O O (zH O zBt O (J 0 O) O)<|qA O (by decide) O O (qE O ok23 (OwnR.pur (upO (zCx b.Dims hbd))) ⟨zC,O,T⟩)<|qA O (by decide) O O (zF O zDn O)<|qA O (by decide) O O (zV O qX O (J 0 O) O)<|qA O (by decide) O O (qE O ok44 (upO (value_Zero1 hbt.1)) ⟨zC,O,T⟩)<|qA O (by decide) O O (yS O el50 zr59 O O O O)<|qA O (by decide) O O (zF O zCu O)<|qA O (by decide) O O (zH O zBt O (J 0 O) O)<|qA O (by decide) O O (qE O ok45 (upO (zNw b.Dims hbd)) ⟨zC,O,T⟩)<|qA O (by decide) O O (qE O ok38 (OwnR.pur (repeatW ⟨0,1⟩ (bZ b.Dims) hsz.1 (by omega))) ⟨zC,O,zC,O,T⟩)<|qA O (by decide) O O (zBp O zr52 pl52 O)<|zEv O O ?_
   rintro _ _ ⟨b4,rfl,rfl⟩
   refine zAy O<|rStR 0 sz52 O<|zA<|zK<|Y O<|zD O zIk<|zI one3 (J 1 O) O<|qQ O<|zA<|zE O (fun c3=>?_) (fun c3=>?_)
   ·try simp only [sx] at c3
    refine Y O<|G O<|zA<|Y O<|G O<|zL zIv (J 1 O) O<|zZ O ok46 (zTk ins b hm hF) ⟨zC,O,zC,O,T⟩<|qW O<|yD O<|qY O<|rStR 0 sz52 O<|G O<|zA<|Y O<|G O<|yQ O<|zA<|zE O (fun c4=>?_) (fun c4=>?_)
    ·exact v36
    ·try simp only [sx] at c4
     have hE:nO ins b=0:=(iniE_p c3).trans c4
     have hB:=iniB_p c3 c4
     refine zJ<|zQ O<|G O<|zD O zCc<|zI one9 (J 1 O) O<|zL zGo (J 0 O) O<|qR O zr54 pl54<|zX O (yS O el31 zr54 O O O O)<|zW O O (yX 2 O el31 O O O (by simp only [List.length_map,List.length_append,List.length_cons,List.length_nil,List.length_take,List.length_drop];omega) (by simp only [List.length_map,List.length_append,List.length_cons,List.length_nil,List.length_take,List.length_drop];omega)) ?_
     rintro _ _ ⟨sv5,rfl,rfl⟩
     refine G O<|zA<|zQ O<|qF O ⟨by omega,by omega⟩<|G O<|zA ?_
     refine ⟨⟨k+1,sv5⟩,⟨by omega,zQu hb hp hE⟩,(by show n.Bufs.length-(k+1)<n.Bufs.length-k;omega),Weak.mk [false,false,true] ⟨zC,zC,zC,zC,zC,T⟩ (by exact zBg (by rw [kK hb,List.map_append,List.map_append,List.map_singleton,List.map_singleton];rw [hB];rfl))⟩
   ·try simp only [sx] at c3
    have hE:=iniE_z (ins:=ins) c3
    have hB:=iniB_z (ins:=ins) c3
    refine zJ<|zQ O<|G O<|zD O zCc<|zI one9 (J 1 O) O<|zL zGo (J 0 O) O<|qR O zr54 pl54<|zX O (yS O el31 zr54 O O O O)<|zW O O (yX 2 O el31 O O O (by simp only [List.length_map,List.length_append,List.length_cons,List.length_nil,List.length_take,List.length_drop];omega) (by simp only [List.length_map,List.length_append,List.length_cons,List.length_nil,List.length_take,List.length_drop];omega)) ?_
    rintro _ _ ⟨sv6,rfl,rfl⟩
    refine G O<|zA<|zQ O<|qF O ⟨by omega,by omega⟩<|G O<|zA ?_
    refine ⟨⟨k+1,sv6⟩,⟨by omega,zQu hb hp hE⟩,(by show n.Bufs.length-(k+1)<n.Bufs.length-k;omega),Weak.mk [false,false,true] ⟨zC,zC,zC,zC,zC,T⟩ (by exact zBg (by rw [kK hb,List.map_append,List.map_append,List.map_singleton,List.map_singleton];rw [hB];rfl))⟩
  ·try simp only [sx] at c2
   refine qM<|zK<|zY _ (kS 0 O (regs':=[(8,_)]) (μ':=[]) ⟨FLe.sl,T⟩ T)<|zQ O<|G O<|G O<|G O<|zA<|zG<|R (L O) (L O) ?_
   rw [yP (l:=n.Bufs) (k:=k) (by omega),init_ok c1 (ini_end (by omega) hp)]
theorem zIh (n:Ns) (hn:n.Ok) (hw:bX n.Body<=900000) (ins:List Nmd) (hm:ins.length<=140737488355328) (hF:∀x,x∈ins->x.T.Dims.length<=17592186044416/\x.T.Vals.length<=1048576):
    Pur cfg 24 [vNs n,jJ ins] (.tup [jJ (gQ n ins).1,vI (gQ n ins).2]):=by
 refine zR Tryz.func24 O Tryz.ntmps24 Tryz.results24 O ?_
 intro z hz
 have hnb:=hn.bufs
 refine Y O<|zW O O (qB O O) ?_
 rintro _ _ ⟨b1,rfl,rfl⟩
 refine G O<|G O<|zA<|zK<|Y O<|zL zBv (J 0 O) O<|zZ O ok55 (ref30_Validate n hn hw) ⟨zC,O,T⟩<|qW O<|qY O<|qY O<|G O<|G O<|zA<|Y O<|G O<|yQ O<|zA<|zE O (fun c1=>?_) (fun c1=>?_)
 ·try simp only [sx] at c1
  refine Y O<|G O<|yN 8 O<|G O<|zA<|zG<|R (L O) (L O) ?_
  rw [init_v c1];rfl
 ·try simp only [sx] at c1
  have hbT:=bufs_ty (valid_bufs c1).1
  refine zJ<|Y O<|G O<|yZ _ (wH 54 8)<|zA<|zK<|Y O<|G O<|zA<|zT<|zY ⟨[(9,.c _),(8,.c _),(1,.c _),(2,.c _)],[_,_]⟩ (Weak.mk [true,true] ⟨zC,zC,zC,zC,T⟩ O)<|qG 2 1 O O (Nat×Value) (fun ⟨k,sw⟩=>[(9,vI k),(8,.c (.lit sw))]) (fun ⟨k,sw⟩=>[E.vec sw 54 8 (((n.Bufs.take k).map (mF ins)).map Nmd.cells)]) (fun ⟨k,sw⟩=>k<=n.Bufs.length/\(jR ins n.Bufs=jR ins (n.Bufs.drop k))) (fun ⟨k,sw⟩=>n.Bufs.length-k) ⟨⟨0,(.slice none 0 0)⟩,⟨by omega,O⟩,Weak.mk [true,true] ⟨zC,zC,zC,zC,T⟩ O⟩ ?_
  rintro ⟨k,sw⟩ ⟨hk,hp⟩
  show AWP _ _ _ _ _ ⟨[(9,vI k),(8,.c (.lit sw))]++_,[E.vec sw 54 8 (((n.Bufs.take k).map (mF ins)).map Nmd.cells)]++_⟩
  refine zK<|Y O<|G O<|zD O zAb<|zI zCl (J 1 O) O<|qC O el22<|yF O<|zA<|zE O (fun c2=>?_) (fun c2=>?_)
  ·try simp only [sx] at c2
   obtain ⟨b,hb⟩:=yC n.Bufs k (by omega)
   have hbt:=hbT b (qL hb)
   have hsz:=zEk b.Dims
   have hbd:=hn.dims b (qL hb)
   refine zJ<|zK<|zT<|Y O<|zD O zAb<|zI zCl (J 1 O) O<|G O<|qI O el22 (by omega) (D (by assumption))<|zL zIv qD O<|zW O O (qT [none,none,none,none,none,none,some 1,none] O zr46 O) ?_
   rintro _ _ ⟨b3,rfl,rfl⟩
   refine rStR 0 sz46 O<|zA<|zK<|Y O<|zD O zIk<|zI one3 (J 0 O) O<|qQ O<|zA<|zE O (fun c3=>?_) (fun c3=>?_)
   ·try simp only [sx] at c3
    refine zK<|Y O<|G O<|zD O zCc<|zI one9 (J 0 O) O<|zD O zDn<|zL qX (J 0 O) O<|zD O zCu<|zI zBt (J 0 O) O<|zZ O ok56 (ref19_Must ins b hm hF) ⟨zC,O,zC,O,zC,O,zC,O,T⟩<|G O<|zA<|Y O<|G O<|yQ O<|zA<|zE O (fun c4=>?_) (fun c4=>?_)
    ·exact v36
    ·try simp only [sx] at c4
     have hE:nO ins b=0:=(iniE_p c3).trans c4
     have hB:=iniB_f (ins:=ins) c3
     refine zJ<|Y O<|G O<|zD O zCc<|zI one9 (J 0 O) O<|zZ O ok28 (zOb ins b.Name hm) ⟨zC,O,zC,O,T⟩<|qW O<|yD O<|qY O<|zW O O (qT [none,none,none,none,none,some 1,some 2] O zr52 O) ?_
     rintro _ _ ⟨b4,rfl,rfl⟩
     refine rStR 0 sz52 O<|G O<|zA<|Y O<|G O<|zD O zCc<|zI one9 (J 1 O) O<|zL zGo (J 0 O) O<|qR O zr54 pl54<|zX O (yS O el31 zr54 O O O O)<|zW O O (yX 2 O el31 O O O (by simp only [List.length_map,List.length_append,List.length_cons,List.length_nil,List.length_take,List.length_drop];omega) (by simp only [List.length_map,List.length_append,List.length_cons,List.length_nil,List.length_take,List.length_drop];omega)) ?_
     rintro _ _ ⟨sv5,rfl,rfl⟩
     refine G O<|zA<|qM<|zQ O<|G O<|qF O ⟨by omega,by omega⟩<|G O<|zA ?_
     refine ⟨⟨k+1,sv5⟩,⟨by omega,zQu hb hp hE⟩,(by show n.Bufs.length-(k+1)<n.Bufs.length-k;omega),Weak.mk [false,false,true,true] ⟨zC,zC,zC,zC,T⟩ (by exact zBg (by rw [kK hb,List.map_append,List.map_append,List.map_singleton,List.map_singleton];rw [hB];first|rfl|(rw [hsd];rfl)))⟩
   ·try simp only [sx] at c3
    have hE:=iniE_z (ins:=ins) c3
    have hB:=iniB_z (ins:=ins) c3
    obtain ⟨q1,hpos,t,ht,q2,q3⟩:=zMz hbt.2
    refine zJ<|Y O<|zD O zDn<|zL qX (J 0 O) O<|zD O zCu<|zI zBt (J 0 O) O<|qR O zr52 pl52<|zW O O (qS O zr52) ?_
    rintro _ _ ⟨b6,rfl,rfl⟩
    refine yZ _ (wH 3 1)<|yZ _ (wH 59 2)<|rStR 2 sz52 O<|zA<|Y O<|G O<|zA<|zK<|Y O<|G O<|zA<|zT<|zY ⟨[(16,.c _),(15,.c _),(1,.c _),(2,.c _),(8,.c _),(9,.c _),(10,.c _),(14,.c _)],[_,_,_,_,_]⟩ (Weak.mk [true,false,true,true,true,true] ⟨zC,zC,zC,zC,zC,zC,zC,zC,T⟩ O)<|qG 2 0 O O (Nat×Int) (fun ⟨j,s⟩=>[(16,vI j),(15,vI s)]) (fun ⟨j,s⟩=>[]) (fun ⟨j,s⟩=>j<=b.Dims.length/\(1<=s)/\(s<=4096)/\(bH 1 b.Dims=bH s (b.Dims.drop j))) (fun ⟨j,s⟩=>b.Dims.length-j) ⟨⟨0,1⟩,⟨by omega,by omega,by omega,O⟩,Weak.mk [true,true,true,true,true] ⟨zC,VLe.of_eq (O),zC,zC,zC,zC,zC,zC,T⟩ O⟩ ?_
    rintro ⟨j,s⟩ ⟨hj,hs1,hs2,hs3⟩
    show AWP _ _ _ _ _ ⟨[(16,vI j),(15,vI s)]++_,[]++_⟩
    refine zK<|Y O<|G O<|zD O zCu<|zI zBt (J 2 O) O<|qC O v<|yF O<|zA<|zE O (fun c5=>?_) (fun c5=>?_)
    ·try simp only [sx] at c5
     obtain ⟨d,hd⟩:=yC b.Dims j (by omega)
     have hm1:=zDk hs1 (zDi hpos hd)
     have hfit:=size_fit hd hs3 ht
     refine zJ<|zK<|zT<|zQ O<|G O<|zD O zCu<|zI zBt (J 2 O) O<|G O<|qI O v (by omega) (D (by assumption))<|zI one3 qD O<|zX O (yI O O O ⟨by omega,by omega⟩)<|G O<|zA<|zQ O<|G O<|qF O ⟨by omega,by omega⟩<|G O<|zA ?_
     refine ⟨⟨j+1,s*d⟩,⟨by omega,by omega,by omega,zGr hd hs3 hfit⟩,(by show b.Dims.length-(j+1)<b.Dims.length-j;omega),Weak.mk [true,true,true,true,true] ⟨zC,zC,zC,zC,zC,zC,zC,zC,T⟩ O⟩
    ·try simp only [sx] at c5
     have hsd:bZ b.Dims=s:=zHy hbt.2 (zGs hs3 (by omega))
     refine qM<|zK<|Y O<|G O<|zA<|zT<|zY ⟨[(17,.c _),(1,.c _),(2,.c _),(8,.c _),(9,.c _),(10,.c _),(14,.c _),(15,.c _)],[_,_,_,_,_]⟩ (Weak.mk [true,true,true,true,true] ⟨zC,zC,zC,zC,zC,zC,zC,zC,T⟩ O)<|qG 1 2 O O (Nat×Value) (fun ⟨i,sv⟩=>[(17,vI i)]) (fun ⟨i,sv⟩=>[E.vec sv 59 2 ((List.replicate i (⟨0,1⟩:Vl)).map Vl.cells),E.row b6 52 [cI b.T.Kind,cI b.T.Bits,cI b.T.Frac,cI b.T.Round,cI b.T.Over,.sl 1 (b.Dims.map fun n=>[cI n]),.lit sv]]) (fun ⟨i,sv⟩=>i<=s.toNat) (fun ⟨i,sv⟩=>s.toNat-i) ⟨⟨0,.slice none 0 0⟩,(Nat.zero_le _),Weak.mk [true,true,true,true,true] ⟨zC,zC,zC,zC,zC,zC,zC,zC,T⟩ O⟩ ?_
     rintro ⟨i,sv⟩ hi
     refine zK<|Y O<|G O<|G O<|yF O<|zA<|zE O (fun c6=>?_) (fun c6=>?_)
     ·try simp only [sx] at c6
      refine zJ<|zK<|zT<|qV 6 mixed (by kernel_rfl) O O<|zN O O (zF O zFz O)<|zN O O (zH O zCq O (J 1 O) O)<|zN O O (zF O zDn O)<|zN O O (zV O qX O (J 2 O) O)<|zN O O (qE O ok57 (ref04_Zero1 hbt.1) ⟨zC,O,T⟩)<|zN O O (yS O el50 zr59 O O O O)<|yK<|zW O O (yX 0 O el50 O O O (by simp only [List.length_map,List.length_replicate,List.length_cons,List.length_nil];omega) (by simp only [List.length_map,List.length_replicate,List.length_cons,List.length_nil];omega)) ?_
      rintro _ _ ⟨sv9,rfl,rfl⟩
      refine zD O zFz<|rStR 1 sz50 O<|zA<|zQ O<|G O<|qF O ⟨by omega,by omega⟩<|G O<|zA ?_
      refine ⟨⟨i+1,sv9⟩,(by omega),(by show s.toNat-(i+1)<s.toNat-i;omega),Weak.mk [true,true,true,true,true] ⟨zC,zC,zC,zC,zC,zC,zC,zC,T⟩ (by exact mem2_eq' rep_next)⟩
     ·try simp only [sx] at c6
      obtain rfl:i=s.toNat:=by omega
      refine zY _ (kS 0 O (regs':=[]) (μ':=[_,_,_,_]) T ⟨EFle.row (ds:=[_,_,_,_,_,_,_]) ⟨.inl O,.inl O,.inl O,.inl O,.inl O,.inl O,.inr ⟨O,O⟩,T⟩,EFle.refl _,EFle.refl _,EFle.refl _,T⟩)<|qM<|zQ O<|G O<|zD O zCc<|zI one9 (J 1 O) O<|zL zGo (J 0 O) O<|qR O zr54 pl54<|zX O (yS O el31 zr54 O O O O)<|zW O O (yX 2 O el31 O O O (by simp only [List.length_map,List.length_append,List.length_cons,List.length_nil,List.length_take,List.length_drop];omega) (by simp only [List.length_map,List.length_append,List.length_cons,List.length_nil,List.length_take,List.length_drop];omega)) ?_
      rintro _ _ ⟨sv10,rfl,rfl⟩
      refine G O<|zA<|zQ O<|G O<|qF O ⟨by omega,by omega⟩<|G O<|zA ?_
      refine ⟨⟨k+1,sv10⟩,⟨by omega,zQu hb hp hE⟩,(by show n.Bufs.length-(k+1)<n.Bufs.length-k;omega),Weak.mk [false,false,true,true] ⟨zC,zC,zC,zC,T⟩ (by exact zBg (by rw [kK hb,List.map_append,List.map_append,List.map_singleton,List.map_singleton];rw [hB];first|rfl|(rw [hsd];rfl)))⟩
  ·try simp only [sx] at c2
   refine qM<|zK<|zY _ (kS 0 O (regs':=[(8,_)]) (μ':=[_]) ⟨FLe.sl,T⟩ ⟨EFle.refl _,T⟩)<|zQ O<|G O<|G O<|G O<|zA<|zG<|R (L O) (L O) ?_
   rw [yP (l:=n.Bufs) (k:=k) (by omega),init_ok c1 (ini_end (by omega) hp)]
theorem zNz (l:List St0) (s:ByteArray) (hl:l.length<=140737488355328):
    Pur cfg 27 [pM l,vS s] (.tup [vZ (fP l s),vB (fH l s).isSome]):=by
 refine zR Tryz.func27 O Tryz.ntmps27 Tryz.results27 O ?_
 intro z hz
 refine Y O<|zW O O (qS O zr49) ?_
 rintro _ _ ⟨b1,rfl,rfl⟩
 refine G O<|zA<|zK<|Y O<|G O<|zA<|zT<|zY ⟨[(6,.c _),(0,.c _),(1,.c _),(4,.c _)],[_]⟩ (Weak.mk [true] ⟨zC,zC,zC,zC,T⟩ O)<|qG 1 0 O O (Nat) (fun k=>[(6,vI k)]) (fun k=>[]) (fun k=>k<=l.length/\(fH l s=fH (l.drop k) s)) (fun k=>l.length-k) ⟨0,⟨by omega,O⟩,Weak.mk [true] ⟨zC,zC,zC,zC,T⟩ O⟩ ?_
 rintro k ⟨hk,hp⟩
 refine zK<|Y O<|G O<|G O<|qC O el28<|yF O<|zA<|zE O (fun c1=>?_) (fun c1=>?_)
 ·try simp only [sx] at c1
  obtain ⟨x,hx⟩:=yC l k (by omega)
  refine zJ<|zK<|zT<|Y O<|G O<|G O<|qI O el28 (by omega) (D (by assumption))<|yB O fd49_0<|zI one9 qD O<|G O<|zX O (kF O O O)<|zA<|zE O (fun c2=>?_) (fun c2=>?_)
  ·try simp only [sx] at c2
   refine Y O<|G O<|G O<|qI O el28 (by omega) (D (by assumption))<|zL agg49 qD O<|rStR 0 sz49 O<|G O<|zA<|zG<|R (zP agg49 O (J 0 O) O) (L O) ?_
   unfold fP;rw [hp,fndSl_at hx c2];rfl
  ·try simp only [sx] at c2
   refine zJ<|zQ O<|G O<|qF O ⟨by omega,by omega⟩<|G O<|zA ?_
   refine ⟨k+1,⟨by omega,hp.trans (fndSl_nx hx c2)⟩,(by omega),Weak.mk [true] ⟨zC,zC,zC,zC,T⟩ O⟩
 ·try simp only [sx] at c1
  refine qM<|Y O<|qR O zr49 pl49<|rStR 0 sz49 O<|G O<|zA<|zG<|R (zP agg49 O (J 0 O) O) (L O) ?_
  unfold fP;rw [hp,fndSl_end (by omega)];rfl
theorem vm_slotOf_1 (x:St0) (s:ByteArray):
    Pur cfg 85 [vZ x,.c (.iptr [cS s])] (vB (decide (x.Name=s))):=by
 refine zR Tryz.func85 O Tryz.ntmps85 Tryz.results85 O ?_
 intro z hz
 refine Y O<|zW O O (qB O O) ?_
 rintro _ _ ⟨b1,rfl,rfl⟩
 refine G O<|zA<|Y O<|zD O fd49_0<|zI one9 (J 0 O) O<|zI one9 qD O<|zX O (kF O O O)<|G O<|zA<|zG<|zS O ?_
 exact O
theorem vm_slotOf (u:Un0) (s:ByteArray) (hl:u.slots.length<=140737488355328):
    Pur cfg 47 [vU0 u,vS s] (.tup [vZ (fP u.slots s),vB (fH u.slots s).isSome]):=by
 refine zR Tryz.func47 O Tryz.ntmps47 Tryz.results47 O ?_
 intro z hz
 refine Y O<|zW O O (qB O O) ?_
 rintro _ _ ⟨b1,rfl,rfl⟩
 refine zW O O (qB O O) ?_
 rintro _ _ ⟨b2,rfl,rfl⟩
 refine zW O O (qS O zr49) ?_
 rintro _ _ ⟨b3,rfl,rfl⟩
 refine G O<|zA<|Y O<|zD O fd30_2<|zI one28 (J 2 O) O<|yZ _ (kM 1 O 3 _ PLe.ptr)<|zX O (zGd O O O O O)<|zZ O ok84 (zKt u.slots _ (fun x=>decide (x.Name=s)) hl (fun x _=>FnPur.of_pur (first:=[]) (cap:=[.iptr [cS s]]) ok85 (vm_slotOf_1 x s))) ⟨zC,O,zC,O,T⟩<|G O<|zA<|zK<|Y O<|G O<|yF O<|zA<|zE O (fun c1=>?_) (fun c1=>?_)
 ·try simp only [sx] at c1
  refine Y O<|qR O zr49 pl49<|rStR 0 sz49 O<|G O<|zA<|zG<|R (zP agg49 O (J 0 O) O) (L O) ?_
  unfold fP;rw [zTo,if_neg (by omega)];rfl
 ·try simp only [sx] at c1
  obtain ⟨i,x,hi,hx⟩:=idx_fnd (show 0<=bW (fun x:St0=>decide (x.Name=s)) u.slots by omega)
  have e:fH u.slots s=some x:=by rw [zTo,hi,if_pos (by omega),Int.toNat_natCast,hx]
  have hil:=(List.getElem?_eq_some_iff.1 hx).1
  rw [hi]
  refine zJ<|Y O<|zD O fd30_2<|zI one28 (J 1 O) O<|G O<|qI O el28 (by omega) (D hx)<|zL agg49 qD O<|rStR 0 sz49 O<|G O<|zA<|zG<|R (zP agg49 O (J 0 O) O) (L O) ?_
  unfold fP;rw [e];rfl
theorem ref49_placed (s:Mc) (w:Int) (hs:s.Ok w) (n:Ns) (hn:n.Ok) (ins:List Nmd) (hL:jR ins n.Bufs=0) (S:List St0) (hS:S.length<=140737488355328):
    Pur cfgO 26 [vMc s,vNs n,jJ (n.Bufs.map (mF ins)),pM S] (vI (jE s S n.Bufs)):=by
 refine zR Tryz.func26 O Tryz.ntmps26 Tryz.results26 O ?_
 intro z hz
 have hnb:=hn.bufs
 have hM1:=hs.hM
 have hM2:=hs.hw
 refine Y O<|zW O O (qB O O) ?_
 rintro _ _ ⟨b1,rfl,rfl⟩
 refine zW O O (qB O O) ?_
 rintro _ _ ⟨b2,rfl,rfl⟩
 refine G O<|zA<|zK<|Y O<|G O<|zA<|zT<|zY ⟨[(9,.c _),(2,.c _),(3,.c _),(4,.c _),(5,.c _)],[_,_]⟩ (Weak.mk [true,true] ⟨zC,zC,zC,zC,zC,T⟩ O)<|qG 1 0 O O (Nat) (fun k=>[(9,vI k)]) (fun k=>[]) (fun k=>k<=n.Bufs.length/\(jE s S n.Bufs=jE s S (n.Bufs.drop k))) (fun k=>n.Bufs.length-k) ⟨0,⟨by omega,O⟩,Weak.mk [true,true] ⟨zC,zC,zC,zC,zC,T⟩ O⟩ ?_
 rintro k ⟨hk,hp⟩
 refine zK<|Y O<|G O<|zD O zAb<|zI zCl (J 0 O) O<|qC O el22<|yF O<|zA<|zE O (fun c1=>?_) (fun c1=>?_)
 ·try simp only [sx] at c1
  obtain ⟨b,hb⟩:=yC n.Bufs k (by omega)
  have hV:=iniV_len (zQv hL b (qL hb))
  refine zJ<|zK<|zT<|Y O<|G O<|zD O zAb<|zI zCl (J 0 O) O<|G O<|qI O el22 (by omega) (D (by assumption))<|yB O zCc<|zI one9 qD O<|zZ O ok27 (upO (zNz S b.Name hS)) ⟨zC,O,zC,O,T⟩<|qW O<|yD O<|qY O<|zW O O (qS O zr49) ?_
  rintro _ _ ⟨b3,rfl,rfl⟩
  refine rStR 0 sz49 O<|G O<|zA<|zT<|Y O<|G O<|yT O<|G O<|zA<|zE O (fun c2=>?_) (fun c2=>?_)
  ·try simp only [sx] at c2
   have e9:=fndSl_none (show (fH S b.Name).isSome=false by simpa using c2)
   refine Y O<|G O<|zA<|zG<|zS O ?_
   rw [zNu hb hp (by rw [sltE_9 e9];decide),sltE_9 e9]
  ·try simp only [sx] at c2
   have e9:=fndSl_some (show (fH S b.Name).isSome=true by simpa using c2) rfl
   refine zK<|qV 11 mixed (by kernel_rfl) O O<|zN O O (zF O fd49_2 O)<|zN O O (zH O one3 O (J 0 O) O)<|zN O O (zO O O)<|zN O O (zO O O)<|zN O O (qH O el31 O O (by omega) (D (ini_ix hb)))<|zN O O (qU O zPp O)<|zN O O (qU O zFz O)<|zN O O (zH O zCq O qD O)<|zN O O (yH O el50 O)<|zN O O (kT O O O)<|zN O O (yE O O)<|yK<|zA<|zE O (fun c3=>?_) (fun c3=>?_)
   ·try simp only [sx] at c3
    rw [hV] at c3
    refine Y O<|G O<|zA<|zG<|zS O ?_
    rw [zNu hb hp (by rw [sltE_15 e9 c3];decide),sltE_15 e9 c3]
   ·try simp only [sx] at c3
    rw [hV] at c3
    refine Y O<|zL yY (J 2 O) O<|zD O fd49_1<|zI one3 (J 0 O) O<|zD O fd49_2<|zI one3 (J 0 O) O<|zZ O ok60 (zJh s (fP S b.Name).At (fP S b.Name).Len (by omega)) ⟨zC,O,zC,O,zC,O,T⟩<|yT O<|G O<|zA<|zE O (fun c4=>?_) (fun c4=>?_)
    ·try simp only [sx] at c4
     have c4:dC s (fP S b.Name).At (fP S b.Name).Len=false:=by simpa using c4
     refine Y O<|G O<|zA<|zG<|zS O ?_
     rw [zNu hb hp (by rw [sltE_12 e9 c3 c4];decide),sltE_12 e9 c3 c4]
    ·try simp only [sx] at c4
     have c4:dC s (fP S b.Name).At (fP S b.Name).Len=true:=by simpa using c4
     refine zJ<|zQ O<|G O<|qF O ⟨by omega,by omega⟩<|G O<|zA ?_
     refine ⟨k+1,⟨by omega,slt_next hb hp (sltE_0 e9 c3 c4)⟩,(by omega),Weak.mk [false,true,true] ⟨zC,zC,zC,zC,zC,T⟩ O⟩
 ·try simp only [sx] at c1
  refine qM<|Y O<|G O<|zA<|zG<|zS O ?_
  rw [slt_end (by omega) hp]
theorem vm_slots0 (b:Nat) (sv:Value) (s:Mc) (w:Int) (hs:s.Ok w) (n:Ns) (hn:n.Ok) (u:Un0) (hu:u.slots.length<=140737488355328):
    Con cfgO 17 [vPt b,vNs n,vU0 u] (mcE b sv s) fun r μ'=>r=.tup [pM (if jE s u.slots n.Bufs=0 then n.Bufs.map (fun q=>fP u.slots q.Name) else []),vI (jE s u.slots n.Bufs)]/\∃ν,μ'=ν++mcE b sv s:=by
 refine zR Tryz.func17 O Tryz.ntmps17 Tryz.results17 O ?_
 intro z hz
 have hnb:=hn.bufs
 have hM1:=hs.hM
 have hM2:=hs.hw
 refine Y O<|zW O O (qB O O) ?_
 rintro _ _ ⟨b1,rfl,rfl⟩
 refine zW O O (qB O O) ?_
 rintro _ _ ⟨b2,rfl,rfl⟩
 refine G O<|G O<|zA<|Y O<|G O<|yZ _ (wH 49 3)<|zA<|zK<|Y O<|zD O zAb<|zI zCl (J 2 O) O<|qC O el22<|G O<|zA<|zT<|zY ⟨[(16,.c _),(8,.c _),(0,.c _),(5,.c _),(14,.c _),(15,.c _)],[_,_,_,_]⟩ (Weak.mk [true,true,false,true,true] ⟨zC,zC,zC,zC,zC,zC,T⟩ O)<|qG 2 1 O O (Nat×Value) (fun ⟨k,sw⟩=>[(16,vI k),(8,.c (.lit sw))]) (fun ⟨k,sw⟩=>[E.vec sw 49 3 (((n.Bufs.take k).map fun q=>fP u.slots q.Name).map St0.cells)]) (fun ⟨k,sw⟩=>k<=n.Bufs.length/\(jE s u.slots n.Bufs=jE s u.slots (n.Bufs.drop k))) (fun ⟨k,sw⟩=>n.Bufs.length-k) ⟨⟨0,(.slice none 0 0)⟩,⟨by omega,O⟩,Weak.mk [true,true,true,true] ⟨zC,zC,zC,zC,zC,zC,T⟩ O⟩ ?_
 rintro ⟨k,sw⟩ ⟨hk,hp⟩
 show AWP _ _ _ _ _ ⟨[(16,vI k),(8,.c (.lit sw))]++_,[E.vec sw 49 3 (((n.Bufs.take k).map fun q=>fP u.slots q.Name).map St0.cells)]++_⟩
 refine Y O<|yF O<|zA<|zK<|zE O (fun c1=>?_) (fun c1=>?_)
 ·try simp only [sx] at c1
  obtain ⟨q,hq⟩:=yC n.Bufs k (by omega)
  refine zJ<|zK<|zT<|Y O<|qI O el22 (by omega) (D (by assumption))<|zL zIv qD O<|zW O O (qT [none,none,none,none,none,none,some 1,none] O zr46 O) ?_
  rintro _ _ ⟨b4,rfl,rfl⟩
  refine rStR 0 sz46 O<|zA<|Y O<|zL agg30 (J 2 O) O<|zD O zCc<|zI one9 (J 0 O) O<|zZ O ok47 (upO (vm_slotOf u q.Name hu)) ⟨zC,O,zC,O,T⟩<|qW O<|yD O<|qY O<|zW O O (qS O zr49) ?_
  rintro _ _ ⟨b5,rfl,rfl⟩
  refine rStR 0 sz49 O<|G O<|zA<|zK<|zT<|Y O<|G O<|yT O<|G O<|zA<|zE O (fun c2=>?_) (fun c2=>?_)
  ·try simp only [sx] at c2
   have e9:=fndSl_none (show (fH u.slots q.Name).isSome=false by simpa using c2)
   refine Y O<|yN 3 O<|G O<|zA<|zG<|R (L O) (L O) ?_
   have hz:=zNu hq hp (by rw [sltE_9 e9];decide)
   rw [sltE_9 e9] at hz
   rw [hz,if_neg (by decide)]
   exact ⟨O,[_,_,_,_],O⟩
  ·try simp only [sx] at c2
   have e9:=fndSl_some (show (fH u.slots q.Name).isSome=true by simpa using c2) rfl
   refine zK<|qV 7 mixed (by kernel_rfl) O O<|zN O O (zF O fd49_2 O)<|zN O O (zH O one3 O (J 0 O) O)<|zN O O (zF O zCu O)<|zN O O (zH O zBt O (J 1 O) O)<|zN O O (qE O ok45 (upO (zNw q.Dims (hn.dims q (qL hq)))) ⟨zC,O,T⟩)<|zN O O (kT O O O)<|zN O O (yE O O)<|yK<|zA<|zE O (fun c3=>?_) (fun c3=>?_)
   ·try simp only [sx] at c3
    refine Y O<|yN 3 O<|G O<|zA<|zG<|R (L O) (L O) ?_
    have hz:=zNu hq hp (by rw [sltE_15 e9 c3];decide)
    rw [sltE_15 e9 c3] at hz
    rw [hz,if_neg (by decide)]
    exact ⟨O,[_,_,_,_],O⟩
   ·try simp only [sx] at c3
    refine Y O<|G O<|zD O fd49_1<|zI one3 (J 0 O) O<|zD O fd49_2<|zI one3 (J 0 O) O<|zX O (yG [4,4] O ok48 (vm_holds b sv s w hs (fP u.slots q.Name).At (fP u.slots q.Name).Len (by omega)) ⟨zC,O,zC,O,zC,O,T⟩ O)<|yT O<|G O<|zA<|zE O (fun c4=>?_) (fun c4=>?_)
    ·try simp only [sx] at c4
     have c4:dC s (fP u.slots q.Name).At (fP u.slots q.Name).Len=false:=by simpa using c4
     refine Y O<|yN 3 O<|G O<|zA<|zG<|R (L O) (L O) ?_
     have hz:=zNu hq hp (by rw [sltE_12 e9 c3 c4];decide)
     rw [sltE_12 e9 c3 c4] at hz
     rw [hz,if_neg (by decide)]
     exact ⟨O,[_,_,_,_],O⟩
    ·try simp only [sx] at c4
     have c4:dC s (fP u.slots q.Name).At (fP u.slots q.Name).Len=true:=by simpa using c4
     refine zJ<|zQ O<|G O<|zL agg49 (J 0 O) O<|zX O (yS O el28 zr49 O O O O)<|zW O O (yX 2 O el28 O O O (by simp only [List.length_map,List.length_append,List.length_cons,List.length_nil,List.length_take,List.length_drop];omega) (by simp only [List.length_map,List.length_append,List.length_cons,List.length_nil,List.length_take,List.length_drop];omega)) ?_
     rintro _ _ ⟨sv6,rfl,rfl⟩
     refine G O<|zA<|zQ O<|qF O ⟨by omega,by omega⟩<|G O<|zA ?_
     refine ⟨⟨k+1,sv6⟩,⟨by omega,slt_next hq hp (sltE_0 e9 c3 c4)⟩,(by show n.Bufs.length-(k+1)<n.Bufs.length-k;omega),Weak.mk [false,false,true,true,true,true] ⟨zC,zC,zC,zC,zC,zC,T⟩ (by exact zBg (by rw [kK hq,List.map_append,List.map_append,List.map_singleton,List.map_singleton];rfl))⟩
 ·try simp only [sx] at c1
  refine qM<|zK<|zY _ (kS 0 O (regs':=[(8,_)]) (μ':=[_,_,_]) ⟨FLe.sl,T⟩ ⟨EFle.refl _,EFle.refl _,EFle.refl _,T⟩)<|zQ O<|G O<|G O<|G O<|zA<|zG<|R (L O) (L O) ?_
  rw [slt_end (by omega) hp,if_pos rfl,yP (l:=n.Bufs) (k:=k) (by omega)]
  exact ⟨O,[_],O⟩
theorem vm_slots (b:Nat) (sv:Value) (s:Mc) (w:Int) (hs:s.Ok w) (n:Ns) (hn:n.Ok) (u:Un0) (hu:u.slots.length<=140737488355328):Con cfgO 17 [vPt b,vNs n,vU0 u] (mcE b sv s) fun r μ'=>r=.tup [pM (if jE s u.slots n.Bufs=0 then n.Bufs.map (fun q=>fP u.slots q.Name) else []),vI (jE s u.slots n.Bufs)]/\μ'=mcE b sv s:=Con.drop (vm_slots0 b sv s w hs n hn u hu)
end Go.W
end
section
set_option maxRecDepth 10000
namespace Go.W
open Go Go.Eng Go.Proofs Go.L41 Go.Br
attribute [local irreducible] AWP RWP TD fT
theorem ok4:bA Tryz.prog 4=true:=by kernel_rfl
theorem ok5:bA Tryz.prog 5=true:=by kernel_rfl
theorem ok6:bA Tryz.prog 6=true:=by kernel_rfl
theorem ok7:bA Tryz.prog 7=true:=by kernel_rfl
theorem ok8:bA Tryz.prog 8=true:=by kernel_rfl
theorem ok9:bA Tryz.prog 9=true:=by kernel_rfl
theorem ok10:bA Tryz.prog 10=true:=by kernel_rfl
theorem ok16:bA Tryz.prog 16=true:=by kernel_rfl
theorem ok17:bA Tryz.prog 17=true:=by kernel_rfl
theorem ok18:bA Tryz.prog 18=true:=by kernel_rfl
theorem ok19:bA Tryz.prog 19=true:=by kernel_rfl
theorem ok20:bA Tryz.prog 20=true:=by kernel_rfl
theorem ok21:bA Tryz.prog 21=true:=by kernel_rfl
theorem ok24:bA Tryz.prog 24=true:=by kernel_rfl
theorem ok25:bA Tryz.prog 25=true:=by kernel_rfl
theorem ok26:bA Tryz.prog 26=true:=by kernel_rfl
theorem ok30:bA Tryz.prog 30=true:=by kernel_rfl
theorem ok31:bA Tryz.prog 31=true:=by kernel_rfl
theorem ok33:bA Tryz.prog 33=true:=by kernel_rfl
theorem ok65:bA Tryz.prog 65=true:=by kernel_rfl
theorem vm_Execute_1 (x:Vl) (b:Bf):
    Pur cfg 21 [bJ x,.c (.iptr b.cells)] (vB (!(bD b.T&&bC b.T x))):=by
 refine zR Tryz.func21 O Tryz.ntmps21 Tryz.results21 O ?_
 intro z hz
 refine Y O<|zW O O (qB O O) ?_
 rintro _ _ ⟨b1,rfl,rfl⟩
 refine G O<|zA<|Y O<|yB O zDn<|zL qX qD O<|zL qN (J 0 O) O<|zZ O ok22 (zAw b.T x) ⟨zC,O,zC,O,T⟩<|yT O<|G O<|zA<|zG<|zS O ?_
 exact O
theorem vm_Execute_bad (n:Ns) (hn:n.Ok) (hw:bX n.Body<=900000) (u:Un0) (hT:u.tys.length<=1000000) (hS:u.slots.length<=140737488355328) (ins:List Nmd) (hm:ins.length<=140737488355328) (hF:∀x,x∈ins->x.T.Dims.length<=17592186044416/\x.T.Vals.length<=1048576) (f:Int) (hv:¬(vld u.code u.tys u.words).2=0):
    Pur cfgO 8 [vNs n,vU0 u,jJ ins,vI f] (.tup [jJ (gG n u ins f).1,vI (gG n u ins f).2.1,vI (gG n u ins f).2.2]):=by
 refine zR Tryz.func8 O Tryz.ntmps8 Tryz.results8 O ?_
 intro z hz
 refine Y O<|zW O O (qB O O) ?_
 rintro _ _ ⟨b1,rfl,rfl⟩
 refine zW O O (qB O O) ?_
 rintro _ _ ⟨b2,rfl,rfl⟩
 refine yN 8 O<|G O<|G O<|zA<|Y O<|zL zBv (J 1 O) O<|G O<|zZ O ok16 (zHa n hn ins hm hF) ⟨zC,O,zC,O,T⟩<|qW O<|qY O<|qY O<|G O<|G O<|zA<|zK<|Y O<|G O<|yQ O<|zA<|zE O (fun c1=>?_) (fun c1=>?_)
 ·exact j8
 ·try simp only [sx] at c1
  refine zJ<|Y O<|zL agg30 (J 0 O) O<|zZ O ok12 (vm_New_bad u hT hv) ⟨zC,O,T⟩<|qW O<|qY O<|qY O<|G O<|G O<|zA<|zK<|Y O<|G O<|yQ O<|zA<|zE O (fun c2=>?_) (fun c2=>?_)
  ·refine Y O<|G O<|yN 8 O<|G O<|G O<|zA<|zG<|fin3 (L O) (L O) (L O) ?_
   rw [exe_2 c1 hv];rfl
  ·try simp only [sx] at c2
   exact absurd c2 hv
theorem vm_Execute_ok (n:Ns) (hn:n.Ok) (hw:bX n.Body<=900000) (u:Un0) (hT:u.tys.length<=1000000) (hS:u.slots.length<=140737488355328) (ins:List Nmd) (hm:ins.length<=140737488355328) (hF:∀x,x∈ins->x.T.Dims.length<=17592186044416/\x.T.Vals.length<=1048576) (f:Int) (hv:(vld u.code u.tys u.words).2=0):
    Pur cfgO 8 [vNs n,vU0 u,jJ ins,vI f] (.tup [jJ (gG n u ins f).1,vI (gG n u ins f).2.1,vI (gG n u ins f).2.2]):=by
 refine zR Tryz.func8 O Tryz.ntmps8 Tryz.results8 O ?_
 intro z hz
 have hnb:=hn.bufs
 refine Y O<|zW O O (qB O O) ?_
 rintro _ _ ⟨b1,rfl,rfl⟩
 refine zW O O (qB O O) ?_
 rintro _ _ ⟨b2,rfl,rfl⟩
 refine G O<|G O<|G O<|zA<|Y O<|zL zBv (J 1 O) O<|G O<|zZ O ok16 (zHa n hn ins hm hF) ⟨zC,O,zC,O,T⟩<|qW O<|qY O<|qY O<|G O<|G O<|zA<|zK<|Y O<|G O<|yQ O<|zA<|zE O (fun c1=>?_) (fun c1=>?_)
 ·exact j8
 ·try simp only [sx] at c1
  have hini:=c1
  obtain ⟨hI1,hL,hval⟩:=init_is c1
  rw [hI1]
  refine zJ<|Y O<|zL agg30 (J 0 O) O<|zW O O (zBw O ok12 (Con.frame (zLx u hT hv) _) ⟨zC,O,T⟩) ?_
  rintro _ _ ⟨_,⟨b_1,sv_1,rfl,rfl⟩,rfl⟩
  refine qW O<|qY O<|qY O<|G O<|G O<|zA<|zK<|Y O<|G O<|yQ O<|zA<|zE O (fun c2=>?_) (fun c2=>?_)
  ·try simp only [sx] at c2
   exact absurd c2 (by simp)
  ·try simp only [sx] at c2
   refine zJ<|Y O<|G O<|zL zBv (J 3 O) O<|zL agg30 (J 2 O) O<|zX O (yG [0,0] O ok17 (vm_slots b_1 sv_1 (dJ u.code u.tys u.words) u.words (zHu hv) n hn u hS) ⟨zC,O,zC,O,zC,O,T⟩ O)<|qW O<|qY O<|qY O<|G O<|G O<|zA<|zK<|Y O<|G O<|yQ O<|zA<|zE O (fun c3=>?_) (fun c3=>?_)
   ·try simp only [sx] at c3
    refine Y O<|G O<|yN 8 O<|G O<|G O<|zA<|zG<|fin3 (L O) (L O) (L O) ?_
    rw [exe_3 hini hv c3];rfl
   ·try simp only [sx] at c3
    have hslt:=c3
    rw [if_pos hslt]
    refine zJ<|zK<|Y O<|zD O zAb<|zI zCl (J 3 O) O<|qC O el22<|G O<|zA<|zT<|zY ⟨[(53,.c _),(3,.c _),(4,.c _),(11,.c _),(13,.c _),(14,.c _),(51,.c _),(52,.c _)],[_,_,_]⟩ (Weak.mk [true,true,false,true] ⟨zC,zC,zC,zC,zC,zC,zC,zC,T⟩ O)<|qG 1 2 O O (Nat×Mc) (fun ⟨k,t⟩=>[(53,vI k)]) (fun ⟨k,t⟩=>[E.row b_1 101 (mcC sv_1 t),E.vec sv_1 59 2 (t.M.map Vl.cells)]) (fun ⟨k,t⟩=>k<=n.Bufs.length/\(t=fM u.slots ins (dJ u.code u.tys u.words) (n.Bufs.take k))/\(t.Ok u.words)) (fun ⟨k,t⟩=>n.Bufs.length-k) ⟨⟨0,(dJ u.code u.tys u.words)⟩,⟨by omega,O,zHu hv⟩,Weak.mk [true,true,true] ⟨zC,zC,zC,zC,zC,zC,zC,zC,T⟩ O⟩ ?_
    rintro ⟨k,t⟩ ⟨hk,hp1,hp2⟩
    show AWP _ _ _ _ _ ⟨[(53,vI k)]++_,[E.row b_1 101 (mcC sv_1 t),E.vec sv_1 59 2 (t.M.map Vl.cells)]++_⟩
    refine Y O<|yF O<|zA<|zK<|zE O (fun c4=>?_) (fun c4=>?_)
    ·try simp only [sx] at c4
     obtain ⟨q,hq⟩:=yC n.Bufs k (by omega)
     refine zJ<|zK<|zT<|Y O<|G O<|qI O el22 (by omega) (D (by assumption))<|zL zIv qD O<|zW O O (qT [none,none,none,none,none,none,some 1,none] O zr46 O) ?_
     rintro _ _ ⟨b3,rfl,rfl⟩
     refine G O<|rStR 0 sz46 O<|zA<|Y O<|zD O zIk<|zI one3 (J 0 O) O<|qQ O<|zA<|zE O (fun c5=>?_) (fun c5=>?_)
     ·try simp only [sx] at c5
      refine qV 12 mixed (by kernel_rfl) O O<|zN O O (zO O O)<|zN O O (zO O O)<|zN O O (zO O O)<|zN O O (qH O el28 O O (by omega) (D (slt_ix hq)))<|zN O O (qU O fd49_1 O)<|zN O O (zH O one3 O qD O)<|zN O O (zO O O)<|zN O O (zO O O)<|zN O O (qH O el31 O O (by omega) (D (ini_ix hq)))<|zN O O (qU O zPp O)<|zN O O (qU O zFz O)<|zN O O (zH O zCq O qD O)<|yK<|zX O (kX [1,1] O ok18 (vm_Store b_1 sv_1 t u.words hp2 (fP u.slots q.Name).At (mF ins q).T.Vals (by have h1:=iniV_len (zQv hL q (qL hq));have h2:=zEk q.Dims;omega)) ⟨zC,O,zC,O,zC,O,T⟩ O)<|zA<|zQ O<|qF O ⟨by omega,by omega⟩<|G O<|zA ?_
      exact v22
     ·try simp only [sx] at c5
      refine zJ<|zQ O<|qF O ⟨by omega,by omega⟩<|G O<|zA ?_
      exact v22
    ·try simp only [sx] at c4
     rw [yP (l:=n.Bufs) (k:=k) (by omega)] at hp1
     subst hp1
     have hO:=hp2
     have hR:=runX_ok hp2 f
     refine qM<|Y O<|G O<|G O<|zX O (kX [0,0] O ok13 (vm_Run b_1 sv_1 (fM u.slots ins (dJ u.code u.tys u.words) n.Bufs) u.words hO f) ⟨zC,O,zC,O,T⟩ O)<|qW O<|qY O<|qY O<|G O<|G O<|zA<|zK<|Y O<|G O<|yQ O<|zA<|zE O (fun c6=>?_) (fun c6=>?_)
     ·try simp only [sx] at c6
      refine Y O<|G O<|yN 8 O<|G O<|G O<|zA<|zG<|fin3 (L O) (L O) (L O) ?_
      rw [exe_4 hini hv hslt c6];rfl
     ·try simp only [sx] at c6
      refine zJ<|Y O<|G O<|yZ _ (wH 54 8)<|zA<|zK<|Y O<|zD O zAb<|zI zCl (J 3 O) O<|qC O el22<|G O<|zA<|zT<|zY ⟨[(87,.c _),(18,.c _),(13,.c _),(14,.c _),(17,.c _),(85,.c _),(86,.c _)],[_,_,_]⟩ (Weak.mk [true,true,true,false] ⟨zC,zC,zC,zC,zC,zC,zC,T⟩ O)<|qG 2 1 O O (Nat×Value) (fun ⟨k,sw⟩=>[(87,vI k),(18,.c (.lit sw))]) (fun ⟨k,sw⟩=>[E.vec sw 54 8 (((n.Bufs.take k).flatMap (pH (dN (fM u.slots ins (dJ u.code u.tys u.words) n.Bufs) f).1 u.slots)).map Nmd.cells)]) (fun ⟨k,sw⟩=>k<=n.Bufs.length/\((n.Bufs.take k).any (pG (dN (fM u.slots ins (dJ u.code u.tys u.words) n.Bufs) f).1 u.slots)=false)) (fun ⟨k,sw⟩=>n.Bufs.length-k) ⟨⟨0,(.slice none 0 0)⟩,⟨by omega,O⟩,Weak.mk [true,true,true] ⟨zC,zC,zC,zC,zC,zC,zC,T⟩ O⟩ ?_
      rintro ⟨k,sw⟩ ⟨hk,hp⟩
      show AWP _ _ _ _ _ ⟨[(87,vI k),(18,.c (.lit sw))]++_,[E.vec sw 54 8 (((n.Bufs.take k).flatMap (pH (dN (fM u.slots ins (dJ u.code u.tys u.words) n.Bufs) f).1 u.slots)).map Nmd.cells)]++_⟩
      refine Y O<|yF O<|zA<|zK<|zE O (fun c7=>?_) (fun c7=>?_)
      ·try simp only [sx] at c7
       obtain ⟨q,hq⟩:=yC n.Bufs k (by omega)
       have hol:=out_len (s:=(dN (fM u.slots ins (dJ u.code u.tys u.words) n.Bufs) f).1) (S:=u.slots) (n.Bufs.take k)
       rw [List.length_take] at hol
       refine zJ<|zK<|zT<|Y O<|G O<|qI O el22 (by omega) (D (by assumption))<|zL zIv qD O<|zW O O (qT [none,none,none,none,none,none,some 1,none] O zr46 O) ?_
       rintro _ _ ⟨b5,rfl,rfl⟩
       refine G O<|rStR 0 sz46 O<|zA<|zK<|Y O<|zD O zIk<|zI one3 (J 0 O) O<|yQ O<|zA<|zE O (fun c8=>?_) (fun c8=>?_)
       ·try simp only [sx] at c8
        refine qM<|zQ O<|qF O ⟨by omega,by omega⟩<|G O<|zA ?_
        refine ⟨⟨k+1,_⟩,⟨by omega,zAj hq hp (by first|exact outR_n c8|exact outR_f c9)⟩,(by show n.Bufs.length-(k+1)<n.Bufs.length-k;omega),Weak.mk [false,true,true,true] ⟨zC,zC,zC,zC,zC,zC,zC,T⟩ (by exact zBg (by rw [zQp hq,List.map_append];first|(rw [zOd c8,List.map_nil,List.append_nil])|(rw [zKh c8];rfl)))⟩
       ·try simp only [sx] at c8
        refine zJ<|zK<|kG 16 0 [⟨0,.q []⟩,⟨1,.q []⟩,⟨2,.q []⟩,⟨3,.q []⟩,⟨4,.q []⟩,⟨5,.q []⟩,⟨6,.q []⟩,⟨7,.q []⟩,⟨8,.q []⟩,⟨9,.q []⟩,⟨10,.q []⟩,⟨11,.q [2,3]⟩,⟨12,.q []⟩,⟨13,.q []⟩,⟨14,.q []⟩,⟨15,.q []⟩] mixed (by kernel_rfl) (by kernel_rfl) O O O<|zU O<|zU O<|zU O<|zU O<|zU O<|zU O<|zU O<|zU O<|zU O<|zU O<|zU O<|zU O<|zU O<|zU O<|zU O<|zU O<|zAz<|qA O (by decide) O O (zO O O)<|qA O (by decide) O O (zO O O)<|qA O (by decide) O O (zO O O)<|qA O (by decide) O O (qH O el28 O O (by omega) (D (slt_ix hq)))<|qA O (by decide) O O (qU O fd49_1 O)<|qA O (by decide) O O (zH O one3 O qD O)<|qA O (by decide) O O (zO O O)<|qA O (by decide) O O (zO O O)<|qA O (by decide) O O (qH O el28 O O (by omega) (D (slt_ix hq)))<|qA O (by decide) O O (qU O fd49_2 O)<|qA O (by decide) O O (zH O one3 O qD O)<|qA O (by decide) O O (yG [0,0] O ok19 (vm_Load b_1 sv_1 (dN (fM u.slots ins (dJ u.code u.tys u.words) n.Bufs) f).1 u.words hR (fP u.slots q.Name).At (fP u.slots q.Name).Len) ⟨zC,O,zC,O,zC,O,T⟩ O)<|qA O (by decide) O O (kW O O)<|qA O (by decide) O O (wO O O O)<|qA O (by decide) O O (wO O O O)<|qA O (by decide) O O (yE O O)<|zAy O<|G O<|zA<|zK<|Y O<|G O<|yZ _ (kM 0 O 20 _ PLe.ptr)<|zX O (zGd O O O O O)<|zZ O ok20 (upO (zIr (pF (dN (fM u.slots ins (dJ u.code u.tys u.words) n.Bufs) f).1 u.slots q) _ (fun v=> !(bD q.T&&bC q.T v)) (by have h1:=outV_len hR u.slots q;omega) (fun v _=>FnPur.of_pur (first:=[]) (cap:=[.iptr q.cells]) ok21 (vm_Execute_1 v q)))) ⟨zC,O,zC,O,T⟩<|zA<|zE O (fun c9=>?_) (fun c9=>?_)
        ·try simp only [sx] at c9
         have hO2:pG (dN (fM u.slots ins (dJ u.code u.tys u.words) n.Bufs) f).1 u.slots q=true:=outR_t c8 c9
         refine Y O<|yN 8 O<|G O<|G O<|zA<|zG<|fin3 (L O) (L O) (L O) ?_
         rw [exe_5 hini hv hslt c6 hq hO2];rfl
        ·try simp only [sx] at c9
         refine zJ<|qV 12 mixed (by kernel_rfl) O O<|zN O O (zO O O)<|zN O O (qU O zCc O)<|zN O O (zH O one9 O qD O)<|zN O O (qU O zDn O)<|zN O O (zV O qX O qD O)<|zN O O (qU O zCu O)<|zN O O (zH O zBt O qD O)<|zN O O (qE O ok23 (OwnR.pur (upO (zCx q.Dims (hn.dims q (qL hq))))) ⟨zC,O,T⟩)<|zN O O (zO O O)<|zN O O (zBp O zr52 pl52 O)<|zN O O (zBp O zr54 pl54 O)<|zN O O (yS O el31 zr54 O O O O)<|yK<|zW O O (yX 0 O el31 O O O (by simp only [List.length_map,List.length_append,List.length_cons,List.length_nil,List.length_take,List.length_drop];omega) (by simp only [List.length_map,List.length_append,List.length_cons,List.length_nil,List.length_take,List.length_drop];omega)) ?_
         rintro _ _ ⟨sv6,rfl,rfl⟩
         refine G O<|zA<|zQ O<|qF O ⟨by omega,by omega⟩<|G O<|zA ?_
         refine ⟨⟨k+1,sv6⟩,⟨by omega,zAj hq hp (by first|exact outR_n c8|exact outR_f c9)⟩,(by show n.Bufs.length-(k+1)<n.Bufs.length-k;omega),Weak.mk [true,true,true] ⟨zC,zC,zC,zC,zC,zC,zC,T⟩ (by exact zBg (by rw [zQp hq,List.map_append];first|(rw [zOd c8,List.map_nil,List.append_nil])|(rw [zKh c8];rfl)))⟩
      ·try simp only [sx] at c7
       refine qM<|zK<|zY _ (kS 0 O (regs':=[(18,_)]) (μ':=[_,_]) ⟨FLe.sl,T⟩ ⟨EFle.refl _,EFle.refl _,T⟩)<|zQ O<|G O<|G O<|G O<|G O<|G O<|zA<|zG<|fin3 (L O) (L O) (L O) ?_
       rw [yP (l:=n.Bufs) (k:=k) (by omega),exe_0 hini hv hslt c6 (any_fin hp (by omega))]
theorem vm_Execute (n:Ns) (hn:n.Ok) (hw:bX n.Body<=900000) (u:Un0) (hT:u.tys.length<=1000000) (hS:u.slots.length<=140737488355328) (ins:List Nmd) (hm:ins.length<=140737488355328) (hF:∀x,x∈ins->x.T.Dims.length<=17592186044416/\x.T.Vals.length<=1048576) (f:Int)  :Pur cfgO 8 [vNs n,vU0 u,jJ ins,vI f] (.tup [jJ (gG n u ins f).1,vI (gG n u ins f).2.1,vI (gG n u ins f).2.2]):=by
  by_cases hv:(vld u.code u.tys u.words).2=0
  · exact vm_Execute_ok n hn hw u hT hS ins hm hF f hv
  · exact vm_Execute_bad n hn hw u hT hS ins hm hF f hv
theorem zOa (n:Ns) (hn:n.Ok) (hw:bX n.Body<=900000) (u:Un0) (hT:u.tys.length<=1000000) (hS:u.slots.length<=140737488355328) (ins:List Nmd) (hm:ins.length<=140737488355328) (hF:∀x,x∈ins->x.T.Dims.length<=17592186044416/\x.T.Vals.length<=1048576) (f:Int) (hv:¬(vld u.code u.tys u.words).2=0):
    Pur cfgO 9 [vNs n,sV u.code,sU u.tys,pM u.slots,vI u.words,jJ ins,vI f] (.tup [jJ (gG n u ins f).1,vI (gG n u ins f).2.1,vI (gG n u ins f).2.2]):=by
 refine zR Tryz.func9 O Tryz.ntmps9 Tryz.results9 O ?_
 intro z hz
 refine Y O<|zW O O (qB O O) ?_
 rintro _ _ ⟨b1,rfl,rfl⟩
 refine yN 8 O<|G O<|G O<|zA<|Y O<|zL zBv (J 0 O) O<|G O<|zZ O ok24 (upO (zIh n hn hw ins hm hF)) ⟨zC,O,zC,O,T⟩<|qW O<|qY O<|qY O<|G O<|G O<|zA<|zK<|Y O<|G O<|yQ O<|zA<|zE O (fun c1=>?_) (fun c1=>?_)
 ·exact j8
 ·try simp only [sx] at c1
  have hini:=c1
  have hN:=newr2 hv
  refine zJ<|Y O<|G O<|G O<|G O<|zZ O ok25 (ref49_New u.code u.tys u.words hT) ⟨zC,O,zC,O,zC,O,T⟩<|qW O<|yD O<|qY O<|zW O O (qT [some 11,some 5,none,some 1,some 2,some 2,none] O zr79 O) ?_
  rintro _ _ ⟨b2,rfl,rfl⟩
  refine rStR 0 r O<|G O<|zA<|zK<|Y O<|G O<|yQ O<|zA<|zE O (fun c2=>?_) (fun c2=>?_)
  ·refine Y O<|G O<|yN 8 O<|G O<|G O<|zA<|zG<|fin3 (L O) (L O) (L O) ?_
   rw [exe_2 hini hv,hN];rfl
  ·try simp only [sx] at c2
   exact absurd c2 (by rw [hN];exact hv)
theorem zQa (n:Ns) (hn:n.Ok) (hw:bX n.Body<=900000) (u:Un0) (hT:u.tys.length<=1000000) (hS:u.slots.length<=140737488355328) (ins:List Nmd) (hm:ins.length<=140737488355328) (hF:∀x,x∈ins->x.T.Dims.length<=17592186044416/\x.T.Vals.length<=1048576) (f:Int) (hv:(vld u.code u.tys u.words).2=0):
    Pur cfgO 9 [vNs n,sV u.code,sU u.tys,pM u.slots,vI u.words,jJ ins,vI f] (.tup [jJ (gG n u ins f).1,vI (gG n u ins f).2.1,vI (gG n u ins f).2.2]):=by
 refine zR Tryz.func9 O Tryz.ntmps9 Tryz.results9 O ?_
 intro z hz
 have hnb:=hn.bufs
 refine Y O<|zW O O (qB O O) ?_
 rintro _ _ ⟨b1,rfl,rfl⟩
 refine G O<|G O<|G O<|zA<|Y O<|zL zBv (J 0 O) O<|G O<|zZ O ok24 (upO (zIh n hn hw ins hm hF)) ⟨zC,O,zC,O,T⟩<|qW O<|qY O<|qY O<|G O<|G O<|zA<|zK<|Y O<|G O<|yQ O<|zA<|zE O (fun c1=>?_) (fun c1=>?_)
 ·exact j8
 ·try simp only [sx] at c1
  have hini:=c1
  obtain ⟨hI1,hL,hval⟩:=init_is c1
  rw [hI1]
  refine zJ<|Y O<|G O<|G O<|G O<|zZ O ok25 (refNew_ok u hT hv) ⟨zC,O,zC,O,zC,O,T⟩<|qW O<|yD O<|qY O<|zW O O (qT [some 11,some 5,none,some 1,some 2,some 2,none] O zr79 O) ?_
  rintro _ _ ⟨b2,rfl,rfl⟩
  refine rStR 0 r O<|G O<|zA<|zK<|Y O<|G O<|yQ O<|zA<|zE O (fun c2=>?_) (fun c2=>?_)
  ·try simp only [sx] at c2
   exact absurd c2 (by simp)
  ·try simp only [sx] at c2
   refine zJ<|zK<|Y O<|zL yY (J 0 O) O<|zL zBv (J 1 O) O<|G O<|G O<|zZ O ok26 (ref49_placed (dJ u.code u.tys u.words) u.words (zHu hv) n hn ins hL u.slots hS) ⟨zC,O,zC,O,zC,O,zC,O,T⟩<|G O<|zA<|Y O<|G O<|yQ O<|zA<|zE O (fun c3=>?_) (fun c3=>?_)
   ·try simp only [sx] at c3
    refine Y O<|G O<|yN 8 O<|G O<|G O<|zA<|zG<|fin3 (L O) (L O) (L O) ?_
    rw [exe_3 hini hv c3];rfl
   ·try simp only [sx] at c3
    have hslt:=c3
    refine zJ<|zK<|Y O<|G O<|zA<|zT<|zY ⟨[(22,.c _),(3,.c _),(5,.c _),(6,.c _),(7,.c _),(19,.c _)],[_,_]⟩ (Weak.mk [true,true] ⟨zC,zC,zC,zC,zC,zC,T⟩ O)<|qG 1 1 O O (Nat×Mc) (fun ⟨k,t⟩=>[(22,vI k)]) (fun ⟨k,t⟩=>[E.row b2 79 [.sl 11 (t.code.map In.cells),.sl 5 (t.tys.map Ty.cells),cI t.pc,.sl 1 (t.X.map fun n=>[cI n]),.sl 2 (t.R.map Vl.cells),.sl 2 (t.M.map Vl.cells),.lit (.bool t.hl)]]) (fun ⟨k,t⟩=>k<=n.Bufs.length/\(t=fM u.slots ins (dJ u.code u.tys u.words) (n.Bufs.take k))/\(t.Ok u.words)) (fun ⟨k,t⟩=>n.Bufs.length-k) ⟨⟨0,(dJ u.code u.tys u.words)⟩,⟨by omega,O,zHu hv⟩,Weak.mk [true,true] ⟨zC,zC,zC,zC,zC,zC,T⟩ O⟩ ?_
    rintro ⟨k,t⟩ ⟨hk,hp1,hp2⟩
    show AWP _ _ _ _ _ ⟨[(22,vI k)]++_,[E.row b2 79 [.sl 11 (t.code.map In.cells),.sl 5 (t.tys.map Ty.cells),cI t.pc,.sl 1 (t.X.map fun n=>[cI n]),.sl 2 (t.R.map Vl.cells),.sl 2 (t.M.map Vl.cells),.lit (.bool t.hl)]]++_⟩
    refine zK<|Y O<|G O<|zD O zAb<|zI zCl (J 1 O) O<|qC O el22<|yF O<|zA<|zE O (fun c4=>?_) (fun c4=>?_)
    ·try simp only [sx] at c4
     obtain ⟨q,hq⟩:=yC n.Bufs k (by omega)
     refine zJ<|zK<|zT<|Y O<|G O<|zD O zAb<|zI zCl (J 1 O) O<|G O<|qI O el22 (by omega) (D (by assumption))<|yB O zCc<|zI one9 qD O<|zZ O ok27 (upO (zNz u.slots q.Name hS)) ⟨zC,O,zC,O,T⟩<|qW O<|yD O<|qY O<|zW O O (qS O zr49) ?_
     rintro _ _ ⟨b3,rfl,rfl⟩
     refine rStR 0 sz49 O<|G O<|zA<|Y O<|zD O zAb<|zI zCl (J 2 O) O<|G O<|qI O el22 (by omega) (D (by assumption))<|yB O zIk<|zI one3 qD O<|qQ O<|zA<|zE O (fun c5=>?_) (fun c5=>?_)
     ·try simp only [sx] at c5
      refine Y O<|G O<|zD O zAb<|zI zCl (J 2 O) O<|G O<|qI O el22 (by omega) (D (by assumption))<|yB O zCc<|zI one9 qD O<|zZ O ok28 (upO (zOb ins q.Name hm)) ⟨zC,O,zC,O,T⟩<|qW O<|yD O<|qY O<|zW O O (qT [none,none,none,none,none,some 1,some 2] O zr52 O) ?_
      rintro _ _ ⟨b4,rfl,rfl⟩
      refine rStR 0 sz52 O<|G O<|zA<|zQ O<|zL yY (J 2 O) O<|zD O fd49_1<|zI one3 (J 1 O) O<|zD O zFz<|zI zCq (J 0 O) O<|zZ O ok29 (show Pur cfgO 29 [vMc t,vI (fP u.slots q.Name).At,jM ((fJ ins q.Name).getD zTn).Vals] _ from zSl t (fP u.slots q.Name).At ((fJ ins q.Name).getD zTn).Vals (by have h1:=hp2.hM;have h2:=hp2.hw;omega) (by have h1:=iniV_len (zQv hL q (qL hq));have h2:=zEk q.Dims;rw [iniB_f c5] at h1;dsimp only at h1;omega)) ⟨zC,O,zC,O,zC,O,T⟩<|qW O<|yD O<|qY O<|rStR 2 r O<|zA<|zQ O<|G O<|qF O ⟨by omega,by omega⟩<|G O<|zA ?_
      refine ⟨⟨k+1,rQ u.slots ins t q⟩,⟨by omega,(by rw [zQk hq,←hp1]),zRy hp2 q⟩,(by show n.Bufs.length-(k+1)<n.Bufs.length-k;omega),Weak.mk [false,false,true,true] ⟨zC,zC,zC,zC,zC,zC,T⟩ (by first|(rw [zQl c5,iniB_f c5];rfl)|(rw [stoB_no c5];rfl))⟩
     ·try simp only [sx] at c5
      refine zJ<|zQ O<|G O<|qF O ⟨by omega,by omega⟩<|G O<|zA ?_
      refine ⟨⟨k+1,rQ u.slots ins t q⟩,⟨by omega,(by rw [zQk hq,←hp1]),zRy hp2 q⟩,(by show n.Bufs.length-(k+1)<n.Bufs.length-k;omega),Weak.mk [false,true,true] ⟨zC,zC,zC,zC,zC,zC,T⟩ (by first|(rw [zQl c5,iniB_f c5];rfl)|(rw [stoB_no c5];rfl))⟩
    ·try simp only [sx] at c4
     rw [yP (l:=n.Bufs) (k:=k) (by omega)] at hp1
     subst hp1
     have hO:=hp2
     have hR:=runX_ok hp2 f
     refine qM<|Y O<|zL yY (J 0 O) O<|G O<|zZ O ok30 (ref49_Run (fM u.slots ins (dJ u.code u.tys u.words) n.Bufs) f u.words hO) ⟨zC,O,zC,O,T⟩<|qW O<|yD O<|qY O<|qY O<|rStR 0 r O<|G O<|G O<|zA<|zK<|Y O<|G O<|yQ O<|zA<|zE O (fun c6=>?_) (fun c6=>?_)
     ·try simp only [sx] at c6
      refine Y O<|G O<|yN 8 O<|G O<|G O<|zA<|zG<|fin3 (L O) (L O) (L O) ?_
      rw [exe_4 hini hv hslt c6];rfl
     ·try simp only [sx] at c6
      refine zJ<|Y O<|G O<|yZ _ (wH 54 8)<|zA<|zK<|Y O<|G O<|zA<|zT<|zY ⟨[(30,.c _),(29,.c _),(3,.c _),(7,.c _),(19,.c _),(27,.c _)],[_,_,_]⟩ (Weak.mk [true,true,true] ⟨zC,zC,zC,zC,zC,zC,T⟩ O)<|qG 2 1 O O (Nat×Value) (fun ⟨k,sw⟩=>[(30,vI k),(29,.c (.lit sw))]) (fun ⟨k,sw⟩=>[E.vec sw 54 8 (((n.Bufs.take k).flatMap (pH (dN (fM u.slots ins (dJ u.code u.tys u.words) n.Bufs) f).1 u.slots)).map Nmd.cells)]) (fun ⟨k,sw⟩=>k<=n.Bufs.length/\((n.Bufs.take k).any (pG (dN (fM u.slots ins (dJ u.code u.tys u.words) n.Bufs) f).1 u.slots)=false)) (fun ⟨k,sw⟩=>n.Bufs.length-k) ⟨⟨0,(.slice none 0 0)⟩,⟨by omega,O⟩,Weak.mk [true,true,true] ⟨zC,zC,zC,zC,zC,zC,T⟩ O⟩ ?_
      rintro ⟨k,sw⟩ ⟨hk,hp⟩
      show AWP _ _ _ _ _ ⟨[(30,vI k),(29,.c (.lit sw))]++_,[E.vec sw 54 8 (((n.Bufs.take k).flatMap (pH (dN (fM u.slots ins (dJ u.code u.tys u.words) n.Bufs) f).1 u.slots)).map Nmd.cells)]++_⟩
      refine zK<|Y O<|G O<|zD O zAb<|zI zCl (J 2 O) O<|qC O el22<|yF O<|zA<|zE O (fun c7=>?_) (fun c7=>?_)
      ·try simp only [sx] at c7
       obtain ⟨q,hq⟩:=yC n.Bufs k (by omega)
       have hol:=out_len (s:=(dN (fM u.slots ins (dJ u.code u.tys u.words) n.Bufs) f).1) (S:=u.slots) (n.Bufs.take k)
       rw [List.length_take] at hol
       refine zJ<|zK<|zT<|Y O<|zD O zAb<|zI zCl (J 2 O) O<|G O<|qI O el22 (by omega) (D (by assumption))<|zL zIv qD O<|zW O O (qT [none,none,none,none,none,none,some 1,none] O zr46 O) ?_
       rintro _ _ ⟨b6,rfl,rfl⟩
       refine rStR 0 sz46 O<|zA<|zK<|Y O<|zD O zIk<|zI one3 (J 0 O) O<|yQ O<|zA<|zE O (fun c8=>?_) (fun c8=>?_)
       ·try simp only [sx] at c8
        refine qM<|zQ O<|G O<|qF O ⟨by omega,by omega⟩<|G O<|zA ?_
        refine ⟨⟨k+1,_⟩,⟨by omega,zAj hq hp (by first|exact outR_n c8|exact hO3)⟩,(by show n.Bufs.length-(k+1)<n.Bufs.length-k;omega),Weak.mk [false,true,true,true] ⟨zC,zC,zC,zC,zC,zC,T⟩ (by exact zBg (by rw [zQp hq,List.map_append];first|(rw [zOd c8,List.map_nil,List.append_nil])|(rw [zKh c8];rfl)))⟩
       ·try simp only [sx] at c8
        refine zJ<|Y O<|G O<|zD O zCc<|zI one9 (J 0 O) O<|zZ O ok27 (upO (zNz u.slots q.Name hS)) ⟨zC,O,zC,O,T⟩<|qW O<|yD O<|qY O<|zW O O (qS O zr49) ?_
        rintro _ _ ⟨b7,rfl,rfl⟩
        refine rStR 0 sz49 O<|G O<|zA<|Y O<|zL yY (J 3 O) O<|zD O fd49_1<|zI one3 (J 0 O) O<|zD O fd49_2<|zI one3 (J 0 O) O<|zZ O ok31 (show Pur cfgO 31 [vMc (dN (fM u.slots ins (dJ u.code u.tys u.words) n.Bufs) f).1,vI (fP u.slots q.Name).At,vI (fP u.slots q.Name).Len] (.tup [jM (pF (dN (fM u.slots ins (dJ u.code u.tys u.words) n.Bufs) f).1 u.slots q),vI (pI (dN (fM u.slots ins (dJ u.code u.tys u.words) n.Bufs) f).1 (fP u.slots q.Name).At (fP u.slots q.Name).Len).2]) from ref49_Load (dN (fM u.slots ins (dJ u.code u.tys u.words) n.Bufs) f).1 (fP u.slots q.Name).At (fP u.slots q.Name).Len (by have h1:=hR.hM;have h2:=hR.hw;omega)) ⟨zC,O,zC,O,zC,O,T⟩<|qW O<|qY O<|qY O<|G O<|G O<|zA<|zK<|Y O<|G O<|zA<|zT<|zY ⟨[(36,.c _),(3,.c _),(7,.c _),(19,.c _),(27,.c _),(29,.c _),(30,.c _),(31,.c _),(34,.c _)],[_,_,_,_]⟩ (Weak.mk [false,true,true,true,true] ⟨zC,zC,zC,zC,zC,zC,zC,zC,zC,T⟩ O)<|qG 1 0 O O (Nat) (fun j=>[(36,vI j)]) (fun j=>[]) (fun j=>j<=(pF (dN (fM u.slots ins (dJ u.code u.tys u.words) n.Bufs) f).1 u.slots q).length/\(((pF (dN (fM u.slots ins (dJ u.code u.tys u.words) n.Bufs) f).1 u.slots q).take j).any (fun v=> !(bD q.T&&bC q.T v))=false)) (fun j=>(pF (dN (fM u.slots ins (dJ u.code u.tys u.words) n.Bufs) f).1 u.slots q).length-j) ⟨0,⟨by omega,O⟩,Weak.mk [true,true,true,true] ⟨zC,zC,zC,zC,zC,zC,zC,zC,zC,T⟩ O⟩ ?_
        rintro j ⟨hk,hy⟩
        have hlen:=outV_len hR u.slots q
        refine zK<|Y O<|G O<|G O<|qC O el50<|yF O<|zA<|zE O (fun c9=>?_) (fun c9=>?_)
        ·try simp only [sx] at c9
         obtain ⟨v,hv2⟩:=yC (pF (dN (fM u.slots ins (dJ u.code u.tys u.words) n.Bufs) f).1 u.slots q) j (by omega)
         refine zJ<|zK<|zT<|zK<|qV 8 mixed (by kernel_rfl) O O<|zN O O (zF O zDn O)<|zN O O (zV O qX O (J 0 O) O)<|zN O O (zO O O)<|zN O O (zO O O)<|zN O O (qH O el50 O O (by omega) (D (by assumption)))<|zN O O (zV O qN O qD O)<|zN O O (qE O ok32 (zFm q.T v) ⟨zC,O,zC,O,T⟩)<|zN O O (kA O O)<|yK<|zA<|zE O (fun c10=>?_) (fun c10=>?_)
         ·have hO2:pG (dN (fM u.slots ins (dJ u.code u.tys u.words) n.Bufs) f).1 u.slots q=true:=outR_t c8 (List.any_eq_true.2 ⟨v,qL hv2,c10⟩)
          refine Y O<|yN 8 O<|G O<|G O<|zA<|zG<|fin3 (L O) (L O) (L O) ?_
          rw [exe_5 hini hv hslt c6 hq hO2];rfl
         ·refine zJ<|zQ O<|G O<|qF O ⟨by omega,by omega⟩<|G O<|zA ?_
          refine ⟨j+1,⟨by omega,zAj hv2 hy c10⟩,(by omega),Weak.mk [true,true,true,true] ⟨zC,zC,zC,zC,zC,zC,zC,zC,zC,T⟩ O⟩
        ·try simp only [sx] at c9
         have hO3:=outR_f (s:=(dN (fM u.slots ins (dJ u.code u.tys u.words) n.Bufs) f).1) (S:=u.slots) (any_fin hy (by omega))
         refine qM<|zQ O<|G O<|zD O zCc<|zI one9 (J 0 O) O<|zD O zDn<|zL qX (J 0 O) O<|zD O zCu<|zI zBt (J 0 O) O<|G O<|qR O zr52 pl52<|qR O zr54 pl54<|zX O (yS O el31 zr54 O O O O)<|zW O O (yX 1 O el31 O O O (by simp only [List.length_map,List.length_append,List.length_cons,List.length_nil,List.length_take,List.length_drop];omega) (by simp only [List.length_map,List.length_append,List.length_cons,List.length_nil,List.length_take,List.length_drop];omega)) ?_
         rintro _ _ ⟨sv8,rfl,rfl⟩
         refine G O<|zA<|zQ O<|G O<|qF O ⟨by omega,by omega⟩<|G O<|zA ?_
         refine ⟨⟨k+1,sv8⟩,⟨by omega,zAj hq hp (by first|exact outR_n c8|exact hO3)⟩,(by show n.Bufs.length-(k+1)<n.Bufs.length-k;omega),Weak.mk [false,true,true,true] ⟨zC,zC,zC,zC,zC,zC,T⟩ (by exact zBg (by rw [zQp hq,List.map_append];first|(rw [zOd c8,List.map_nil,List.append_nil])|(rw [zKh c8];rfl)))⟩
      ·try simp only [sx] at c7
       refine qM<|zK<|zY _ (kS 0 O (regs':=[(29,_)]) (μ':=[_,_]) ⟨FLe.sl,T⟩ ⟨EFle.refl _,EFle.refl _,T⟩)<|zQ O<|G O<|G O<|G O<|G O<|G O<|zA<|zG<|fin3 (L O) (L O) (L O) ?_
       rw [yP (l:=n.Bufs) (k:=k) (by omega),exe_0 hini hv hslt c6 (any_fin hp (by omega))]
theorem ref49_Execute (n:Ns) (hn:n.Ok) (hw:bX n.Body<=900000) (u:Un0) (hT:u.tys.length<=1000000) (hS:u.slots.length<=140737488355328) (ins:List Nmd) (hm:ins.length<=140737488355328) (hF:∀x,x∈ins->x.T.Dims.length<=17592186044416/\x.T.Vals.length<=1048576) (f:Int)  :Pur cfgO 9 [vNs n,sV u.code,sU u.tys,pM u.slots,vI u.words,jJ ins,vI f] (.tup [jJ (gG n u ins f).1,vI (gG n u ins f).2.1,vI (gG n u ins f).2.2]):=by
  by_cases hv:(vld u.code u.tys u.words).2=0
  · exact zQa n hn hw u hT hS ins hm hF f hv
  · exact zOa n hn hw u hT hS ins hm hF f hv
theorem base_Tensor (t:Tn) (hd:t.Dims.length<=17592186044416) (hv:t.Vals.length<=140737488355328):
    Pur cfgO 33 [vTn t,vTn t] (vB true):=by
 refine zR Tryz.func33 O Tryz.ntmps33 Tryz.results33 O ?_
 intro z hz
 refine Y O<|zW O O (qB O O) ?_
 rintro _ _ ⟨b1,rfl,rfl⟩
 refine zW O O (qB O O) ?_
 rintro _ _ ⟨b2,rfl,rfl⟩
 refine G O<|zA<|Y O<|zD O zMu<|zL qX (J 1 O) O<|zD O zMu<|zL qX (J 0 O) O<|zX O (zKp O fl43 O O O)<|G O<|rL0 O (fun g1_5=>zF O zLe O) O<|rL1 11 O (fun g1_5=>zH O zBt O (J 1 O) O) O<|rL0 O (fun g1_5=>zF O zLe O) O<|rL1 13 O (fun g1_5=>zH O zBt O (J 0 O) O) O<|rLz [(12,_),(14,_)] O gv1 ⟨O,O,O,O,T⟩ (fun g1_5=>qE O ok64 (upO (show Pur cfg 64 [vIs t.Dims,vIs t.Dims] (vB true) from by have e:=base_Ints t.Dims t.Dims hd;rw [decide_eq_true rfl] at e;exact e)) ⟨zC,O,zC,O,T⟩) O<|yO O (fun h=>h)<|G O<|rL0 O (fun g1_12=>zF O zFz O) O<|rL1 18 O (fun g1_12=>zH O zCq O (J 1 O) O) O<|rL0 O (fun g1_12=>zF O zFz O) O<|rL1 20 O (fun g1_12=>zH O zCq O (J 0 O) O) O<|rLz [(19,_),(21,_)] O gv1 ⟨O,O,O,O,T⟩ (fun g1_12=>qE O ok65 (base_Vals t.Vals hv) ⟨zC,O,zC,O,T⟩) O<|yO O (fun h=>h)<|G O<|zA<|zG<|zS O ?_
 have e:bF (List.take 5 t.cells) (List.take 5 t.cells)=true:=ty_eqv t.T
 exact congrArg vB (by simp [Lz,e])
theorem base_Nameds (l:List Nmd) (hl:l.length<=140737488355328) (hF:∀x,x∈l->x.T.Dims.length<=17592186044416/\x.T.Vals.length<=140737488355328):
    Pur cfgO 10 [jJ l,jJ l] (vB true):=by
 refine zR Tryz.func10 O Tryz.ntmps10 Tryz.results10 O ?_
 intro z hz
 refine Y O<|G O<|zA<|zK<|Y O<|G O<|qC O el31<|G O<|qC O el31<|yQ O<|zA<|zE O (fun c1=>?_) (fun c1=>?_)
 ·try simp only [sx] at c1
  exact (c1 T).elim
 ·try simp only [sx] at c1
  refine zJ<|zK<|Y O<|G O<|zA<|zT<|zY ⟨[(5,.c _),(0,.c _),(1,.c _)],[]⟩ (Weak.mk [] ⟨zC,zC,zC,T⟩ O)<|qG 1 0 O O (Nat) (fun k=>[(5,vI k)]) (fun k=>[]) (fun k=>k<=l.length) (fun k=>l.length-k) ⟨0,(by omega),Weak.mk [] ⟨zC,zC,zC,T⟩ O⟩ ?_
  rintro k hk
  refine zK<|Y O<|G O<|G O<|qC O el31<|yF O<|zA<|zE O (fun c2=>?_) (fun c2=>?_)
  ·try simp only [sx] at c2
   obtain ⟨x,hx⟩:=yC l k (by omega)
   refine zJ<|zK<|zT<|zK<|qV 25 mixed (by kernel_rfl) O O<|zN O O (zO O O)<|zN O O (zO O O)<|zN O O (qH O el31 O O (by omega) (D (by assumption)))<|zN O O (qU O fd54_0 O)<|zN O O (zH O one9 O qD O)<|zN O O (zO O O)<|zN O O (zO O O)<|zN O O (qH O el31 O O (by omega) (D hx))<|zN O O (qU O fd54_0 O)<|zN O O (zH O one9 O qD O)<|zN O O (zEe O O O)<|zN O O (zO O O)<|qO [] O O O O gv1 T (fun g6_11=>zO O O) O<|qO [] O O O O gv1 T (fun g6_11=>zO O O) O<|qO [(29,_),(30,_)] O O O O gv1 ⟨O,O,O,O,T⟩ (fun g6_11=>qH O el31 O O (by omega) (D (by assumption))) O<|qO [(31,_)] O O O O gv1 ⟨O,O,T⟩ (fun g6_11=>qU O zPp O) O<|qO [(32,_)] O O O O gv1 ⟨O,O,T⟩ (fun g6_11=>zV O zGo O qD O) O<|qO [] O O O O gv1 T (fun g6_11=>zO O O) O<|qO [] O O O O gv1 T (fun g6_11=>zO O O) O<|qO [(34,_),(35,_)] O O O O gv1 ⟨O,O,O,O,T⟩ (fun g6_11=>qH O el31 O O (by omega) (D hx)) O<|qO [(36,_)] O O O O gv1 ⟨O,O,T⟩ (fun g6_11=>qU O zPp O) O<|qO [(37,_)] O O O O gv1 ⟨O,O,T⟩ (fun g6_11=>zV O zGo O qD O) O<|qO [(33,_),(38,_)] O O O O gv1 ⟨O,O,O,O,T⟩ (fun g6_11=>qE O ok33 (base_Tensor x.T (hF x (qL hx)).1 (hF x (qL hx)).2) ⟨zC,O,zC,O,T⟩) O<|qO [(39,_)] O O O O gv1 ⟨O,O,T⟩ (fun g6_11=>kA O O) O<|zN O O (zAl O O O O (fun h=>(lzf h)))<|yK<|zA<|zE O (fun c3=>?_) (fun c3=>?_)
   ·exact absurd c3 (by simp [Lz])
   ·refine zJ<|zQ O<|G O<|qF O ⟨by omega,by omega⟩<|G O<|zA ?_
    refine ⟨k+1,(by omega),(by omega),Weak.mk [] ⟨zC,zC,zC,T⟩ O⟩
  ·refine qM<|Y O<|G O<|zA<|zG<|zS O ?_
   rfl
theorem zQc (n:Ns) (hf:n.Fit) (u:Un0) (hu:u.Fit) (ins:List Nmd) (hi:ins.length<=140737488355328):
    Pur cfgO 3 [vNs n,vU0 u,jJ ins] (vB true):=by
 refine zR Tryz.func3 O Tryz.ntmps3 Tryz.results3 O ?_
 intro z hz
 refine Y O<|zW O O (qB O O) ?_
 rintro _ _ ⟨b1,rfl,rfl⟩
 refine zW O O (qB O O) ?_
 rintro _ _ ⟨b2,rfl,rfl⟩
 refine G O<|zA<|zK<|Y O<|zL zBv (J 1 O) O<|zZ O ok4 (upO (law31_Light n hf)) ⟨zC,O,T⟩<|yT O<|G O<|rL0 O (fun g1_3=>zV O agg30 O (J 0 O) O) O<|rL1 17 O (fun g1_3=>qE O ok5 (law49_Few u hu) ⟨zC,O,T⟩) O<|rL1 18 O (fun g1_3=>kA O O) O<|r_or O (fun h=>(lzf h))<|G O<|rL0 O (fun g1_8=>zO O O) O<|rL1 22 O (fun g1_8=>qE O ok6 (upO (law31_Few ins hi)) ⟨zC,O,T⟩) O<|rL1 23 O (fun g1_8=>kA O O) O<|r_or O (fun h=>(lzf h))<|zA<|zE O (fun c1=>?_) (fun c1=>?_)
 ·refine Y O<|zZ O ok7 law49_live T<|G O<|zA<|zG<|zS O ?_
  rfl
 ·obtain ⟨⟨k1,k2⟩,k3⟩:(tA n=true/\u.few=true)/\pN ins=true:=by simpa [Lz] using c1
  obtain ⟨g1,g2⟩:=lgt_parts k1
  have hT:=few_tys k2
  obtain ⟨g3,g4⟩:=fewNm_parts k3
  have hok:=Ns.Fit.ok hf (m:=200) (by omega) (by omega) g2
  have hw:=zRn g2
  have hS:=hu.hs
  have hF:∀x,x∈ins->x.T.Dims.length<=17592186044416/\x.T.Vals.length<=1048576:=fun x hx=>by have:=g4 x hx;omega
  refine zJ<|Y O<|zL zBv (J 1 O) O<|zL agg30 (J 0 O) O<|G O<|zZ O ok8 (vm_Execute n hok (by omega) u hT hS ins (by omega) hF 1000) ⟨zC,O,zC,O,zC,O,zC,O,T⟩<|qW O<|qY O<|qY O<|qY O<|G O<|G O<|G O<|zA<|Y O<|zL zBv (J 1 O) O<|zD O fd30_0<|zI one26 (J 0 O) O<|zD O fd30_1<|zI one27 (J 0 O) O<|zD O fd30_2<|zI one28 (J 0 O) O<|zD O fd30_3<|zI one3 (J 0 O) O<|G O<|zZ O ok9 (ref49_Execute n hok (by omega) u hT hS ins (by omega) hF 1000) ⟨zC,O,zC,O,zC,O,zC,O,zC,O,zC,O,zC,O,T⟩<|qW O<|qY O<|qY O<|qY O<|G O<|G O<|G O<|zA<|Y O<|G O<|G O<|zZ O ok10 (base_Nameds (gG n u ins 1000).1 (exe_out hok).1 (exe_out hok).2) ⟨zC,O,zC,O,T⟩<|G O<|rL0 O (fun g5_3=>zO O O) O<|rL0 O (fun g5_3=>zO O O) O<|rLz [(54,_),(55,_)] O gv1 ⟨O,O,O,O,T⟩ (fun g5_3=>yM O O O) O<|yO O (fun h=>h)<|G O<|rL0 O (fun g5_8=>zO O O) O<|rL0 O (fun g5_8=>zO O O) O<|rLz [(59,_),(60,_)] O gv1 ⟨O,O,O,O,T⟩ (fun g5_8=>yM O O O) O<|yO O (fun h=>h)<|G O<|rL0 O (fun g5_13=>qE O ok7 law49_live T) O<|yO O (fun h=>h)<|G O<|zA<|zG<|zS O ?_
  exact congrArg vB (by simp [Lz])
end Go.W
end
