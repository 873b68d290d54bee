/-
  What functions compute.
  Conditions: none.
-/
import Derived.Test.YtgfomfnjionbeaaGreatDoorNA
set_option linter.unusedSimpArgs false
set_option linter.unusedVariables false
set_option maxRecDepth 10000
namespace Go.W
open Go Go.Eng Go.Proofs Go.L41 Go.Br
attribute [local irreducible] AWP RWP TD fQ
abbrev ckN (b:Nat) (svL svS svP:Value) (n:Ns) (U S:List ByteArray) (W:List Int):List E:=
  [.row b 172 [.sl 8 (n.Bufs.map Bf.cells),.sl 20 (n.Body.map St.cells),.lit svL,.lit svS,.lit svP],.vec svL 9 1 (U.map fun s=>[cS s]),.vec svS 9 1 (S.map fun s=>[cS s]),.vec svP 3 1 (W.map fun i=>[cI i])]
abbrev vP (b:Nat):V:=.c (.lit (.pointer (some ⟨b,0,none⟩)))
theorem zBm:mJ Tryz.prog 41=some 2:=by kernel_rfl
theorem zLr:mJ Tryz.prog 64=some 20:=by kernel_rfl
theorem zBt:bD Tryz.prog 41 1=some (1,33):=by kernel_rfl
theorem zDh:bD Tryz.prog 64 0=some (0,3):=by kernel_rfl
theorem zDg:bD Tryz.prog 64 1=some (1,9):=by kernel_rfl
theorem zQa:bD Tryz.prog 64 2=some (2,3):=by kernel_rfl
theorem fd64_3:bD Tryz.prog 64 3=some (3,3):=by kernel_rfl
theorem zPz:bD Tryz.prog 64 4=some (4,3):=by kernel_rfl
theorem zPy:bD Tryz.prog 64 5=some (5,52):=by kernel_rfl
theorem zEn:bD Tryz.prog 64 6=some (6,62):=by kernel_rfl
theorem zOx:bD Tryz.prog 172 0=some (0,41):=by kernel_rfl
theorem fd172_1:bD Tryz.prog 172 1=some (2,25):=by kernel_rfl
theorem zJp:bD Tryz.prog 172 2=some (3,25):=by kernel_rfl
theorem zHo:bD Tryz.prog 172 3=some (4,46):=by kernel_rfl
theorem ok105:bA Tryz.prog 105=true:=by kernel_rfl
theorem ok106:bA Tryz.prog 106=true:=by kernel_rfl
theorem ok169:bA Tryz.prog 169=true:=by kernel_rfl
theorem ok208:bA Tryz.prog 208=true:=by kernel_rfl
theorem ok209:bA Tryz.prog 209=true:=by kernel_rfl
theorem ok210:bA Tryz.prog 210=true:=by kernel_rfl
theorem ok211:bA Tryz.prog 211=true:=by kernel_rfl
theorem ok246:bA Tryz.prog 246=true:=by kernel_rfl
theorem ok247:bA Tryz.prog 247=true:=by kernel_rfl
theorem ok248:bA Tryz.prog 248=true:=by kernel_rfl
theorem ok249:bA Tryz.prog 249=true:=by kernel_rfl
theorem ok278:bA Tryz.prog 278=true:=by kernel_rfl
theorem ok279:bA Tryz.prog 279=true:=by kernel_rfl
theorem ok280:bA Tryz.prog 280=true:=by kernel_rfl
theorem ok281:bA Tryz.prog 281=true:=by kernel_rfl
theorem ok300:bA Tryz.prog 300=true:=by kernel_rfl
theorem ok301:bA Tryz.prog 301=true:=by kernel_rfl
theorem ok302:bA Tryz.prog 302=true:=by kernel_rfl
theorem zPq:gB Tryz.prog 170=true:=by kernel_rfl
theorem pl172:dL Tryz.prog 172=some [(0,2),(2,1),(3,1),(4,1)]:=by kernel_rfl
theorem sz25:(Tryz.prog.info? 25).map (·.size)=some 1:=by kernel_rfl
theorem sz64:(Tryz.prog.info? 64).map (·.size)=some 20:=by kernel_rfl
theorem zr64:dO Tryz.prog 64=some [(Value.int IntKind.i64 0),(Value.string (ByteArray.mk #[])),(Value.int IntKind.i64 0),(Value.int IntKind.i64 0),(Value.int IntKind.i64 0),(Value.slice none 0 0),(Value.int IntKind.i64 0),(Value.string (ByteArray.mk #[])),(Value.int IntKind.i64 0),(Value.int IntKind.i64 0),(Value.int IntKind.i64 0),(Value.int IntKind.i64 0),(Value.int IntKind.i64 0),(Value.int IntKind.i64 0),(Value.int IntKind.i64 0),(Value.int IntKind.i64 0),(Value.slice none 0 0),(Value.slice none 0 0),(Value.slice none 0 0),(Value.slice none 0 0)]:=by kernel_rfl
theorem zr172:dO Tryz.prog 172=some [(Value.slice none 0 0),(Value.slice none 0 0),(Value.slice none 0 0),(Value.slice none 0 0),(Value.slice none 0 0)]:=by kernel_rfl
theorem zIg (l:List Mono) (c:C) (p:Mono->Bool) (μ:List E) (hl:l.length<=4294967296) (hc:∀x,x∈l->FnCon cfg c [sH x] μ fun r μ'=>r=vB (p x)/\μ'=μ):
    Con cfg 315 [vO l,.c c] μ fun r μ'=>r=vI (dJ p l)/\μ'=μ:=by
 refine zV Tryz.func315 O Tryz.ntmps315 Tryz.results315 O ?_
 intro z hz
 refine Y O<|G O<|zA<|zH<|Y O<|G O<|qB O U<|G O<|zA<|zR<|zU ⟨[(8,.c _),(0,.c _),(1,.c _),(7,.c _)],_⟩ (Weak.regs ⟨zB,zB,zB,zB,T⟩)<|zFb 1 O (Nat) (fun k=>[(8,vI k)]) (fun k=>μ) (fun k=>k<=l.length/\((l.take k).any p=false)) (fun k=>l.length-k) ⟨0,⟨zC,O⟩,Weak.regs ⟨zB,zB,zB,zB,T⟩⟩ ?_
 rintro k ⟨hk,hp⟩
 refine Y O<|yA O<|zA<|zH<|zE O (fun c1=>?_) (fun c1=>?_)
 ·try simp only [sx] at c1
  obtain ⟨x,hx⟩:=qV l k zC
  refine zI<|zH<|zR<|Y O<|G O<|G O<|zA<|Y O<|G O<|G O<|G O<|qE O U zC (getm uD)<|zM zEf qD O<|zY O O (zAl O O (hc _ (qC hx)) ⟨zB,O,T⟩) ?_
  exact j7
 ·try simp only [sx] at c1
  refine qM<|Y O<|G O<|zA<|zJ<|zT O ?_
  exact ⟨by rw [zCa (by rw [yD zC] at hp;exact hp)],O⟩
theorem zGc (l:List Mono) (c:C) (p:Mono->Bool) (μ:List E) (hl:l.length<=4294967296) (hc:∀x,x∈l->FnCon cfg c [sH x] μ fun r μ'=>r=vB (p x)/\μ'=μ):
    Con cfg 300 [vO l,.c c] μ fun r μ'=>r=vB (l.any p)/\μ'=μ:=by
 refine zV Tryz.func300 O Tryz.ntmps300 Tryz.results300 O ?_
 intro z hz
 refine Y O<|G O<|zA<|Y O<|G O<|G O<|zY O O (zDs O ok315 (zIg l c p μ hl hc) ⟨zB,O,zB,O,T⟩) ?_
 rintro _ _ ⟨rfl,rfl⟩
 refine zW O (wQ O O O)<|G O<|zA<|zJ<|zT O ?_
 exact ⟨by rw [zMv],O⟩
theorem zKq (l:List Lf) (c:C) (p:Lf->Bool) (μ:List E) (hl:l.length<=4294967296) (hc:∀x,x∈l->FnCon cfg c [dP x] μ fun r μ'=>r=vB (p x)/\μ'=μ):
    Con cfg 302 [nI l,.c c] μ fun r μ'=>r=vI (dJ p l)/\μ'=μ:=by
 refine zV Tryz.func302 O Tryz.ntmps302 Tryz.results302 O ?_
 intro z hz
 refine Y O<|G O<|zA<|zH<|Y O<|G O<|qB O el72<|G O<|zA<|zR<|zU ⟨[(8,.c _),(0,.c _),(1,.c _),(7,.c _)],_⟩ (Weak.regs ⟨zB,zB,zB,zB,T⟩)<|zFb 1 O (Nat) (fun k=>[(8,vI k)]) (fun k=>μ) (fun k=>k<=l.length/\((l.take k).any p=false)) (fun k=>l.length-k) ⟨0,⟨zC,O⟩,Weak.regs ⟨zB,zB,zB,zB,T⟩⟩ ?_
 rintro k ⟨hk,hp⟩
 refine Y O<|yA O<|zA<|zH<|zE O (fun c1=>?_) (fun c1=>?_)
 ·try simp only [sx] at c1
  obtain ⟨x,hx⟩:=qV l k zC
  refine zI<|zH<|zR<|Y O<|G O<|G O<|zA<|Y O<|G O<|G O<|G O<|qE O el72 zC (getm uD)<|zM kD qD O<|zY O O (zAl O O (hc _ (qC hx)) ⟨zB,O,T⟩) ?_
  exact j7
 ·try simp only [sx] at c1
  refine qM<|Y O<|G O<|zA<|zJ<|zT O ?_
  exact ⟨by rw [zCa (by rw [yD zC] at hp;exact hp)],O⟩
theorem zHd (l:List Lf) (c:C) (p:Lf->Bool) (μ:List E) (hl:l.length<=4294967296) (hc:∀x,x∈l->FnCon cfg c [dP x] μ fun r μ'=>r=vB (p x)/\μ'=μ):
    Con cfg 280 [nI l,.c c] μ fun r μ'=>r=vB (l.any p)/\μ'=μ:=by
 refine zV Tryz.func280 O Tryz.ntmps280 Tryz.results280 O ?_
 intro z hz
 refine Y O<|G O<|zA<|Y O<|G O<|G O<|zY O O (zDs O ok302 (zKq l c p μ hl hc) ⟨zB,O,zB,O,T⟩) ?_
 rintro _ _ ⟨rfl,rfl⟩
 refine zW O (wQ O O O)<|G O<|zA<|zJ<|zT O ?_
 exact ⟨by rw [zMv],O⟩
theorem inScope_1 (b:Nat) (svL svS svP:Value) (n:Ns) (U S:List ByteArray) (W:List Int) (m:Mono) (hS:S.length<=1000000):
    Con cfg 301 [sH m,.c (.iptr [.lit (.pointer (some ⟨b,0,none⟩))])] (ckN b svL svS svP n U S W) fun r μ'=>r=vB (!bQ S m.Name)/\μ'=ckN b svL svS svP n U S W:=by
 refine zV Tryz.func301 O Tryz.ntmps301 Tryz.results301 O ?_
 intro z hz
 refine Y O<|zY O O (qL O O) ?_
 rintro _ _ ⟨b1,rfl,rfl⟩
 refine G O<|zA<|zH<|yE 6 mixed uC O O<|zN O O (zK O zPq O qD O)<|zN O O (qK O O)<|zN O O (zF O zJp O)<|zN O O (zK O zFu O (J 1 O) O)<|zN O O (zF O wV O)<|zN O O (zK O one9 O (J 0 O) O)<|kE<|zW O (zNe 3 O ok44 O (zAh S m.Name zC) O ⟨.inl ⟨O,O⟩,.inr ⟨zB,O⟩,T⟩)<|kZ O<|G O<|zA<|zU _ (Weak.mem [false,true,true,true,true] O)<|zJ<|zT O ?_
 exact ⟨O,O⟩
theorem zPh (b:Nat) (svL svS svP:Value) (n:Ns) (U S:List ByteArray) (W:List Int) (l:Lf) (hS:S.length<=1000000) (hl:l.L.length<=4294967296):
    Con cfg 279 [vP b,dP l] (ckN b svL svS svP n U S W) fun r μ'=>r=vB (mI S l)/\μ'=ckN b svL svS svP n U S W:=by
 refine zV Tryz.func279 O Tryz.ntmps279 Tryz.results279 O ?_
 intro z hz
 refine Y O<|zY O O (qL O O) ?_
 rintro _ _ ⟨b1,rfl,rfl⟩
 refine yT _ (kG 0 O 2 _ PLe.ptr)<|zY O O (qL O O) ?_
 rintro _ _ ⟨b2,rfl,rfl⟩
 refine G O<|zA<|Y O<|zD O wC<|zG zBe (J 0 O) O<|zW O (zDw O O O O O)<|zW O (yG [1,1,1,1] O ok300 (zGc l.L _ (fun m=> !bQ S m.Name) (ckN b svL svS svP n U S W) hl (fun m _=>FnCon.of_con (first:=[]) (cap:=[.iptr [.lit (.pointer (some ⟨b,0,none⟩))]]) ok301 (inScope_1 b svL svS svP n U S W m hS))) ⟨zB,O,zB,O,T⟩ O)<|kZ O<|G O<|zA<|zU _ (Weak.mem [false,true,true,true,true] O)<|zJ<|zT O ?_
 exact ⟨by rw [zJa];rfl,O⟩
theorem node_1 (b:Nat) (svL svS svP:Value) (n:Ns) (U S:List ByteArray) (W:List Int) (l:Lf) (hS:S.length<=1000000) (hl:l.L.length<=4294967296):
    Con cfg 281 [dP l,.c (.iptr [.lit (.pointer (some ⟨b,0,none⟩))])] (ckN b svL svS svP n U S W) fun r μ'=>r=vB (!mI S l)/\μ'=ckN b svL svS svP n U S W:=by
 refine zV Tryz.func281 O Tryz.ntmps281 Tryz.results281 O ?_
 intro z hz
 refine Y O<|zY O O (qL O O) ?_
 rintro _ _ ⟨b1,rfl,rfl⟩
 refine G O<|zA<|Y O<|zG zPq qD O<|zM kD (J 0 O) O<|zW O (yG [1,1,1,1] O ok279 (zPh b svL svS svP n U S W l hS hl) ⟨zB,O,zB,O,T⟩ O)<|kZ O<|G O<|zA<|zU _ (Weak.mem [false,true,true,true,true] O)<|zJ<|zT O ?_
 exact ⟨O,O⟩
theorem ck_node (b:Nat) (svL svS svP:Value) (n:Ns) (U S:List ByteArray) (W:List Int) (e:Ex) (hn:n.Ok) (hS:S.length<=1000000) (he:e.wt<=1073741824):
    Con cfg 248 [vP b,vE e] (ckN b svL svS svP n U S W) fun r μ'=>r=vI (jS n.Bufs S e)/\μ'=ckN b svL svS svP n U S W:=by
 refine zV Tryz.func248 O Tryz.ntmps248 Tryz.results248 O ?_
 intro z hz
 obtain ⟨hL,hI,hA⟩:=e.parts he
 have hwt:=Ex.wt_eq e
 refine Y O<|zY O O (qL O O) ?_
 rintro _ _ ⟨b1,rfl,rfl⟩
 refine yT _ (kG 0 O 2 _ PLe.ptr)<|zY O O (qL O O) ?_
 rintro _ _ ⟨b2,rfl,rfl⟩
 refine G O<|zA<|Y O<|zG zPq qD O<|zD O zDi<|zM kD (J 0 O) O<|zW O (yG [1,1,1,1] O ok279 (zPh b svL svS svP n U S W e.Lin hS zC) ⟨zB,O,zB,O,T⟩ O)<|G O<|zA<|zH<|Y O<|zD O kQ<|zG wG (J 0 O) O<|qB O N<|G O<|zA<|zR<|zU ⟨[(20,.c _),(5,.c _),(2,.c _),(3,.c _),(18,.c _),(19,.c _)],[_,_,_,_,_]⟩ (Weak.mk [true,true,true,true,true] ⟨zB,zB,zB,zB,zB,zB,T⟩ O) ?_
 refine qF 2 0 O O (Nat) (fun k=>[(20,vI k),(5,vB (mI S e.Lin&&(e.Idx.take k).all (cN S)))]) (fun k=>[]) (fun k=>k<=e.Idx.length) (fun k=>e.Idx.length-k) ⟨0,zC,Weak.mk [true,true,true,true,true] ⟨zB,VLe.of_eq (congrArg vB uG),zB,zB,zB,zB,T⟩ O⟩ ?_
 rintro k hk
 refine Y O<|yA O<|zA<|zH<|zE O (fun c1=>?_) (fun c1=>?_)
 ·try simp only [sx] at c1
  obtain ⟨x,hx⟩:=qV e.Idx k zC
  refine zI<|zH<|zR<|Y O<|qE O N zC (getm uD)<|zM zJx qD O<|zY O O (qG [none,some 2,none,some 2] O zr93 O) ?_
  rintro _ _ ⟨b3,rfl,rfl⟩
  refine D 0 sz93 O<|zA<|zO O<|G O<|G O<|rL0 O (fun g5_1=>zK O zPq O qD O) O<|rL0 O (fun g5_1=>zF O zCi O) O<|rL1 27 O (fun g5_1=>qA O kD O (J 0 O) O) O<|rLz [(26,_),(28,_)] O gv1 ⟨O,O,O,O,T⟩ (fun g5_1=>yG [2,2,2,2] O ok279 (zPh b svL svS svP n U S W x.Lin hS (by have:=Ex.idx_wt (qC hx);omega)) ⟨zB,O,zB,O,T⟩ O) O<|kB O (fun h=>h)<|G O<|rL0 O (fun g5_7=>zF O zAg O) O<|rL1 32 O (fun g5_7=>zK O zCg O (J 0 O) O) O<|rL0 O (fun g5_7=>zDw O O O O O) O<|rLz [(33,_),(34,_)] O gv1 ⟨O,O,O,O,T⟩ (fun g5_7=>yG [2,2,2,2] O ok280 (zHd x.At _ (fun l=> !mI S l) (ckN b svL svS svP n U S W) (by have:=Ex.idx_wt (qC hx);omega) (fun l hl=>FnCon.of_con (first:=[]) (cap:=[.iptr [.lit (.pointer (some ⟨b,0,none⟩))]]) ok281 (node_1 b svL svS svP n U S W l hS (by have:=Ex.idx_wt (qC hx);have:=zBz hl;omega)))) ⟨zB,O,zB,O,T⟩ O) O<|rL1 35 O (fun g5_7=>wJ O O) O<|kB O (fun h=>h)<|G O<|zA<|zO O<|qH O ⟨zC,zC⟩<|G O<|zA ?_
  refine ⟨k+1,zC,zC,Weak.mk [false,true,true,true,true,true] ⟨zB,VLe.of_eq (congrArg vB (by rw [zJa];exact scAll_next hx)),zB,zB,zB,zB,T⟩ O⟩
 ·try simp only [sx] at c1
  rw [yD (l:=e.Idx) (k:=k) zC]
  refine qM<|zH<|Y O<|G O<|kZ O<|zA<|zE O (fun c2=>?_) (fun c2=>?_)
  ·have h9:lV S e=false:=(Bool.not_eq_true' _).mp c2
   refine Y O<|G O<|zA<|zU _ (Weak.mem [false,true,true,true,true] O)<|zJ<|zT O ?_
   exact ⟨by rw [nodeN_9 h9],O⟩
  ·have h9:lV S e=true:=(Bool.not_eq_false' _).mp c2
   refine zI<|zH<|Y O<|zD O wE<|zG one3 (J 0 O) O<|yN O<|zA<|zE O (fun c3=>?_) (fun c3=>?_)
   ·try simp only [sx] at c3
    refine Y O<|G O<|zA<|zU _ (Weak.mem [false,true,true,true,true] O)<|zJ<|zT O ?_
    exact ⟨by rw [nodeN_o h9 c3],O⟩
   ·try simp only [sx] at c3
    refine zI<|zH<|yS 12 1 [⟨0,.q []⟩,⟨1,.q []⟩,⟨2,.q []⟩,⟨3,.q [2]⟩,⟨4,.q []⟩,⟨5,.q [1]⟩,⟨6,.q []⟩,⟨7,.q []⟩,⟨8,.q []⟩,⟨9,.q []⟩,⟨10,.e 0 []⟩,⟨11,.e 0 []⟩] mixed uC uC O O O<|zQ O<|zQ O<|zQ O<|zQ O<|zQ O<|zQ O<|zQ O<|zQ O<|zQ O<|zQ O<|zQ O<|zQ O<|wS<|zX O uA O O (zK O zPq O qD O)<|zX O uA O O (qK O O)<|zX O uA O O (zF O zOx O)<|zX O uA O O (qA O zBm O (J 0 O) O)<|zX O uA O O (zF O zFp O)<|zX O uA O O (zK O one9 O (J 0 O) O)<|zX O uA O O (qS O ok247 (zAv n e.Name hn) ⟨zB,O,zB,O,T⟩)<|zX O uA O O (yW O O)<|zX O uA O O (qY O O O)<|zX O uA O O (kT O O O)<|zGj O O uA O O (qG [none,none,none,none,none,none,some 1,none] O zr66 O) ?_
    rintro _ _ ⟨b4,rfl,rfl⟩
    refine ⟨_,O,?_⟩
    refine zDx O O uA O O (yX O sz66 O O O (zDb 0 O O)) ?_
    rintro _ _ ⟨rfl,rfl⟩
    refine ⟨_,O,?_⟩
    refine wR O<|G O<|zA<|zH<|Y O<|G O<|kZ O<|zA<|zE O (fun c4=>?_) (fun c4=>?_)
    ·try simp only [sx] at c4
     refine Y O<|G O<|zA<|zU _ (Weak.mem [false,false,true,true,true,true] O)<|zJ<|zT O ?_
     exact ⟨by rw [nodeN_n h9 zC c4],O⟩
    ·try simp only [sx] at c4
     refine zI<|zH<|Y O<|zD O zPw<|zG zMf (J 0 O) O<|qB O el46<|zD O kQ<|zG wG (J 1 O) O<|qB O N<|yN O<|zA<|zE O (fun c5=>?_) (fun c5=>?_)
     ·try simp only [sx] at c5
      refine Y O<|G O<|zA<|zU _ (Weak.mem [false,false,true,true,true,true] O)<|zJ<|zT O ?_
      exact ⟨by rw [nodeN_r h9 zC c4 zC],O⟩
     ·try simp only [sx] at c5
      refine zI<|zH<|Y O<|zD O kQ<|zG wG (J 1 O) O<|qB O N<|G O<|zA<|zR<|zU ⟨[(66,.c _),(2,.c _),(64,.c _),(65,.c _)],[_,_,_,_]⟩ (Weak.mk [false,false,true,true,true,true] ⟨zB,zB,zB,zB,T⟩ O)<|qF 1 0 O O (Nat) (fun j=>[(66,vI j)]) (fun j=>[]) (fun j=>j<=e.Idx.length/\(nL n.Bufs e.Idx=nL n.Bufs (e.Idx.drop j))) (fun j=>e.Idx.length-j) ⟨0,⟨zC,O⟩,Weak.mk [true,true,true,true] ⟨zB,zB,zB,zB,T⟩ O⟩ ?_
      rintro j ⟨hk,hq⟩
      refine Y O<|yA O<|zA<|zH<|zE O (fun c6=>?_) (fun c6=>?_)
      ·try simp only [sx] at c6
       obtain ⟨y,hy⟩:=qV e.Idx j zC
       refine zI<|zH<|zR<|Y O<|qE O N zC (getm uD)<|zM zJx qD O<|zY O O (qG [none,some 2,none,some 2] O zr93 O) ?_
       rintro _ _ ⟨b5,rfl,rfl⟩
       refine D 0 sz93 O<|zA<|zH<|Y O<|zD O zDm<|zG one9 (J 0 O) O<|wD O<|zA<|zE O (fun c7=>?_) (fun c7=>?_)
       ·try simp only [sx] at c7
        refine qM<|zO O<|qH O ⟨zC,zC⟩<|G O<|zA ?_
        refine ⟨j+1,⟨zC,hq.trans (zKi hy (by first|exact gathE_0 c7|exact zQz c7 c8 zC zC))⟩,zC,Weak.mk [false,true,true,true,true] ⟨zB,zB,zB,zB,T⟩ O⟩
       ·try simp only [sx] at c7
        refine zI<|zH<|yS 12 1 [⟨0,.q []⟩,⟨1,.q []⟩,⟨2,.q []⟩,⟨3,.q [2]⟩,⟨4,.q []⟩,⟨5,.q [1]⟩,⟨6,.q []⟩,⟨7,.q []⟩,⟨8,.q []⟩,⟨9,.q []⟩,⟨10,.e 0 []⟩,⟨11,.e 0 []⟩] mixed uC uC O O O<|zQ O<|zQ O<|zQ O<|zQ O<|zQ O<|zQ O<|zQ O<|zQ O<|zQ O<|zQ O<|zQ O<|zQ O<|wS<|zX O uA O O (zK O zPq O qD O)<|zX O uA O O (qK O O)<|zX O uA O O (zF O zOx O)<|zX O uA O O (qA O zBm O (J 0 O) O)<|zX O uA O O (zF O zDm O)<|zX O uA O O (zK O one9 O (J 0 O) O)<|zX O uA O O (qS O ok247 (zAv n y.From hn) ⟨zB,O,zB,O,T⟩)<|zX O uA O O (yW O O)<|zX O uA O O (qY O O O)<|zX O uA O O (kT O O O)<|zGj O O uA O O (qG [none,none,none,none,none,none,some 1,none] O zr66 O) ?_
        rintro _ _ ⟨b6,rfl,rfl⟩
        refine ⟨_,O,?_⟩
        refine zDx O O uA O O (yX O sz66 O O O (zDb 0 O O)) ?_
        rintro _ _ ⟨rfl,rfl⟩
        refine ⟨_,O,?_⟩
        refine wR O<|G O<|zA<|zR<|Y O<|G O<|kZ O<|G O<|zA<|zE O (fun c8=>?_) (fun c8=>?_)
        ·try simp only [sx] at c8
         refine Y O<|G O<|zA<|zU _ (Weak.mem [false,false,true,true,true,true] O)<|zJ<|zT O ?_
         exact ⟨by rw [zJb h9 zC c4 zC,hq,zKh hy (by rw [gathE_9 c7 c8];decide),gathE_9 c7 c8],O⟩
        ·try simp only [sx] at c8
         refine Y O<|zD O zMx<|zD O zFq<|zG one3 (J 0 O) O<|yN O<|G O<|zA<|zE O (fun c9=>?_) (fun c9=>?_)
         ·try simp only [sx] at c9
          refine Y O<|G O<|zA<|zU _ (Weak.mem [false,false,true,true,true,true] O)<|zJ<|zT O ?_
          exact ⟨by rw [zJb h9 zC c4 zC,hq,zKh hy (by rw [zRb c7 c8 c9];decide),zRb c7 c8 c9],O⟩
         ·try simp only [sx] at c9
          refine Y O<|zD O zPw<|zG zMf (J 0 O) O<|qB O el46<|zD O zAg<|zG zCg (J 1 O) O<|qB O el72<|yN O<|G O<|zA<|zE O (fun c10=>?_) (fun c10=>?_)
          ·try simp only [sx] at c10
           refine Y O<|G O<|zA<|zU _ (Weak.mem [false,false,true,true,true,true] O)<|zJ<|zT O ?_
           exact ⟨by rw [zJb h9 zC c4 zC,hq,zKh hy (by rw [zRa c7 c8 c9 zC];decide),zRa c7 c8 c9 zC],O⟩
          ·try simp only [sx] at c10
           refine zI<|zO O<|qH O ⟨zC,zC⟩<|G O<|zA ?_
           refine ⟨j+1,⟨zC,hq.trans (zKi hy (by first|exact gathE_0 c7|exact zQz c7 c8 zC zC))⟩,zC,Weak.mk [false,false,true,true,true,true] ⟨zB,zB,zB,zB,T⟩ O⟩
      ·try simp only [sx] at c6
       refine qM<|Y O<|G O<|zA<|zJ<|zT O ?_
       exact ⟨by rw [zJb h9 zC c4 zC,hq,kJ zC];rfl,O⟩
theorem ck_typeOf_step (b:Nat) (svL svS svP:Value) (n:Ns) (U S:List ByteArray) (W:List Int) (hn:n.Ok) (e:Ex) (ih:∀a,a∈e.Args->dZ a=0->a.wt<=1073741824->Con cfg 249 [vP b,vE a] (ckN b svL svS svP n U S W) fun r μ'=>r=.tup [vTy (bL (tyF n.Bufs) a).1,vI (bL (tyF n.Bufs) a).2]/\μ'=ckN b svL svS svP n U S W) (hpart:dZ e=0) (he:e.wt<=1073741824):
    Con cfg 249 [vP b,vE e] (ckN b svL svS svP n U S W) fun r μ'=>r=.tup [vTy (bL (tyF n.Bufs) e).1,vI (bL (tyF n.Bufs) e).2]/\μ'=ckN b svL svS svP n U S W:=by
 refine Con.drop<|zV Tryz.func249 O Tryz.ntmps249 Tryz.results249 O ?_
 intro z hz
 obtain ⟨hLl,hIl,hAl⟩:=e.parts he
 have hwt:=Ex.wt_eq e
 refine Y O<|zY O O (qL O O) ?_
 rintro _ _ ⟨b1,rfl,rfl⟩
 refine zY O O (yC O zr56) ?_
 rintro _ _ ⟨b2,rfl,rfl⟩
 refine G O<|zA<|Y O<|G O<|yT _ (kO 56 5)<|zA<|zH<|Y O<|zD O wP<|zG zBy (J 2 O) O<|qB O el60<|G O<|zA<|zR<|zU ⟨[(16,.c _),(6,.c _),(0,.c _),(3,.c _),(4,.c _),(14,.c _),(15,.c _)],[_,_,_,_,_,_,_]⟩ (Weak.mk [true,true,true,true,true,true,true] ⟨zB,zB,zB,zB,zB,zB,zB,T⟩ O)<|qF 2 1 O O (Nat×Value) (fun ⟨k,sv⟩=>[(16,vI k),(6,.c (.lit sv))]) (fun ⟨k,sv⟩=>[E.vec sv 56 5 ((bE (tyF n.Bufs) (e.Args.take k)).1.map tyC)]) (fun ⟨k,sv⟩=>k<=e.Args.length/\((bE (tyF n.Bufs) (e.Args.take k)).2=0)) (fun ⟨k,sv⟩=>e.Args.length-k) ⟨⟨0,(.slice none 0 0)⟩,⟨zC,O⟩,Weak.mk [true,true,true,true,true,true,true] ⟨zB,zB,zB,zB,zB,zB,zB,T⟩ O⟩ ?_
 rintro ⟨k,sv⟩ ⟨hk,hp⟩
 show AWP _ _ _ _ _ ⟨[(16,vI k),(6,.c (.lit sv))]++_,[E.vec sv 56 5 ((bE (tyF n.Bufs) (e.Args.take k)).1.map tyC)]++_⟩
 refine Y O<|yA O<|zA<|zH<|zE O (fun c1=>?_) (fun c1=>?_)
 ·try simp only [sx] at c1
  obtain ⟨x,hx⟩:=qV e.Args k zC
  have hll:=zEc _ _ hp
  refine zI<|zH<|zR<|Y O<|qE O el60 zC (zGh uD)<|zM yU qD O<|zY O O (qG [none,none,none,none,none,none,none,none,none,none,some 2,some 4,some 13] O zr62 O) ?_
  rintro _ _ ⟨b4,rfl,rfl⟩
  refine D 0 sz62 O<|zA<|Y O<|G O<|zM yU (J 0 O) O<|zW O (yG [4,4,4,4] O ok249 (ih x (qC hx) (zIx hpart (qC hx)) (by have:=Ex.arg_wt (qC hx);omega)) ⟨zB,O,zB,O,T⟩ O)<|qU O<|zW O (qY O O O)<|yK O<|zY O O (yC O zr56) ?_
  rintro _ _ ⟨b5,rfl,rfl⟩
  refine D 0 v O<|G O<|zA<|zH<|Y O<|G O<|yN O<|zA<|zE O (fun c2=>?_) (fun c2=>?_)
  ·try simp only [sx] at c2
   refine Y O<|zM qZ (J 0 O) O<|G O<|D 3 v O<|G O<|zA<|zU _ (Weak.mem [false,false,false,true,false,true,true,true,true] O)<|zJ<|fin2 (zZ qZ O (J 0 O) O) (rs_c O) ?_
   exact ⟨by rw [nodeT_no hx hp c2,nodeT_zero c2];rfl,[_],O⟩
  ·try simp only [sx] at c2
   refine zI<|zO O<|G O<|zM qZ (J 0 O) O<|kA O wF zr56<|zY O O (yH 2 O wF O O O (by simp only [List.length_map,List.length_cons,List.length_nil,hll,List.length_take];omega) (by simp only [List.length_map,List.length_cons,List.length_nil,hll,List.length_take];omega)) ?_
   rintro _ _ ⟨sv6,rfl,rfl⟩
   refine G O<|zA<|zO O<|qH O ⟨zC,zC⟩<|G O<|zA ?_
   refine ⟨⟨k+1,sv6⟩,⟨zC,by rw [zCu hx hp c2]⟩,(by show e.Args.length-(k+1)<e.Args.length-k;omega),Weak.mk [false,false,true,true,true,true,true,true,true] ⟨zB,zB,zB,zB,zB,zB,zB,T⟩ (by show _=[E.vec sv6 _ 5 ((bE (tyF n.Bufs) (e.Args.take (k+1))).1.map tyC)]++_;rw [zCu hx hp c2];simp only [List.map_append];rfl)⟩
 ·try simp only [sx] at c1
  have hll:=zEc _ _ hp
  have hta:e.Args.take k=e.Args:=yD zC
  rw [hta] at hll
  have hg:∀i,i<e.Args.length->((bE (tyF n.Bufs) (e.Args.take k)).1.map tyC)[i]? =some (tyC (bS (bE (tyF n.Bufs) (e.Args.take k)).1 i)):=fun i hi=>zHa (by rw [hta];omega)
  have hgn:∀i:Nat,1<=i->i<=e.Args.length->∀j:Int,j=(((bE (tyF n.Bufs) (e.Args.take k)).1.length:Int)-i)->((bE (tyF n.Bufs) (e.Args.take k)).1.map tyC)[j.toNat]? =some (tyC (bS (bE (tyF n.Bufs) (e.Args.take k)).1 ((bE (tyF n.Bufs) (e.Args.take k)).1.length-i))):=fun i h1 h2 j hj=>by rw [hta] at *;rw [show j.toNat=(bE (tyF n.Bufs) e.Args).1.length-i by omega];exact zHa zC
  have hT:bL (tyF n.Bufs) e=tyF n.Bufs e (bE (tyF n.Bufs) (e.Args.take k)).1:=nodeT_ok hta hp
  have hlk:(bE (tyF n.Bufs) (e.Args.take k)).1.length=e.Args.length:=by rw [hta];exact hll
  refine qM<|zH<|Y O<|zD O wE<|zG one3 (J 2 O) O<|zA<|zR<|zH<|Y O<|yJ O<|G O<|zA<|zE O (fun c3=>?_) (fun c3=>?_)
  ·try simp only [sx] at c3
   refine zI<|zE O (fun c4=>?_) (fun c4=>?_)
   ·exact v54
   ·try simp only [sx] at c4
    refine Y O<|yJ O<|G O<|zA<|zE O (fun c5=>?_) (fun c5=>?_)
    ·try simp only [sx] at c5
     exact p6
    ·try simp only [sx] at c5
     refine Y O<|yJ O<|G O<|zA<|zE O (fun c6=>?_) (fun c6=>?_)
     ·try simp only [sx] at c6
      refine zH<|yS 12 1 [⟨0,.q []⟩,⟨1,.q []⟩,⟨2,.q []⟩,⟨3,.q [4]⟩,⟨4,.q []⟩,⟨5,.q [3]⟩,⟨6,.q []⟩,⟨7,.q []⟩,⟨8,.q []⟩,⟨9,.q []⟩,⟨10,.e 0 []⟩,⟨11,.e 0 []⟩] mixed uC uC O O O<|zQ O<|zQ O<|zQ O<|zQ O<|zQ O<|zQ O<|zQ O<|zQ O<|zQ O<|zQ O<|zQ O<|zQ O<|wS<|zX O uA O O (zP O O)<|zX O uA O O (qK O O)<|zX O uA O O (zF O zOx O)<|zX O uA O O (qA O zBm O (J 0 O) O)<|zX O uA O O (zF O zFp O)<|zX O uA O O (zK O one9 O (J 0 O) O)<|zX O uA O O (qS O ok247 (zAv n e.Name hn) ⟨zB,O,zB,O,T⟩)<|zX O uA O O (yW O O)<|zX O uA O O (qY O O O)<|zX O uA O O (kT O O O)<|zGj O O uA O O (qG [none,none,none,none,none,none,some 1,none] O zr66 O) ?_
      rintro _ _ ⟨b7,rfl,rfl⟩
      exact v14
     ·exact s7
  ·try simp only [sx] at c3
   refine zO O<|yJ O<|G O<|zA<|zE O (fun c4=>?_) (fun c4=>?_)
   ·exact v54
   ·try simp only [sx] at c4
    refine Y O<|yJ O<|G O<|zA<|zE O (fun c5=>?_) (fun c5=>?_)
    ·try simp only [sx] at c5
     exact p6
    ·try simp only [sx] at c5
     refine Y O<|yJ O<|G O<|zA<|zE O (fun c6=>?_) (fun c6=>?_)
     ·try simp only [sx] at c6
      refine zH<|yS 12 1 [⟨0,.q []⟩,⟨1,.q []⟩,⟨2,.q []⟩,⟨3,.q [4]⟩,⟨4,.q []⟩,⟨5,.q [3]⟩,⟨6,.q []⟩,⟨7,.q []⟩,⟨8,.q []⟩,⟨9,.q []⟩,⟨10,.e 0 []⟩,⟨11,.e 0 []⟩] mixed uC uC O O O<|zQ O<|zQ O<|zQ O<|zQ O<|zQ O<|zQ O<|zQ O<|zQ O<|zQ O<|zQ O<|zQ O<|zQ O<|wS<|zX O uA O O (zP O O)<|zX O uA O O (qK O O)<|zX O uA O O (zF O zOx O)<|zX O uA O O (qA O zBm O (J 0 O) O)<|zX O uA O O (zF O zFp O)<|zX O uA O O (zK O one9 O (J 0 O) O)<|zX O uA O O (qS O ok247 (zAv n e.Name hn) ⟨zB,O,zB,O,T⟩)<|zX O uA O O (yW O O)<|zX O uA O O (qY O O O)<|zX O uA O O (kT O O O)<|zGj O O uA O O (qG [none,none,none,none,none,none,some 1,none] O zr66 O) ?_
      rintro _ _ ⟨b8,rfl,rfl⟩
      exact v14
     ·exact s7
theorem ck_typeOf (b:Nat) (svL svS svP:Value) (n:Ns) (U S:List ByteArray) (W:List Int)  (e:Ex) (hn:n.Ok) (hpart:dZ e=0) (he:e.wt<=1073741824):Con cfg 249 [vP b,vE e] (ckN b svL svS svP n U S W) fun r μ'=>r=.tup [vTy (bL (tyF n.Bufs) e).1,vI (bL (tyF n.Bufs) e).2]/\μ'=ckN b svL svS svP n U S W:=by
  induction e using Ex.ind with
  |_ e ih=>exact ck_typeOf_step b svL svS svP n U S W hn e (fun a ha h1 h2=>ih a ha h1 h2) hpart he
theorem zHv (b:Nat) (svL svS svP:Value) (n:Ns) (U S:List ByteArray) (W:List Int) (e:Ex) (hn:n.Ok) (hS:S.length<=1000000) (he:e.wt<=1000000000):
    Con cfg 210 [vP b,vE e] (ckN b svL svS svP n U S W) fun r μ'=>r=.tup [vTy (dE n.Bufs S e).1,vI (dE n.Bufs S e).2]/\μ'=ckN b svL svS svP n U S W:=by
 refine Con.drop<|zV Tryz.func210 O Tryz.ntmps210 Tryz.results210 O ?_
 intro z hz
 refine Y O<|zY O O (qL O O) ?_
 rintro _ _ ⟨b1,rfl,rfl⟩
 refine yT _ (kG 0 O 2 _ PLe.ptr)<|zY O O (qL O O) ?_
 rintro _ _ ⟨b2,rfl,rfl⟩
 refine zY O O (yC O zr56) ?_
 rintro _ _ ⟨b3,rfl,rfl⟩
 refine zY O O (yC O zr34) ?_
 rintro _ _ ⟨b4,rfl,rfl⟩
 refine zA<|zH<|Y O<|zM yU (J 2 O) O<|qJ O ok178 (zMz e zC) ⟨zB,O,T⟩<|G O<|zA<|Y O<|G O<|yN O<|zA<|zE O (fun c1=>?_) (fun c1=>?_)
 ·try simp only [sx] at c1
  refine Y O<|yI O zr56 pl56<|G O<|D 1 v O<|D 0 sz34 O<|zA<|zU _ (Weak.mem [true,true,false,true,true,true,true] O)<|zJ<|fin2 (zZ qZ O (J 1 O) O) (wI zIz O (J 0 O) O) ?_
  exact ⟨by rw [exprT_1 c1];rfl,[_,_],O⟩
 ·try simp only [sx] at c1
  refine zI<|zH<|Y O<|zM yU (J 2 O) O<|qJ O ok220 (zTu _) ⟨zB,O,T⟩<|zA<|zR<|zHy (ps:=[17]) hz 2 O O ok254 (zRr e zC) (fun _ _=>O) O (fun pre=>dF n.Bufs S pre=0) (fun pre=>[E.row b4 34 [cI 0],E.row b3 56 [cI 0,cI 0,cI 0,cI 0,cI 0]]) (fun c pre=>(c=.ret/\¬dF n.Bufs S pre=0)) (fun c pre=>[E.row b4 34 [cI (dF n.Bufs S pre)],E.row b3 56 [cI 0,cI 0,cI 0,cI 0,cI 0]]) ⟨O,O⟩ ?_ ?_ ?_ ?_
  ·intro pre x suf hxs hi z hz
   have hxw:x.wt<=e.wt:=zFh e x (by rw [hxs];simp)
   refine zO O<|zY O O (qG [none,none,none,none,none,none,none,none,none,none,some 2,some 4,some 13] O zr62 O) ?_
   rintro _ _ ⟨b5,rfl,rfl⟩
   refine D 0 sz62 O<|zA ?_
   intro z hz
   refine zR<|Y O<|zG zPq qD O<|zM yU (J 0 O) O<|zW O (yG [4,4,4,4] O ok248 (ck_node b svL svS svP n U S W x hn hS zC) ⟨zB,O,zB,O,T⟩ O)<|G O<|zA<|Y O<|G O<|yN O<|zA<|zE O (fun c2=>?_) (fun c2=>?_)
   ·try simp only [sx] at c2
    refine Y O<|yI O zr56 pl56<|G O<|D 2 v O<|D 1 sz34 O<|zA<|zJ ?_
    exact zDz (τ:=⟨[],_⟩) (Weak.mk [false,true,true,true,true,true,true,true] T O) ⟨⟨O,by rw [zOj hi];exact c2⟩,(by dsimp only;rw [zOj hi];rfl)⟩
   ·try simp only [sx] at c2
    refine zI ?_
    exact zDz (τ:=⟨[],_⟩) (Weak.mk [false,true,true,true,true,true,true,true] T O) ⟨(by dsimp only;rw [zOj hi];exact c2),O⟩
  ·intro hd
   refine Y O<|zG zPq qD O<|zM yU (J 2 O) O<|zW O (yG [3,3,3,3] O ok249 (ck_typeOf b svL svS svP n U S W e hn (zCs c1) zC) ⟨zB,O,zB,O,T⟩ O)<|zW O (qY O O O)<|yK O<|D 1 v O<|D 0 sz34 O<|zA<|zU _ (Weak.mem [true,true,false,true,true,true,true] O)<|zJ<|fin2 (zZ qZ O (J 1 O) O) (wI zIz O (J 0 O) O) ?_
   exact ⟨by rw [exprT_3 c1 hd];rfl,[_,_],O⟩
  ·rintro pre x suf hxs hx
   rcases hx with ⟨hc,hx⟩
   clear hc
   repeat (first|refine zRw ?_|refine zPj ?_)
   refine fin2 (zZ qZ O (J 1 O) O) (wI zIz O (J 0 O) O) ?_
   exact ⟨by rw [exprT_2 c1 (by rw [hxs,nodesN_pre hx];exact hx),hxs,nodesN_pre (suf:=suf) hx];rfl,[_,_,_],O⟩
  ·rintro i pre x suf hxs hx
   rcases hx with ⟨hc,hx⟩
   cases hc
theorem ck_store (b:Nat) (svL svS svP:Value) (n:Ns) (U S:List ByteArray) (W:List Int) (s:St) (hn:n.Ok) (hS:S.length<=1000000) (hs:s.wt<=900000000):
    Con cfg 211 [vP b,vSt s] (ckN b svL svS svP n U S W) fun r μ'=>r=vI (jQ n.Bufs S s)/\μ'=ckN b svL svS svP n U S W:=by
 refine zV Tryz.func211 O Tryz.ntmps211 Tryz.results211 O ?_
 intro z hz
 obtain ⟨hE,hI,hIw,hB,hBw⟩:=St.parts hs
 have hrd:=rdE_wt s
 refine Y O<|zY O O (qL O O) ?_
 rintro _ _ ⟨b1,rfl,rfl⟩
 refine G O<|zA<|Y O<|G O<|zD O zDg<|zG one9 (J 0 O) O<|zD O zPy<|zG wG (J 0 O) O<|yZ [none,none,none,none,none,none,none,none,none,none,some 2,none,some 13] O zr62 pl62<|zW O (yG [1,1,1,1] O ok210 (zHv b svL svS svP n U S W (rdE s) hn hS zC) ⟨zB,O,zB,O,T⟩ O)<|qU O<|zW O (qY O O O)<|yK O<|zY O O (yC O zr56) ?_
 rintro _ _ ⟨b2,rfl,rfl⟩
 refine D 0 v O<|G O<|zA<|zH<|Y O<|G O<|yN O<|zA<|zE O (fun c1=>?_) (fun c1=>?_)
 ·try simp only [sx] at c1
  refine Y O<|G O<|G O<|zA<|zU _ (Weak.mem [false,false,true,true,true,true] O)<|zJ<|zT O ?_
  exact ⟨by rw [storeE_1 c1],O⟩
 ·try simp only [sx] at c1
  have hT:=exprT_rd c1
  refine zI<|zH<|zH<|yS 12 1 [⟨0,.q []⟩,⟨1,.q []⟩,⟨2,.q []⟩,⟨3,.q [3]⟩,⟨4,.q []⟩,⟨5,.q [2]⟩,⟨6,.q []⟩,⟨7,.q []⟩,⟨8,.q []⟩,⟨9,.q []⟩,⟨10,.e 0 []⟩,⟨11,.e 0 []⟩] mixed uC uC O O O<|zQ O<|zQ O<|zQ O<|zQ O<|zQ O<|zQ O<|zQ O<|zQ O<|zQ O<|zQ O<|zQ O<|zQ O<|wS<|zX O uA O O (zP O O)<|zX O uA O O (qK O O)<|zX O uA O O (zF O zOx O)<|zX O uA O O (qA O zBm O (J 0 O) O)<|zX O uA O O (zF O zDg O)<|zX O uA O O (zK O one9 O (J 0 O) O)<|zX O uA O O (qS O ok247 (zAv n s.Name hn) ⟨zB,O,zB,O,T⟩)<|zX O uA O O (yW O O)<|zX O uA O O (qY O O O)<|zX O uA O O (kT O O O)<|zGj O O uA O O (qG [none,none,none,none,none,none,some 1,none] O zr66 O) ?_
  rintro _ _ ⟨b3,rfl,rfl⟩
  refine ⟨_,O,?_⟩
  refine zDx O O uA O O (yX O sz66 O O O (zDb 0 O O)) ?_
  rintro _ _ ⟨rfl,rfl⟩
  refine ⟨_,O,?_⟩
  refine wR O<|G O<|zA<|Y O<|zD O zMw<|zG one3 (J 0 O) O<|yJ O<|zA<|zE O (fun c2=>?_) (fun c2=>?_)
  ·try simp only [sx] at c2
   refine Y O<|G O<|zA<|zU _ (Weak.mem [false,false,false,true,true,true,true] O)<|zJ<|zT O ?_
   exact ⟨by rw [storeE_u c1 (.inl c2)],O⟩
  ·try simp only [sx] at c2
   refine zI<|zH<|Y O<|zD O zDh<|zG one3 (J 2 O) O<|yJ O<|G O<|rL0 O (fun g7_3=>zF O zPz O) O<|rL1 40 O (fun g7_3=>zK O one3 O (J 2 O) O) O<|rL1 41 O (fun g7_3=>zDk O O O) O<|rL1 42 O (fun g7_3=>zP O O) O<|rLz [] O gv2 T (fun g7_7=>zF O zPz O) O<|rLz [(44,_)] O gv2 ⟨O,O,T⟩ (fun g7_7=>zK O one3 O (J 2 O) O) O<|rLz [(45,_)] O gv2 ⟨O,O,T⟩ (fun g7_7=>yF O O O) O<|rL1 43 O (fun g7_3=>zAy O O O O (fun h=>kM uD (lzf h))) O<|kB O (fun h=>h)<|zA<|zE O (fun c3=>?_) (fun c3=>?_)
   ·try simp only [sx] at c3
    refine Y O<|G O<|zA<|zU _ (Weak.mem [false,false,false,true,true,true,true] O)<|zJ<|zT O ?_
    exact ⟨by rw [storeE_u c1 (.inr c3)],O⟩
   ·try simp only [sx] at c3
    refine zI<|Y O<|G O<|zD O zEn<|zM yU (J 2 O) O<|zW O (yG [3,3,3,3] O ok210 (zHv b svL svS svP n U S W s.E hn hS zC) ⟨zB,O,zB,O,T⟩ O)<|qU O<|zW O (qY O O O)<|yK O<|zY O O (yC O zr56) ?_
    rintro _ _ ⟨b4,rfl,rfl⟩
    refine D 0 v O<|G O<|zA<|zH<|Y O<|G O<|yN O<|zA<|zE O (fun c4=>?_) (fun c4=>?_)
    ·try simp only [sx] at c4
     refine Y O<|G O<|G O<|zA<|zU _ (Weak.mem [false,false,false,false,true,true,true,true] O)<|zJ<|zT O ?_
     exact ⟨by rw [storeE_2 c1 zC c4],O⟩
    ·try simp only [sx] at c4
     refine zI<|zH<|Y O<|zD O zEn<|zM yU (J 3 O) O<|qJ O ok179 (kY s.E) ⟨zB,O,T⟩<|G O<|rL0 O (fun g12_3=>qA O qZ O (J 0 O) O) O<|rL0 O (fun g12_3=>qA O qZ O (J 2 O) O) O<|rLz [(63,_),(64,_)] O gv1 ⟨O,O,O,O,T⟩ (fun g12_3=>zAr O fl56 O O O) O<|r_or O (fun h=>(lzf h))<|zA<|zE O (fun c5=>?_) (fun c5=>?_)
     ·have h10:=st10_t c5
      rw [hT] at h10
      refine Y O<|G O<|zA<|zU _ (Weak.mem [false,false,false,false,true,true,true,true] O)<|zJ<|zT O ?_
      exact ⟨by rw [storeE_10 c1 zC c4 h10],O⟩
     ·have h10:=st10_f c5
      rw [hT] at h10
      refine zI<|Y O<|G O<|zA<|zU _ (Weak.mem [false,false,false,false,true,true,true,true] O)<|zJ<|zT O ?_
      exact ⟨by rw [storeE_0 c1 zC c4 h10],O⟩
theorem ck_loop (b:Nat) (svL svS svP:Value) (n:Ns) (U S:List ByteArray) (W:List Int) (s:St) (hn:n.Ok) (hU:U.length<=1000000):
    Con cfg 209 [vP b,vSt s] (ckN b svL svS svP n U S W) fun r μ'=>r=vI (nZ n.Bufs U s)/\μ'=ckN b svL svS svP n U S W:=by
 refine zV Tryz.func209 O Tryz.ntmps209 Tryz.results209 O ?_
 intro z hz
 refine Y O<|zY O O (qL O O) ?_
 rintro _ _ ⟨b1,rfl,rfl⟩
 refine G O<|zA<|zH<|Y O<|zD O zDg<|zG one9 (J 0 O) O<|qJ O ok19 (zBr _) ⟨zB,O,T⟩<|kZ O<|zA<|zE O (fun c1=>?_) (fun c1=>?_)
 ·try simp only [sx] at c1
  refine Y O<|G O<|zA<|zU _ (Weak.mem [false,true,true,true,true] O)<|zJ<|zT O ?_
  exact ⟨by rw [loopE_7 c1],O⟩
 ·try simp only [sx] at c1
  refine zI<|zH<|zH<|yS 12 1 [⟨0,.q []⟩,⟨1,.q []⟩,⟨2,.q []⟩,⟨3,.q [2]⟩,⟨4,.q []⟩,⟨5,.q [1]⟩,⟨6,.q []⟩,⟨7,.q []⟩,⟨8,.q []⟩,⟨9,.q []⟩,⟨10,.e 0 []⟩,⟨11,.e 0 []⟩] mixed uC uC O O O<|zQ O<|zQ O<|zQ O<|zQ O<|zQ O<|zQ O<|zQ O<|zQ O<|zQ O<|zQ O<|zQ O<|zQ O<|wS<|zX O uA O O (zP O O)<|zX O uA O O (qK O O)<|zX O uA O O (zF O zOx O)<|zX O uA O O (qA O zBm O (J 0 O) O)<|zX O uA O O (zF O zDg O)<|zX O uA O O (zK O one9 O (J 0 O) O)<|zX O uA O O (qS O ok247 (zAv n s.Name hn) ⟨zB,O,zB,O,T⟩)<|zX O uA O O (yW O O)<|zX O uA O O (qY O O O)<|zX O uA O O (kT O O O)<|zGj O O uA O O (qG [none,none,none,none,none,none,some 1,none] O zr66 O) ?_
  rintro _ _ ⟨b2,rfl,rfl⟩
  refine ⟨_,O,?_⟩
  refine zDx O O uA O O (yX O sz66 O O O (zDb 0 O O)) ?_
  rintro _ _ ⟨rfl,rfl⟩
  refine ⟨_,O,?_⟩
  refine wR O<|G O<|zA<|zH<|yE 10 mixed uC O O<|zN O O (zP O O)<|zN O O (zP O O)<|qP [] O O O O gv1 T (fun g4_1=>zP O O) O<|qP [(23,_)] O O O O gv1 ⟨O,O,T⟩ (fun g4_1=>qK O O) O<|qP [(24,_)] O O O O gv1 ⟨O,O,T⟩ (fun g4_1=>zF O fd172_1 O) O<|qP [(25,_)] O O O O gv1 ⟨O,O,T⟩ (fun g4_1=>zK O zFu O (J 2 O) O) O<|qP [] O O O O gv1 T (fun g4_1=>zF O zDg O) O<|qP [(27,_)] O O O O gv1 ⟨O,O,T⟩ (fun g4_1=>zK O one9 O (J 1 O) O) O<|qP [(26,_),(28,_)] O O O O gv1 ⟨O,O,O,O,T⟩ (fun g4_1=>zNe 3 O ok44 O (zAh U s.Name zC) O ⟨.inl ⟨O,O⟩,.inr ⟨zB,O⟩,T⟩) O<|zN O O (zAy O O O O (fun h=>(lzf h)))<|kE<|zA<|zE O (fun c2=>?_) (fun c2=>?_)
  ·try simp only [sx] at c2
   refine Y O<|G O<|zA<|zU _ (Weak.mem [false,false,true,true,true,true] O)<|zJ<|zT O ?_
   exact ⟨by rw [loopE_8 c1 c2],O⟩
  ·try simp only [sx] at c2
   have h8:¬(fH n.Bufs s.Name=true∨bQ U s.Name=true):=by rw [c2.1,c2.2];simp
   refine zI<|zH<|Y O<|zD O zQa<|zG one3 (J 1 O) O<|yA O<|G O<|rL0 O (fun g6_3=>zF O zQa O) O<|rL1 35 O (fun g6_3=>zK O one3 O (J 1 O) O) O<|rL1 36 O (fun g6_3=>yF O O O) O<|r_or O (fun h=>(lzf h))<|G O<|rL0 O (fun g6_8=>zF O fd64_3 O) O<|rL1 40 O (fun g6_8=>zK O one3 O (J 1 O) O) O<|rL1 41 O (fun g6_8=>zDk O O O) O<|r_or O (fun h=>(lzf h))<|G O<|rL0 O (fun g6_13=>zF O fd64_3 O) O<|rL1 45 O (fun g6_13=>zK O one3 O (J 1 O) O) O<|rL1 46 O (fun g6_13=>yF O O O) O<|r_or O (fun h=>(lzf h))<|zA<|zE O (fun c3=>?_) (fun c3=>?_)
   ·try simp only [sx] at c3
    refine Y O<|G O<|zA<|zU _ (Weak.mem [false,false,true,true,true,true] O)<|zJ<|zT O ?_
    exact ⟨by rw [loopE_1 c1 h8 zC],O⟩
   ·try simp only [sx] at c3
    refine zI<|Y O<|G O<|zA<|zU _ (Weak.mem [false,false,true,true,true,true] O)<|zJ<|zT O ?_
    exact ⟨by rw [loopE_0 c1 h8 zC],O⟩
theorem zTe (e:Ex) (he:e.wt<=4294967296):
    Pur cfg 246 [vE e] (vB (sR e)):=by
 refine zV Tryz.func246 O Tryz.ntmps246 Tryz.results246 O ?_
 intro z hz
 refine Y O<|zY O O (qL O O) ?_
 rintro _ _ ⟨b1,rfl,rfl⟩
 refine G O<|zA<|Y O<|zM yU (J 0 O) O<|yZ [none,none,none,none,none,none,none,none,none,none,some 2,some 4,some 13] O zr62 pl62<|qJ O ok278 (expr_Same e zEx he uA) ⟨zB,O,zB,O,T⟩<|G O<|zA<|zJ<|zT O ?_
 exact O
theorem zTd (s:St) (hs:s.wt<=900000000):
    Pur cfg 208 [vSt s] (vB (gC s)):=by
 refine zV Tryz.func208 O Tryz.ntmps208 Tryz.results208 O ?_
 intro z hz
 obtain ⟨hE,hI,hIw,hB,hBw⟩:=St.parts hs
 refine Y O<|zY O O (qL O O) ?_
 rintro _ _ ⟨b1,rfl,rfl⟩
 refine G O<|zA<|zH<|yE 17 mixed uC O O<|zN O O (zF O zDh O)<|zN O O (zK O one3 O (J 0 O) O)<|zN O O (yR O O O)<|zN O O (zF O zDh O)<|zN O O (zK O one3 O (J 0 O) O)<|zN O O (yR O O O)<|zN O O (zP O O)<|qP [] O O O O gv1 T (fun g1_6=>zF O zDh O) O<|qP [(13,_)] O O O O gv1 ⟨O,O,T⟩ (fun g1_6=>zK O one3 O (J 0 O) O) O<|qP [(14,_)] O O O O gv1 ⟨O,O,T⟩ (fun g1_6=>yR O O O) O<|zN O O (zAy O O O O (fun h=>(lzf h)))<|zN O O (zF O zDh O)<|zN O O (zK O one3 O (J 0 O) O)<|zN O O (yR O O O)<|zN O O (yL O O)<|zN O O (yL O O)<|zN O O (yL O O)<|kE<|zA<|zH<|zR<|Y O<|G O<|kZ O<|G O<|rL0 O (fun g2_2=>zP O O) O<|rL1 24 O (fun g2_2=>wJ O O) O<|kB O (fun h=>h)<|G O<|rL0 O (fun g2_6=>zP O O) O<|rL1 28 O (fun g2_6=>wJ O O) O<|kB O (fun h=>h)<|G O<|zA<|zE O (fun c1=>?_) (fun c1=>?_)
 ·refine Y O<|G O<|zA<|zJ<|zT O ?_
  exact congrArg vB (syn_1 c1)
 ·refine Y O<|G O<|G O<|rL0 O (fun g4_1=>zF O zDg O) O<|rL1 34 O (fun g4_1=>zK O one9 O (J 0 O) O) O<|rL1 35 O (fun g4_1=>zEt O O O) O<|kB O (fun h=>h)<|G O<|zA<|zE O (fun c2=>?_) (fun c2=>?_)
  ·refine Y O<|G O<|zA<|zJ<|zT O ?_
   exact congrArg vB (syn_2 c2)
  ·refine Y O<|G O<|kZ O<|G O<|rL0 O (fun g6_2=>zF O zQa O) O<|rL1 42 O (fun g6_2=>zK O one3 O (J 0 O) O) O<|rL1 43 O (fun g6_2=>wM O O O) O<|rL1 44 O (fun g6_2=>zP O O) O<|rLz [] O gv2 T (fun g6_6=>zF O fd64_3 O) O<|rLz [(46,_)] O gv2 ⟨O,O,T⟩ (fun g6_6=>zK O one3 O (J 0 O) O) O<|rLz [(47,_)] O gv2 ⟨O,O,T⟩ (fun g6_6=>wM O O O) O<|rL1 45 O (fun g6_2=>zAy O O O O (fun h=>kM uD (lzf h))) O<|kB O (fun h=>h)<|G O<|zA<|zE O (fun c3=>?_) (fun c3=>?_)
   ·refine Y O<|G O<|zA<|zJ<|zT O ?_
    exact congrArg vB (syn_3 c3)
   ·refine Y O<|zD O zDh<|zG one3 (J 0 O) O<|yN O<|G O<|rL0 O (fun g8_3=>zF O zPz O) O<|rL1 56 O (fun g8_3=>zK O one3 O (J 0 O) O) O<|rL1 57 O (fun g8_3=>wM O O O) O<|kB O (fun h=>h)<|G O<|zA<|zE O (fun c4=>?_) (fun c4=>?_)
    ·refine Y O<|G O<|zA<|zJ<|zT O ?_
     exact congrArg vB (syn_4 c4)
    ·refine Y O<|G O<|kZ O<|G O<|rL0 O (fun g10_2=>zF O zPy O) O<|rL1 64 O (fun g10_2=>zK O wG O (J 0 O) O) O<|rL1 65 O (fun g10_2=>qT O N O) O<|rL1 66 O (fun g10_2=>yF O O O) O<|kB O (fun h=>h)<|G O<|zA<|zE O (fun c5=>?_) (fun c5=>?_)
     ·refine Y O<|G O<|zA<|zJ<|zT O ?_
      exact congrArg vB (syn_5 c5)
     ·refine Y O<|G O<|G O<|rL0 O (fun g12_1=>zF O zEn O) O<|rL1 72 O (fun g12_1=>qA O yU O (J 0 O) O) O<|rL1 73 O (fun g12_1=>qS O ok246 (zTe s.E zC) ⟨zB,O,T⟩) O<|rL1 74 O (fun g12_1=>wJ O O) O<|kB O (fun h=>h)<|G O<|zA<|zE O (fun c6=>?_) (fun c6=>?_)
      ·refine Y O<|G O<|zA<|zJ<|zT O ?_
       exact congrArg vB (syn_6 c6)
      ·refine zI<|Y O<|G O<|kZ O<|G O<|rL0 O (fun g14_2=>zF O zCy O) O<|rL1 80 O (fun g14_2=>zK O zBg O (J 0 O) O) O<|rL1 81 O (fun g14_2=>qT O L O) O<|rL1 82 O (fun g14_2=>yR O O O) O<|r_or O (fun h=>(lzf h))<|G O<|zA<|zJ<|zT O ?_
       exact congrArg vB (syn_7 c1 c2 c3 c4 c5 c6)
theorem ck_statement (b:Nat) (svL svS svP:Value) (n:Ns) (U S:List ByteArray) (W:List Int) (s:St) (hn:n.Ok) (hS:S.length<=1000000) (hU:U.length<=1000000) (hs:s.wt<=900000000):
    Con cfg 169 [vP b,vSt s] (ckN b svL svS svP n U S W) fun r μ'=>r=vI (stE n.Bufs U S s)/\μ'=ckN b svL svS svP n U S W:=by
 refine zV Tryz.func169 O Tryz.ntmps169 Tryz.results169 O ?_
 intro z hz
 obtain ⟨hE,hI,hIw,hB,hBw⟩:=St.parts hs
 refine Y O<|zY O O (qL O O) ?_
 rintro _ _ ⟨b1,rfl,rfl⟩
 refine G O<|zA<|zH<|Y O<|zM zLr (J 0 O) O<|qJ O ok208 (zTd s hs) ⟨zB,O,T⟩<|kZ O<|zA<|zE O (fun c1=>?_) (fun c1=>?_)
 ·try simp only [sx] at c1
  refine Y O<|G O<|zA<|zU _ (Weak.mem [false,true,true,true,true] O)<|zJ<|zT O ?_
  exact ⟨by rw [stE_5 c1],O⟩
 ·try simp only [sx] at c1
  refine zI<|zH<|Y O<|zD O zDh<|zG one3 (J 0 O) O<|zA<|zR<|Y O<|yJ O<|G O<|zA<|zE O (fun c2=>?_) (fun c2=>?_)
  ·try simp only [sx] at c2
   refine Y O<|G O<|zM zLr (J 0 O) O<|zW O (yG [1,1,1,1] O ok209 (ck_loop b svL svS svP n U S W s hn hU) ⟨zB,O,zB,O,T⟩ O)<|G O<|zA<|zU _ (Weak.mem [false,true,true,true,true] O)<|zJ<|zT O ?_
   exact ⟨by rw [stE_l c1 c2],O⟩
  ·try simp only [sx] at c2
   refine Y O<|yJ O<|G O<|zA<|zE O (fun c3=>?_) (fun c3=>?_)
   ·try simp only [sx] at c3
    refine zH<|Y O<|G O<|zD O zEn<|zM yU (J 0 O) O<|zW O (yG [1,1,1,1] O ok210 (zHv b svL svS svP n U S W s.E hn hS zC) ⟨zB,O,zB,O,T⟩ O)<|qU O<|zW O (qY O O O)<|yK O<|zY O O (yC O zr56) ?_
    rintro _ _ ⟨b2,rfl,rfl⟩
    refine D 0 v O<|G O<|zA<|Y O<|G O<|yN O<|zA<|zE O (fun c4=>?_) (fun c4=>?_)
    ·try simp only [sx] at c4
     refine Y O<|G O<|G O<|zA<|zU _ (Weak.mem [false,false,true,true,true,true] O)<|zJ<|zT O ?_
     exact ⟨by rw [stE_i c1 c3,ifE_x c4],O⟩
    ·try simp only [sx] at c4
     refine zI<|zH<|Y O<|zD O zEn<|zM yU (J 1 O) O<|qJ O ok179 (kY s.E) ⟨zB,O,T⟩<|kZ O<|zA<|zE O (fun c5=>?_) (fun c5=>?_)
     ·try simp only [sx] at c5
      refine Y O<|G O<|zA<|zU _ (Weak.mem [false,false,true,true,true,true] O)<|zJ<|zT O ?_
      exact ⟨by rw [stE_i c1 c3,ifE_10 c4 c5],O⟩
     ·try simp only [sx] at c5
      refine zI<|Y O<|G O<|zA<|zU _ (Weak.mem [false,false,true,true,true,true] O)<|zJ<|zT O ?_
      exact ⟨by rw [stE_i c1 c3,ifE_0 c4 c5],O⟩
   ·try simp only [sx] at c3
    refine zI<|Y O<|G O<|zM zLr (J 0 O) O<|zW O (yG [1,1,1,1] O ok211 (ck_store b svL svS svP n U S W s hn hS hs) ⟨zB,O,zB,O,T⟩ O)<|G O<|zA<|zU _ (Weak.mem [false,true,true,true,true] O)<|zJ<|zT O ?_
    exact ⟨by rw [stE_s c1 c2 c3],O⟩
set_option maxHeartbeats 2000000 in
theorem zGa (b:Nat) (svL svS svP:Value) (n:Ns) (U S:List ByteArray) (W:List Int) (l:List St) (hn:n.Ok) (hU:U.length+dN l<=1000000) (hS:S.length+dN l<=1000000) (hW:W.length+dN l<=1000000) (hl:bI l<=536870912) (ih:∀s,s∈l->∀(svL svS svP:Value) (U S:List ByteArray) (W:List Int),U.length+dN s.Body<=1000000->S.length+dN s.Body<=1000000->W.length+dN s.Body<=1000000->Con cfg 106 [vP b,fP s.Body] (ckN b svL svS svP n U S W) fun r μ'=>∃svL' svS' svP' U' S' W',r=vI (fL n.Bufs U S W 0 s.Body).E/\((fL n.Bufs U S W 0 s.Body).E=0->U'=(fL n.Bufs U S W 0 s.Body).U/\S'=S/\W'=W)/\(¬(fL n.Bufs U S W 0 s.Body).E=0->W'=(fL n.Bufs U S W 0 s.Body).W)/\μ'=ckN b svL' svS' svP' n U' S' W'):
    Con cfg 106 [vP b,fP l] (ckN b svL svS svP n U S W) fun r μ'=>∃svL' svS' svP' U' S' W',r=vI (fL n.Bufs U S W 0 l).E/\((fL n.Bufs U S W 0 l).E=0->U'=(fL n.Bufs U S W 0 l).U/\S'=S/\W'=W)/\(¬(fL n.Bufs U S W 0 l).E=0->W'=(fL n.Bufs U S W 0 l).W)/\μ'=ckN b svL' svS' svP' n U' S' W':=by
 refine zV Tryz.func106 O Tryz.ntmps106 Tryz.results106 O ?_
 intro z hz
 have hll:=zAt l
 have hlN:=zEr l
 refine Y O<|G O<|zA<|zH<|Y O<|G O<|qB O L<|G O<|zA<|zR<|zU ⟨[(12,.c _),(0,.c _),(1,.c _),(11,.c _)],[_,_,_,_]⟩ (Weak.mk [true,true,true,true] ⟨zB,zB,zB,zB,T⟩ O)<|qF 1 4 O O (Nat×Value×Value×Value×List ByteArray) (fun ⟨k,vL,vS,vP_,u⟩=>[(12,vI k)]) (fun ⟨k,vL,vS,vP_,u⟩=>[E.row b 172 [.sl 8 (n.Bufs.map Bf.cells),.sl 20 (n.Body.map St.cells),.lit vL,.lit vS,.lit vP_],E.vec vL 9 1 (u.map fun s=>[cS s]),E.vec vS 9 1 (S.map fun s=>[cS s]),E.vec vP_ 3 1 (W.map fun i=>[cI i])]) (fun ⟨k,vL,vS,vP_,u⟩=>k<=l.length/\(u.length+dN (l.drop k)<=1000000)/\((fL n.Bufs U S W 0 l)=fL n.Bufs u S W k (l.drop k))) (fun ⟨k,vL,vS,vP_,u⟩=>l.length-k) ⟨⟨0,svL,svS,svP,U⟩,⟨zC,by simpa using hU,O⟩,Weak.mk [true,true,true,true] ⟨zB,zB,zB,zB,T⟩ O⟩ ?_
 rintro ⟨k,vL,vS,vP_,u⟩ ⟨hk,hub,hp⟩
 show AWP _ _ _ _ _ ⟨[(12,vI k)]++_,[E.row b 172 [.sl 8 (n.Bufs.map Bf.cells),.sl 20 (n.Body.map St.cells),.lit vL,.lit vS,.lit vP_],E.vec vL 9 1 (u.map fun s=>[cS s]),E.vec vS 9 1 (S.map fun s=>[cS s]),E.vec vP_ 3 1 (W.map fun i=>[cI i])]++_⟩
 refine Y O<|yA O<|zA<|zH<|zE O (fun c1=>?_) (fun c1=>?_)
 ·try simp only [sx] at c1
  obtain ⟨s,hs⟩:=qV l k zC
  have hsw:=zAb (qC hs)
  have hsb:=St.body_wt s
  have hsn:=stsN_drop hs
  have hse:=zPp s
  have hsm:=zQv (qC hs)
  have hcl:=chkS_len n.Bufs s u S (W++[(k:Int)])
  refine zI<|zH<|zR<|Y O<|G O<|G O<|zA<|Y O<|G O<|G O<|qE O L zC (zCq uD)<|zM zLr qD O<|zY O O (qG [none,none,none,none,none,some 4,none,none,none,none,none,none,none,none,none,none,some 2,some 4,some 13,some 20] O zr64 O) ?_
  rintro _ _ ⟨b1,rfl,rfl⟩
  refine D 0 sz64 O<|zA<|Y O<|G O<|G O<|zS O<|zD O zHo<|zG zMf (J 1 O) O<|G O<|kA O el46 zr3<|zY O O (yH 4 O el46 O O O uB uB) ?_
  rintro _ _ ⟨sv2,rfl,rfl⟩
  refine zS O<|zD O zHo<|D 1 sz46 O<|zA<|zH<|zH<|zU _ (Weak.vecEq 4 O (rows':=(W++[(k:Int)]).map fun i=>[cI i]) uK)<|zO O<|G O<|zM zLr (J 0 O) O<|zW O (yG [1,1,1,1] O ok169 (ck_statement b vL vS _ n u S (W++[(k:Int)]) s hn zC zC zC) ⟨zB,O,zB,O,T⟩ O)<|G O<|zA<|Y O<|G O<|yN O<|zA<|zE O (fun c2=>?_) (fun c2=>?_)
  ·try simp only [sx] at c2
   have hx0:=chkS_no (here:=W++[(k:Int)]) (B:=n.Bufs) (U:=u) (sc:=S) (s:=s) c2
   refine Y O<|G O<|G O<|zA<|zU _ (Weak.mem [false,true,true,true,true] O)<|zJ<|zT O ?_
   refine ⟨_,_,_,_,_,_,?_,fun h0=>?_,fun _=>?_,O⟩
   · rw [zEj hs hp (by rw [hx0];exact c2),hx0]
   · rw [zEj hs hp (by rw [hx0];exact c2),hx0] at h0;exact absurd h0 c2
   · rw [zEj hs hp (by rw [hx0];exact c2),hx0]
  ·try simp only [sx] at c2
   have hin:=chkS_in (here:=W++[(k:Int)]) (B:=n.Bufs) (U:=u) (sc:=S) (s:=s) c2
   refine zI<|Y O<|G O<|zS O<|zD O zJp<|zG zFu (J 1 O) O<|zW O (kK 3 O el25 O O)<|G O<|zA<|zH<|Y O<|zD O zDh<|zG one3 (J 0 O) O<|yJ O<|zA<|zE O (fun c3=>?_) (fun c3=>?_)
   ·try simp only [sx] at c3
    rw [zMi c3,zMi c3] at hin
    refine zH<|yS 9 0 [⟨0,.q []⟩,⟨1,.q []⟩,⟨2,.q []⟩,⟨3,.q []⟩,⟨4,.q [1]⟩,⟨5,.q []⟩,⟨6,.q [0]⟩,⟨7,.q []⟩,⟨8,.e 2 []⟩] mixed uC uC O O O<|zQ O<|zQ O<|zQ O<|zQ O<|zQ O<|zQ O<|zQ O<|zQ O<|zQ O<|wS<|zX O uA O O (zP O O)<|zX O uA O O (zP O O)<|zX O uA O O (qK O O)<|zX O uA O O (zF O fd172_1 O)<|zX O uA O O (zK O zFu O (J 0 O) O)<|zX O uA O O (zF O zDg O)<|zX O uA O O (zK O one9 O (J 0 O) O)<|zX O uA O O (wL O el25 zr9 O O O O)<|zGj O O uA O O (yH 0 O el25 O O O uB uB) ?_
    rintro _ _ ⟨sv3,rfl,rfl⟩
    refine ⟨_,O,?_⟩
    refine wR O<|zS O<|zD O fd172_1<|D 1 sz25 O<|zA<|zU _ (Weak.vecEq 2 O (rows':=(u++[s.Name]).map fun s=>[cS s]) uK)<|yS 9 0 [⟨0,.q []⟩,⟨1,.q []⟩,⟨2,.q []⟩,⟨3,.q []⟩,⟨4,.q [1]⟩,⟨5,.q []⟩,⟨6,.q [0]⟩,⟨7,.q []⟩,⟨8,.e 3 []⟩] mixed uC uC O O O<|zQ O<|zQ O<|zQ O<|zQ O<|zQ O<|zQ O<|zQ O<|zQ O<|zQ O<|wS<|zX O uA O O (zP O O)<|zX O uA O O (zP O O)<|zX O uA O O (qK O O)<|zX O uA O O (zF O zJp O)<|zX O uA O O (zK O zFu O (J 0 O) O)<|zX O uA O O (zF O zDg O)<|zX O uA O O (zK O one9 O (J 0 O) O)<|zX O uA O O (wL O el25 zr9 O O O O)<|zGj O O uA O O (yH 0 O el25 O O O uB uB) ?_
    rintro _ _ ⟨sv4,rfl,rfl⟩
    refine ⟨_,O,?_⟩
    refine wR O<|zS O<|zD O zJp<|D 1 sz25 O<|zA<|zH<|zH<|zU _ (Weak.vecEq 3 O (rows':=(S++[s.Name]).map fun s=>[cS s]) uK)<|zU ⟨_,E.row _ _ _::ckN b _ _ _ n (u++[s.Name]) (S++[s.Name]) (W++[(k:Int)])⟩ (Weak.mem [true,true,true,true,true] O)<|zO O<|G O<|zD O zCy<|zG zBg (J 0 O) O<|zY O O (zIy [1,1,1,1] O ok106 (ih s (qC hs) _ _ _ (u++[s.Name]) (S++[s.Name]) (W++[(k:Int)]) (by first|omega|(simp;omega)) (by first|omega|(simp;omega)) uF) ⟨zB,O,zB,O,T⟩ O) ?_
    rintro _ _ ⟨_,⟨svL1,svS1,svP1,U1,S1,W1,rfl,hok,hno,rfl⟩,rfl⟩
    refine G O<|zA<|Y O<|G O<|yN O<|zA<|zE O (fun c4=>?_) (fun c4=>?_)
    ·exact v17
    ·try simp only [sx] at c4
     rw [←hin] at c4 hok
     obtain ⟨hU1,hS1,hW1⟩:=hok c4
     have hS2:=hS1.symm
     subst hU1 hS2 hW1
     refine zI<|Y O<|G O<|G O<|zS O<|zD O zJp<|zG zFu (J 1 O) O<|G O<|zY O O (zHg (k:=S.length) 3 O el25 O O O uG uG) ?_
     rintro _ _ ⟨sv5,rfl,rfl⟩
     refine zS O<|zD O zJp<|D 1 sz25 O<|zA<|zU _ (Weak.vecEq 3 O (rows':=S.map fun s=>[cS s]) uK)<|yS 12 0 [⟨0,.q []⟩,⟨1,.q []⟩,⟨2,.q []⟩,⟨3,.q []⟩,⟨4,.q [1]⟩,⟨5,.q []⟩,⟨6,.q []⟩,⟨7,.q []⟩,⟨8,.q [1]⟩,⟨9,.q [4]⟩,⟨10,.q []⟩,⟨11,.e 4 []⟩] mixed uC uC O O O<|zQ O<|zQ O<|zQ O<|zQ O<|zQ O<|zQ O<|zQ O<|zQ O<|zQ O<|zQ O<|zQ O<|zQ O<|wS<|zX O uA O O (zP O O)<|zX O uA O O (zP O O)<|zX O uA O O (qK O O)<|zX O uA O O (zF O zHo O)<|zX O uA O O (zK O zMf O (J 0 O) O)<|zX O uA O O (zP O O)<|zX O uA O O (qK O O)<|zX O uA O O (zF O zHo O)<|zX O uA O O (zK O zMf O (J 0 O) O)<|zX O uA O O (kK 0 O el46 O O)<|zX O uA O O (yM O O O (by simp only [List.length_map,List.length_append,List.length_cons,List.length_nil];exact ⟨zC,zC⟩))<|zGj O O uA O O (zHg (k:=W.length) 0 O el46 O O O uB uG) ?_
     rintro _ _ ⟨sv6,rfl,rfl⟩
     exact l9
   ·try simp only [sx] at c3
    rw [zQy c3,zQy c3] at hin
    refine zI<|zH<|zH<|zU ⟨_,E.row _ _ _::ckN b _ _ _ n u S (W++[(k:Int)])⟩ (Weak.mem [true,true,true,true,true] O)<|zO O<|G O<|zD O zCy<|zG zBg (J 0 O) O<|zY O O (zIy [1,1,1,1] O ok106 (ih s (qC hs) _ _ _ u S (W++[(k:Int)]) (by first|omega|(simp;omega)) (by first|omega|(simp;omega)) uF) ⟨zB,O,zB,O,T⟩ O) ?_
    rintro _ _ ⟨_,⟨svL1,svS1,svP1,U1,S1,W1,rfl,hok,hno,rfl⟩,rfl⟩
    refine G O<|zA<|Y O<|G O<|yN O<|zA<|zE O (fun c4=>?_) (fun c4=>?_)
    ·exact v17
    ·try simp only [sx] at c4
     rw [←hin] at c4 hok
     obtain ⟨hU1,hS1,hW1⟩:=hok c4
     have hS2:=hS1.symm
     subst hU1 hS2 hW1
     refine zI<|Y O<|G O<|G O<|zS O<|zD O zJp<|zG zFu (J 1 O) O<|G O<|zY O O (zHg (k:=S.length) 3 O el25 O O O uG uG) ?_
     rintro _ _ ⟨sv7,rfl,rfl⟩
     refine zS O<|zD O zJp<|D 1 sz25 O<|zA<|zU _ (Weak.vecEq 3 O (rows':=S.map fun s=>[cS s]) uK)<|yS 12 0 [⟨0,.q []⟩,⟨1,.q []⟩,⟨2,.q []⟩,⟨3,.q []⟩,⟨4,.q [1]⟩,⟨5,.q []⟩,⟨6,.q []⟩,⟨7,.q []⟩,⟨8,.q [1]⟩,⟨9,.q [4]⟩,⟨10,.q []⟩,⟨11,.e 4 []⟩] mixed uC uC O O O<|zQ O<|zQ O<|zQ O<|zQ O<|zQ O<|zQ O<|zQ O<|zQ O<|zQ O<|zQ O<|zQ O<|zQ O<|wS<|zX O uA O O (zP O O)<|zX O uA O O (zP O O)<|zX O uA O O (qK O O)<|zX O uA O O (zF O zHo O)<|zX O uA O O (zK O zMf O (J 0 O) O)<|zX O uA O O (zP O O)<|zX O uA O O (qK O O)<|zX O uA O O (zF O zHo O)<|zX O uA O O (zK O zMf O (J 0 O) O)<|zX O uA O O (kK 0 O el46 O O)<|zX O uA O O (yM O O O (by simp only [List.length_map,List.length_append,List.length_cons,List.length_nil];exact ⟨zC,zC⟩))<|zGj O O uA O O (zHg (k:=W.length) 0 O el46 O O O uB uG) ?_
     rintro _ _ ⟨sv8,rfl,rfl⟩
     exact l9
 ·try simp only [sx] at c1
  refine qM<|Y O<|G O<|zA<|zJ<|zT O ?_
  refine ⟨_,_,_,_,_,_,?_,fun _=>⟨?_,O,O⟩,fun h0=>?_,O⟩
  · rw [zRj hp zC]
  · rw [zRj hp zC]
  · rw [zRj hp zC] at h0;exact absurd rfl h0
theorem zNk (b:Nat) (n:Ns) (hn:n.Ok) (s:St) (hl:bI s.Body<=536870912):∀(svL svS svP:Value) (U S:List ByteArray) (W:List Int),U.length+dN s.Body<=1000000->S.length+dN s.Body<=1000000->W.length+dN s.Body<=1000000->Con cfg 106 [vP b,fP s.Body] (ckN b svL svS svP n U S W) fun r μ'=>∃svL' svS' svP' U' S' W',r=vI (fL n.Bufs U S W 0 s.Body).E/\((fL n.Bufs U S W 0 s.Body).E=0->U'=(fL n.Bufs U S W 0 s.Body).U/\S'=S/\W'=W)/\(¬(fL n.Bufs U S W 0 s.Body).E=0->W'=(fL n.Bufs U S W 0 s.Body).W)/\μ'=ckN b svL' svS' svP' n U' S' W':=by
  induction s using St.ind with
  |_ s ih=>
    intro svL svS svP U S W hU hS hW
    refine zGa b svL svS svP n U S W s.Body hn hU hS hW hl fun a ha=>ih a ha ?_
    have:=zAb ha;have:=St.body_wt a;omega
theorem ck_statements (b:Nat) (svL svS svP:Value) (n:Ns) (U S:List ByteArray) (W:List Int) (l:List St) (hn:n.Ok) (hU:U.length+dN l<=1000000) (hS:S.length+dN l<=1000000) (hW:W.length+dN l<=1000000) (hl:bI l<=536870912):Con cfg 106 [vP b,fP l] (ckN b svL svS svP n U S W) fun r μ'=>∃svL' svS' svP' U' S' W',r=vI (fL n.Bufs U S W 0 l).E/\((fL n.Bufs U S W 0 l).E=0->U'=(fL n.Bufs U S W 0 l).U/\S'=S/\W'=W)/\(¬(fL n.Bufs U S W 0 l).E=0->W'=(fL n.Bufs U S W 0 l).W)/\μ'=ckN b svL' svS' svP' n U' S' W':=
  zGa b svL svS svP n U S W l hn hU hS hW hl fun s hs=>zNk b n hn s (by have:=zAb hs;have:=St.body_wt s;omega)
theorem zOs (n:Ns) (hn:n.Ok):
    Pur cfg 45 [vNs n] (.tup [vIs (gL n).1,vI (gL n).2]):=by
 refine zV Tryz.func45 O Tryz.ntmps45 Tryz.results45 O ?_
 intro z hz
 have hnb:=hn.body
 refine Y O<|zY O O (qL O O) ?_
 rintro _ _ ⟨b1,rfl,rfl⟩
 refine qX 1 O<|G O<|zA<|zH<|Y O<|zD O zBt<|zG zBg (J 0 O) O<|qJ O ok103 (zTc 40 n.Body 40 zC zC O) ⟨zB,O,zB,O,T⟩<|kZ O<|zA<|zE O (fun c1=>?_) (fun c1=>?_)
 ·try simp only [sx] at c1
  refine Y O<|qX 1 O<|G O<|zA<|zJ<|fin2 (rs_c O) (rs_c O) ?_
  rw [validN_13 c1];rfl
 ·try simp only [sx] at c1
  refine zI<|zH<|Y O<|zD O zBt<|zG zBg (J 0 O) O<|qJ O ok104 (zMq n.Body 2000 2000 zC zC O) ⟨zB,O,zB,O,T⟩<|zW O (yF O O O)<|G O<|rL0 O (fun g3_4=>zF O zAx O) O<|rL1 16 O (fun g3_4=>zK O zFg O (J 0 O) O) O<|rL1 17 O (fun g3_4=>qT O el39 O) O<|rL1 18 O (fun g3_4=>yF O O O) O<|r_or O (fun h=>(lzf h))<|zA<|zE O (fun c2=>?_) (fun c2=>?_)
  ·try simp only [sx] at c2
   refine Y O<|qX 1 O<|G O<|zA<|zJ<|fin2 (rs_c O) (rs_c O) ?_
   rw [validN_2 c1 zC];rfl
  ·try simp only [sx] at c2
   have hnum:=numB_ok (l:=n.Body) (m:=2000) zC
   refine zI<|zH<|Y O<|zD O zAx<|zG zFg (J 0 O) O<|qJ O ok105 (zJh n.Bufs hn.bufs hn.dims) ⟨zB,O,T⟩<|G O<|zA<|Y O<|G O<|yN O<|zA<|zE O (fun c3=>?_) (fun c3=>?_)
   ·try simp only [sx] at c3
    refine Y O<|G O<|qX 1 O<|G O<|zA<|zJ<|fin2 (rs_c O) (rs_c O) ?_
    rw [validN_b c1 zC c3];rfl
   ·try simp only [sx] at c3
    refine zI<|Y O<|zM zBm (J 0 O) O<|yI O zr172 pl172<|zY O O (qL O O) ?_
    rintro _ _ ⟨b2,rfl,rfl⟩
    refine yT _ (kO 9 1)<|yT _ (kO 9 1)<|yT _ (kO 3 1)<|G O<|zA<|zH<|Y O<|G O<|zD O zBt<|zG zBg (J 4 O) O<|zY O O (zIy [3,2,1,0] O ok106 (ck_statements b2 _ _ _ n [] [] [] n.Body hn uF uF uF hnb) ⟨zB,O,zB,O,T⟩ O) ?_
    rintro _ _ ⟨_,⟨svL1,svS1,svP1,U1,S1,W1,rfl,hok,hno,rfl⟩,rfl⟩
    refine G O<|zA<|Y O<|G O<|yN O<|zA<|zE O (fun c4=>?_) (fun c4=>?_)
    ·try simp only [sx] at c4
     have hW1:=hno c4
     subst hW1
     refine zU _ (yO 0 O (regs':=[]) (μ':=[_,_,_,_]) T ⟨EFle.refl _,EFle.refl _,EFle.row (ds:=[_,_,_,_,_]) ⟨.inl O,.inl O,.inl O,.inl O,.inr ⟨O,O⟩,T⟩,EFle.refl _,T⟩)<|Y O<|G O<|zS O<|zD O zHo<|zG zMf (J 2 O) O<|G O<|G O<|G O<|zA<|zJ<|fin2 (rs_c O) (rs_c O) ?_
     rw [validN_c c1 zC c3]
    ·try simp only [sx] at c4
     refine zI<|Y O<|qX 1 O<|G O<|zA<|zJ<|fin2 (rs_c O) (rs_c O) ?_
     rw [validN_c c1 zC c3,chkL_ok c4,c4];rfl
end Go.W
