/-
  Walks: what functions of the program compute. Printed by wip/gen/mk2.py.
  Conditions: none.
-/
import Derived.Test.YtgfomfnjionbeaaGreatDoorNA
set_option linter.unusedSimpArgs false
set_option linter.unusedVariables false
set_option maxRecDepth 10000
namespace Go.W
open Go Go.Eng Go.Proofs Go.L41 Go.Br
attribute [local irreducible] AWP RWP TD finQ
abbrev ckN (b:Nat) (svL svS svP:Value) (n:Ns) (U S:List ByteArray) (W:List Int):List E:=
  [.row b 172 [.sl 8 (n.Bufs.map Bf.cells),.sl 20 (n.Body.map St.cells),.lit svL,.lit svS,.lit svP],.vec svL 9 1 (U.map fun s=>[cS s]),.vec svS 9 1 (S.map fun s=>[cS s]),.vec svP 3 1 (W.map fun i=>[cI i])]
abbrev vP (b:Nat):V:=.c (.lit (.pointer (some ⟨b,0,none⟩)))
theorem zGw:aggT Tryz.prog 41=some 2:=by kernel_rfl
theorem zNt:aggT Tryz.prog 64=some 20:=by kernel_rfl
theorem zCg:fieldT Tryz.prog 41 1=some (1,33):=by kernel_rfl
theorem zHz:fieldT Tryz.prog 64 0=some (0,3):=by kernel_rfl
theorem zHy:fieldT Tryz.prog 64 1=some (1,9):=by kernel_rfl
theorem fd64_2:fieldT Tryz.prog 64 2=some (2,3):=by kernel_rfl
theorem fd64_3:fieldT Tryz.prog 64 3=some (3,3):=by kernel_rfl
theorem fd64_4:fieldT Tryz.prog 64 4=some (4,3):=by kernel_rfl
theorem fd64_5:fieldT Tryz.prog 64 5=some (5,52):=by kernel_rfl
theorem zHx:fieldT Tryz.prog 64 6=some (6,62):=by kernel_rfl
theorem zMp:fieldT Tryz.prog 172 0=some (0,41):=by kernel_rfl
theorem fd172_1:fieldT Tryz.prog 172 1=some (2,25):=by kernel_rfl
theorem zIb:fieldT Tryz.prog 172 2=some (3,25):=by kernel_rfl
theorem zFz:fieldT Tryz.prog 172 3=some (4,46):=by kernel_rfl
theorem ok105:callOk Tryz.prog 105=true:=by kernel_rfl
theorem ok106:callOk Tryz.prog 106=true:=by kernel_rfl
theorem ok169:callOk Tryz.prog 169=true:=by kernel_rfl
theorem ok208:callOk Tryz.prog 208=true:=by kernel_rfl
theorem ok209:callOk Tryz.prog 209=true:=by kernel_rfl
theorem ok210:callOk Tryz.prog 210=true:=by kernel_rfl
theorem ok211:callOk Tryz.prog 211=true:=by kernel_rfl
theorem ok246:callOk Tryz.prog 246=true:=by kernel_rfl
theorem ok247:callOk Tryz.prog 247=true:=by kernel_rfl
theorem ok248:callOk Tryz.prog 248=true:=by kernel_rfl
theorem ok249:callOk Tryz.prog 249=true:=by kernel_rfl
theorem ok278:callOk Tryz.prog 278=true:=by kernel_rfl
theorem ok279:callOk Tryz.prog 279=true:=by kernel_rfl
theorem ok280:callOk Tryz.prog 280=true:=by kernel_rfl
theorem ok281:callOk Tryz.prog 281=true:=by kernel_rfl
theorem ok300:callOk Tryz.prog 300=true:=by kernel_rfl
theorem ok301:callOk Tryz.prog 301=true:=by kernel_rfl
theorem ok302:callOk Tryz.prog 302=true:=by kernel_rfl
theorem zNd:oneT Tryz.prog 170=true:=by kernel_rfl
theorem pl172:placesT Tryz.prog 172=some [(0,2),(2,1),(3,1),(4,1)]:=by kernel_rfl
theorem sz25:(Tryz.prog.info? 25).map (·.size)=some 1:=by kernel_rfl
theorem sz64:(Tryz.prog.info? 64).map (·.size)=some 20:=by kernel_rfl
theorem zr64:zeroT Tryz.prog 64=some [(Value.int IntKind.i64 0),(Value.string (ByteArray.mk #[])),(Value.int IntKind.i64 0),(Value.int IntKind.i64 0),(Value.int IntKind.i64 0),(Value.slice none 0 0),(Value.int IntKind.i64 0),(Value.string (ByteArray.mk #[])),(Value.int IntKind.i64 0),(Value.int IntKind.i64 0),(Value.int IntKind.i64 0),(Value.int IntKind.i64 0),(Value.int IntKind.i64 0),(Value.int IntKind.i64 0),(Value.int IntKind.i64 0),(Value.int IntKind.i64 0),(Value.slice none 0 0),(Value.slice none 0 0),(Value.slice none 0 0),(Value.slice none 0 0)]:=by kernel_rfl
theorem zr172:zeroT Tryz.prog 172=some [(Value.slice none 0 0),(Value.slice none 0 0),(Value.slice none 0 0),(Value.slice none 0 0),(Value.slice none 0 0)]:=by kernel_rfl
theorem zGr (l:List Mono) (c:C) (p:Mono->Bool) (μ:List E) (hl:l.length<=4294967296) (hc:∀x,x∈l->FnCon cfg c [vMono x] μ fun r μ'=>r=vB (p x)/\μ'=μ):
    Con cfg 315 [vMonos l,.c c] μ fun r μ'=>r=vI (idxOf p l)/\μ'=μ:=by
 refine zW Tryz.func315 O Tryz.ntmps315 Tryz.results315 O ?_
 intro z hz
 refine Y O<|G O<|zA<|zH<|Y O<|G O<|qB O U<|G O<|zA<|zT<|zU ⟨[(8,.c _),(0,.c _),(1,.c _),(7,.c _)],_⟩ (Weak.regs ⟨zB,zB,zB,zB,T⟩)<|zDp 1 O (Nat) (fun k=>[(8,vI k)]) (fun k=>μ) (fun k=>k<=l.length/\((l.take k).any p=false)) (fun k=>l.length-k) ⟨0,⟨by omega,O⟩,Weak.regs ⟨zB,zB,zB,zB,T⟩⟩ ?_
 rintro k ⟨hk,hp⟩
 refine Y O<|yB O<|zA<|zH<|zE O (fun c1=>?_) (fun c1=>?_)
 ·try simp only [sx] at c1
  obtain ⟨x,hx⟩:=yD l k (by omega)
  refine zF<|zH<|zT<|Y O<|G O<|G O<|zA<|Y O<|G O<|G O<|G O<|qD O U (by omega) (getm (by assumption))<|zM zEf qH O<|zZ O O (wU O O (hc _ (qC hx)) ⟨zB,O,T⟩) ?_
  exact l6
 ·try simp only [sx] at c1
  refine qP<|Y O<|G O<|zA<|zG<|zV O ?_
  exact ⟨by rw [zAu (by rw [yC (by omega)] at hp;exact hp)],O⟩
theorem zEs (l:List Mono) (c:C) (p:Mono->Bool) (μ:List E) (hl:l.length<=4294967296) (hc:∀x,x∈l->FnCon cfg c [vMono x] μ fun r μ'=>r=vB (p x)/\μ'=μ):
    Con cfg 300 [vMonos l,.c c] μ fun r μ'=>r=vB (l.any p)/\μ'=μ:=by
 refine zW Tryz.func300 O Tryz.ntmps300 Tryz.results300 O ?_
 intro z hz
 refine Y O<|G O<|zA<|Y O<|G O<|G O<|zZ O O (zCs O ok315 (zGr l c p μ hl hc) ⟨zB,O,zB,O,T⟩) ?_
 rintro _ _ ⟨rfl,rfl⟩
 refine zR O (wT O O O)<|G O<|zA<|zG<|zV O ?_
 exact ⟨by rw [zKs],O⟩
theorem zIv (l:List Lf) (c:C) (p:Lf->Bool) (μ:List E) (hl:l.length<=4294967296) (hc:∀x,x∈l->FnCon cfg c [vLin x] μ fun r μ'=>r=vB (p x)/\μ'=μ):
    Con cfg 302 [vLins l,.c c] μ fun r μ'=>r=vI (idxOf p l)/\μ'=μ:=by
 refine zW Tryz.func302 O Tryz.ntmps302 Tryz.results302 O ?_
 intro z hz
 refine Y O<|G O<|zA<|zH<|Y O<|G O<|qB O el72<|G O<|zA<|zT<|zU ⟨[(8,.c _),(0,.c _),(1,.c _),(7,.c _)],_⟩ (Weak.regs ⟨zB,zB,zB,zB,T⟩)<|zDp 1 O (Nat) (fun k=>[(8,vI k)]) (fun k=>μ) (fun k=>k<=l.length/\((l.take k).any p=false)) (fun k=>l.length-k) ⟨0,⟨by omega,O⟩,Weak.regs ⟨zB,zB,zB,zB,T⟩⟩ ?_
 rintro k ⟨hk,hp⟩
 refine Y O<|yB O<|zA<|zH<|zE O (fun c1=>?_) (fun c1=>?_)
 ·try simp only [sx] at c1
  obtain ⟨x,hx⟩:=yD l k (by omega)
  refine zF<|zH<|zT<|Y O<|G O<|G O<|zA<|Y O<|G O<|G O<|G O<|qD O el72 (by omega) (getm (by assumption))<|zM kE qH O<|zZ O O (wU O O (hc _ (qC hx)) ⟨zB,O,T⟩) ?_
  exact l6
 ·try simp only [sx] at c1
  refine qP<|Y O<|G O<|zA<|zG<|zV O ?_
  exact ⟨by rw [zAu (by rw [yC (by omega)] at hp;exact hp)],O⟩
theorem zFq (l:List Lf) (c:C) (p:Lf->Bool) (μ:List E) (hl:l.length<=4294967296) (hc:∀x,x∈l->FnCon cfg c [vLin x] μ fun r μ'=>r=vB (p x)/\μ'=μ):
    Con cfg 280 [vLins l,.c c] μ fun r μ'=>r=vB (l.any p)/\μ'=μ:=by
 refine zW Tryz.func280 O Tryz.ntmps280 Tryz.results280 O ?_
 intro z hz
 refine Y O<|G O<|zA<|Y O<|G O<|G O<|zZ O O (zCs O ok302 (zIv l c p μ hl hc) ⟨zB,O,zB,O,T⟩) ?_
 rintro _ _ ⟨rfl,rfl⟩
 refine zR O (wT O O O)<|G O<|zA<|zG<|zV O ?_
 exact ⟨by rw [zKs],O⟩
theorem inScope_1 (b:Nat) (svL svS svP:Value) (n:Ns) (U S:List ByteArray) (W:List Int) (m:Mono) (hS:S.length<=1000000):
    Con cfg 301 [vMono m,.c (.iptr [.lit (.pointer (some ⟨b,0,none⟩))])] (ckN b svL svS svP n U S W) fun r μ'=>r=vB (!hasB S m.Name)/\μ'=ckN b svL svS svP n U S W:=by
 refine zW Tryz.func301 O Tryz.ntmps301 Tryz.results301 O ?_
 intro z hz
 refine Y O<|zZ O O (qO O O) ?_
 rintro _ _ ⟨b1,rfl,rfl⟩
 refine G O<|zA<|zH<|yL 6 mixed (by kernel_rfl) O O<|zQ O O (zK O zNd O qH O)<|zQ O O (qG O O)<|zQ O O (zJ O zIb O)<|zQ O O (zK O zGt O (J 1 O) O)<|zQ O O (zJ O wS O)<|zQ O O (zK O one9 O (J 0 O) O)<|kL<|zR O (zLc 3 O ok44 O (wL S m.Name (by omega)) O ⟨.inl ⟨O,O⟩,.inr ⟨zB,O⟩,T⟩)<|wG O<|G O<|zA<|zU _ (Weak.mem [false,true,true,true,true] O)<|zG<|zV O ?_
 exact ⟨O,O⟩
theorem zMw (b:Nat) (svL svS svP:Value) (n:Ns) (U S:List ByteArray) (W:List Int) (l:Lf) (hS:S.length<=1000000) (hl:l.L.length<=4294967296):
    Con cfg 279 [vP b,vLin l] (ckN b svL svS svP n U S W) fun r μ'=>r=vB (inSc S l)/\μ'=ckN b svL svS svP n U S W:=by
 refine zW Tryz.func279 O Tryz.ntmps279 Tryz.results279 O ?_
 intro z hz
 refine Y O<|zZ O O (qO O O) ?_
 rintro _ _ ⟨b1,rfl,rfl⟩
 refine yK _ (yZ 0 O 2 _ PLe.ptr)<|zZ O O (qO O O) ?_
 rintro _ _ ⟨b2,rfl,rfl⟩
 refine G O<|zA<|Y O<|zD O zAe<|zI zEg (J 0 O) O<|zR O (zCw O O O O O)<|zR O (qY [1,1,1,1] O ok300 (zEs l.L _ (fun m=> !hasB S m.Name) (ckN b svL svS svP n U S W) hl (fun m _=>FnCon.of_con (first:=[]) (cap:=[.iptr [.lit (.pointer (some ⟨b,0,none⟩))]]) ok301 (inScope_1 b svL svS svP n U S W m hS))) ⟨zB,O,zB,O,T⟩ O)<|wG O<|G O<|zA<|zU _ (Weak.mem [false,true,true,true,true] O)<|zG<|zV O ?_
 exact ⟨by rw [zHi];rfl,O⟩
theorem node_1 (b:Nat) (svL svS svP:Value) (n:Ns) (U S:List ByteArray) (W:List Int) (l:Lf) (hS:S.length<=1000000) (hl:l.L.length<=4294967296):
    Con cfg 281 [vLin l,.c (.iptr [.lit (.pointer (some ⟨b,0,none⟩))])] (ckN b svL svS svP n U S W) fun r μ'=>r=vB (!inSc S l)/\μ'=ckN b svL svS svP n U S W:=by
 refine zW Tryz.func281 O Tryz.ntmps281 Tryz.results281 O ?_
 intro z hz
 refine Y O<|zZ O O (qO O O) ?_
 rintro _ _ ⟨b1,rfl,rfl⟩
 refine G O<|zA<|Y O<|zI zNd qH O<|zM kE (J 0 O) O<|zR O (qY [1,1,1,1] O ok279 (zMw b svL svS svP n U S W l hS hl) ⟨zB,O,zB,O,T⟩ O)<|wG O<|G O<|zA<|zU _ (Weak.mem [false,true,true,true,true] O)<|zG<|zV O ?_
 exact ⟨O,O⟩
theorem ck_node (b:Nat) (svL svS svP:Value) (n:Ns) (U S:List ByteArray) (W:List Int) (e:Ex) (hn:n.Ok) (hS:S.length<=1000000) (he:e.wt<=1073741824):
    Con cfg 248 [vP b,vE e] (ckN b svL svS svP n U S W) fun r μ'=>r=vI (nodeN n.Bufs S e)/\μ'=ckN b svL svS svP n U S W:=by
 refine zW Tryz.func248 O Tryz.ntmps248 Tryz.results248 O ?_
 intro z hz
 obtain ⟨hL,hI,hA⟩:=e.parts he
 have hwt:=Ex.wt_eq e
 refine Y O<|zZ O O (qO O O) ?_
 rintro _ _ ⟨b1,rfl,rfl⟩
 refine yK _ (yZ 0 O 2 _ PLe.ptr)<|zZ O O (qO O O) ?_
 rintro _ _ ⟨b2,rfl,rfl⟩
 refine G O<|zA<|Y O<|zI zNd qH O<|zD O zGp<|zM kE (J 0 O) O<|zR O (qY [1,1,1,1] O ok279 (zMw b svL svS svP n U S W e.Lin hS (by omega)) ⟨zB,O,zB,O,T⟩ O)<|G O<|zA<|zH<|Y O<|zD O zAt<|zI zBr (J 0 O) O<|qB O el52<|G O<|zA<|zT<|zU ⟨[(20,.c _),(5,.c _),(2,.c _),(3,.c _),(18,.c _),(19,.c _)],[_,_,_,_,_]⟩ (Weak.mk [true,true,true,true,true] ⟨zB,zB,zB,zB,zB,zB,T⟩ O) ?_
 refine qJ 2 0 O O (Nat) (fun k=>[(20,vI k),(5,vB (inSc S e.Lin&&(e.Idx.take k).all (ixSc S)))]) (fun k=>[]) (fun k=>k<=e.Idx.length) (fun k=>e.Idx.length-k) ⟨0,(by omega),Weak.mk [true,true,true,true,true] ⟨zB,VLe.of_eq (congrArg vB (by simp)),zB,zB,zB,zB,T⟩ O⟩ ?_
 rintro k hk
 refine Y O<|yB O<|zA<|zH<|zE O (fun c1=>?_) (fun c1=>?_)
 ·try simp only [sx] at c1
  obtain ⟨x,hx⟩:=yD e.Idx k (by omega)
  refine zF<|zH<|zT<|Y O<|qD O el52 (by omega) (getm (by assumption))<|zM zLp qH O<|zZ O O (qF [none,some 2,none,some 2] O zr93 O) ?_
  rintro _ _ ⟨b3,rfl,rfl⟩
  refine D 0 sz93 O<|zA<|zP O<|G O<|G O<|rL0 O (fun g5_1=>zK O zNd O qH O) O<|rL0 O (fun g5_1=>zJ O zEl O) O<|rL1 27 O (fun g5_1=>qA O kE O (J 0 O) O) O<|rLz [(26,_),(28,_)] O gv1 ⟨O,O,O,O,T⟩ (fun g5_1=>qY [2,2,2,2] O ok279 (zMw b svL svS svP n U S W x.Lin hS (by have:=Ex.idx_wt (qC hx);omega)) ⟨zB,O,zB,O,T⟩ O) O<|wC O (fun h=>h)<|G O<|rL0 O (fun g5_7=>zJ O zBj O) O<|rL1 32 O (fun g5_7=>zK O zEt O (J 0 O) O) O<|rL0 O (fun g5_7=>zCw O O O O O) O<|rLz [(33,_),(34,_)] O gv1 ⟨O,O,O,O,T⟩ (fun g5_7=>qY [2,2,2,2] O ok280 (zFq x.At _ (fun l=> !inSc S l) (ckN b svL svS svP n U S W) (by have:=Ex.idx_wt (qC hx);omega) (fun l hl=>FnCon.of_con (first:=[]) (cap:=[.iptr [.lit (.pointer (some ⟨b,0,none⟩))]]) ok281 (node_1 b svL svS svP n U S W l hS (by have:=Ex.idx_wt (qC hx);have:=zCo hl;omega)))) ⟨zB,O,zB,O,T⟩ O) O<|rL1 35 O (fun g5_7=>zAz O O) O<|wC O (fun h=>h)<|G O<|zA<|zP O<|qM O ⟨by omega,by omega⟩<|G O<|zA ?_
  refine ⟨k+1,(by omega),(by omega),Weak.mk [false,true,true,true,true,true] ⟨zB,VLe.of_eq (congrArg vB (by rw [zHi];exact scAll_next hx)),zB,zB,zB,zB,T⟩ O⟩
 ·try simp only [sx] at c1
  rw [yC (l:=e.Idx) (k:=k) (by omega)]
  refine qP<|zH<|Y O<|G O<|wG O<|zA<|zE O (fun c2=>?_) (fun c2=>?_)
  ·have h9:nodeSc S e=false:=(Bool.not_eq_true' _).mp c2
   refine Y O<|G O<|zA<|zU _ (Weak.mem [false,true,true,true,true] O)<|zG<|zV O ?_
   exact ⟨by rw [nodeN_9 h9],O⟩
  ·have h9:nodeSc S e=true:=(Bool.not_eq_false' _).mp c2
   refine zF<|zH<|Y O<|zD O zAw<|zI one3 (J 0 O) O<|yM O<|zA<|zE O (fun c3=>?_) (fun c3=>?_)
   ·try simp only [sx] at c3
    refine Y O<|G O<|zA<|zU _ (Weak.mem [false,true,true,true,true] O)<|zG<|zV O ?_
    exact ⟨by rw [nodeN_o h9 c3],O⟩
   ·try simp only [sx] at c3
    refine zF<|zH<|yP 12 1 [⟨0,.q []⟩,⟨1,.q []⟩,⟨2,.q []⟩,⟨3,.q [2]⟩,⟨4,.q []⟩,⟨5,.q [1]⟩,⟨6,.q []⟩,⟨7,.q []⟩,⟨8,.q []⟩,⟨9,.q []⟩,⟨10,.e 0 []⟩,⟨11,.e 0 []⟩] mixed (by kernel_rfl) (by kernel_rfl) O O O<|zO O<|zO O<|zO O<|zO O<|zO O<|zO O<|zO O<|zO O<|zO O<|zO O<|zO O<|zO O<|wR<|zX O (by decide) O O (zK O zNd O qH O)<|zX O (by decide) O O (qG O O)<|zX O (by decide) O O (zJ O zMp O)<|zX O (by decide) O O (qA O zGw O (J 0 O) O)<|zX O (by decide) O O (zJ O zNj O)<|zX O (by decide) O O (zK O one9 O (J 0 O) O)<|zX O (by decide) O O (qR O ok247 (zAc n e.Name hn) ⟨zB,O,zB,O,T⟩)<|zX O (by decide) O O (yR O O)<|zX O (by decide) O O (yA O O O)<|zX O (by decide) O O (kR O O O)<|zIu O O (by decide) O O (qF [none,none,none,none,none,none,some 1,none] O zr66 O) ?_
    rintro _ _ ⟨b4,rfl,rfl⟩
    refine ⟨_,O,?_⟩
    refine zDr O O (by decide) O O (yT O sz66 O O O (zCx 0 O O)) ?_
    rintro _ _ ⟨rfl,rfl⟩
    refine ⟨_,O,?_⟩
    refine wQ O<|G O<|zA<|zH<|Y O<|G O<|wG O<|zA<|zE O (fun c4=>?_) (fun c4=>?_)
    ·try simp only [sx] at c4
     refine Y O<|G O<|zA<|zU _ (Weak.mem [false,false,true,true,true,true] O)<|zG<|zV O ?_
     exact ⟨by rw [nodeN_n h9 (by omega) c4],O⟩
    ·try simp only [sx] at c4
     refine zF<|zH<|Y O<|zD O fd66_2<|zI one46 (J 0 O) O<|qB O el46<|zD O zAt<|zI zBr (J 1 O) O<|qB O el52<|yM O<|zA<|zE O (fun c5=>?_) (fun c5=>?_)
     ·try simp only [sx] at c5
      refine Y O<|G O<|zA<|zU _ (Weak.mem [false,false,true,true,true,true] O)<|zG<|zV O ?_
      exact ⟨by rw [nodeN_r h9 (by omega) c4 (by omega)],O⟩
     ·try simp only [sx] at c5
      refine zF<|zH<|Y O<|zD O zAt<|zI zBr (J 1 O) O<|qB O el52<|G O<|zA<|zT<|zU ⟨[(66,.c _),(2,.c _),(64,.c _),(65,.c _)],[_,_,_,_]⟩ (Weak.mk [false,false,true,true,true,true] ⟨zB,zB,zB,zB,T⟩ O)<|qJ 1 0 O O (Nat) (fun j=>[(66,vI j)]) (fun j=>[]) (fun j=>j<=e.Idx.length/\(gathL n.Bufs e.Idx=gathL n.Bufs (e.Idx.drop j))) (fun j=>e.Idx.length-j) ⟨0,⟨by omega,O⟩,Weak.mk [true,true,true,true] ⟨zB,zB,zB,zB,T⟩ O⟩ ?_
      rintro j ⟨hk,hq⟩
      refine Y O<|yB O<|zA<|zH<|zE O (fun c6=>?_) (fun c6=>?_)
      ·try simp only [sx] at c6
       obtain ⟨y,hy⟩:=yD e.Idx j (by omega)
       refine zF<|zH<|zT<|Y O<|qD O el52 (by omega) (getm (by assumption))<|zM zLp qH O<|zZ O O (qF [none,some 2,none,some 2] O zr93 O) ?_
       rintro _ _ ⟨b5,rfl,rfl⟩
       refine D 0 sz93 O<|zA<|zH<|Y O<|zD O zJd<|zI one9 (J 0 O) O<|kY O<|zA<|zE O (fun c7=>?_) (fun c7=>?_)
       ·try simp only [sx] at c7
        refine qP<|zP O<|qM O ⟨by omega,by omega⟩<|G O<|zA ?_
        refine ⟨j+1,⟨by omega,hq.trans (gathL_next hy (by first|exact gathE_0 c7|exact gathE_ok c7 c8 (by omega) (by omega)))⟩,(by omega),Weak.mk [false,true,true,true,true] ⟨zB,zB,zB,zB,T⟩ O⟩
       ·try simp only [sx] at c7
        refine zF<|zH<|yP 12 1 [⟨0,.q []⟩,⟨1,.q []⟩,⟨2,.q []⟩,⟨3,.q [2]⟩,⟨4,.q []⟩,⟨5,.q [1]⟩,⟨6,.q []⟩,⟨7,.q []⟩,⟨8,.q []⟩,⟨9,.q []⟩,⟨10,.e 0 []⟩,⟨11,.e 0 []⟩] mixed (by kernel_rfl) (by kernel_rfl) O O O<|zO O<|zO O<|zO O<|zO O<|zO O<|zO O<|zO O<|zO O<|zO O<|zO O<|zO O<|zO O<|wR<|zX O (by decide) O O (zK O zNd O qH O)<|zX O (by decide) O O (qG O O)<|zX O (by decide) O O (zJ O zMp O)<|zX O (by decide) O O (qA O zGw O (J 0 O) O)<|zX O (by decide) O O (zJ O zJd O)<|zX O (by decide) O O (zK O one9 O (J 0 O) O)<|zX O (by decide) O O (qR O ok247 (zAc n y.From hn) ⟨zB,O,zB,O,T⟩)<|zX O (by decide) O O (yR O O)<|zX O (by decide) O O (yA O O O)<|zX O (by decide) O O (kR O O O)<|zIu O O (by decide) O O (qF [none,none,none,none,none,none,some 1,none] O zr66 O) ?_
        rintro _ _ ⟨b6,rfl,rfl⟩
        refine ⟨_,O,?_⟩
        refine zDr O O (by decide) O O (yT O sz66 O O O (zCx 0 O O)) ?_
        rintro _ _ ⟨rfl,rfl⟩
        refine ⟨_,O,?_⟩
        refine wQ O<|G O<|zA<|zT<|Y O<|G O<|wG O<|G O<|zA<|zE O (fun c8=>?_) (fun c8=>?_)
        ·try simp only [sx] at c8
         refine Y O<|G O<|zA<|zU _ (Weak.mem [false,false,true,true,true,true] O)<|zG<|zV O ?_
         exact ⟨by rw [nodeN_g h9 (by omega) c4 (by omega),hq,gathL_no hy (by rw [gathE_9 c7 c8];decide),gathE_9 c7 c8],O⟩
        ·try simp only [sx] at c8
         refine Y O<|zD O fd66_1<|zD O zKw<|zI one3 (J 0 O) O<|yM O<|G O<|zA<|zE O (fun c9=>?_) (fun c9=>?_)
         ·try simp only [sx] at c9
          refine Y O<|G O<|zA<|zU _ (Weak.mem [false,false,true,true,true,true] O)<|zG<|zV O ?_
          exact ⟨by rw [nodeN_g h9 (by omega) c4 (by omega),hq,gathL_no hy (by rw [gathE_10 c7 c8 c9];decide),gathE_10 c7 c8 c9],O⟩
         ·try simp only [sx] at c9
          refine Y O<|zD O fd66_2<|zI one46 (J 0 O) O<|qB O el46<|zD O zBj<|zI zEt (J 1 O) O<|qB O el72<|yM O<|G O<|zA<|zE O (fun c10=>?_) (fun c10=>?_)
          ·try simp only [sx] at c10
           refine Y O<|G O<|zA<|zU _ (Weak.mem [false,false,true,true,true,true] O)<|zG<|zV O ?_
           exact ⟨by rw [nodeN_g h9 (by omega) c4 (by omega),hq,gathL_no hy (by rw [gathE_11 c7 c8 c9 (by omega)];decide),gathE_11 c7 c8 c9 (by omega)],O⟩
          ·try simp only [sx] at c10
           refine zF<|zP O<|qM O ⟨by omega,by omega⟩<|G O<|zA ?_
           refine ⟨j+1,⟨by omega,hq.trans (gathL_next hy (by first|exact gathE_0 c7|exact gathE_ok c7 c8 (by omega) (by omega)))⟩,(by omega),Weak.mk [false,false,true,true,true,true] ⟨zB,zB,zB,zB,T⟩ O⟩
      ·try simp only [sx] at c6
       refine qP<|Y O<|G O<|zA<|zG<|zV O ?_
       exact ⟨by rw [nodeN_g h9 (by omega) c4 (by omega),hq,kV (by omega)];rfl,O⟩
theorem ck_typeOf_step (b:Nat) (svL svS svP:Value) (n:Ns) (U S:List ByteArray) (W:List Int) (hn:n.Ok) (e:Ex) (ih:∀a,a∈e.Args->partE a=0->a.wt<=1073741824->Con cfg 249 [vP b,vE a] (ckN b svL svS svP n U S W) fun r μ'=>r=.tup [vTy (nodeT (tyF n.Bufs) a).1,vI (nodeT (tyF n.Bufs) a).2]/\μ'=ckN b svL svS svP n U S W) (hpart:partE e=0) (he:e.wt<=1073741824):
    Con cfg 249 [vP b,vE e] (ckN b svL svS svP n U S W) fun r μ'=>r=.tup [vTy (nodeT (tyF n.Bufs) e).1,vI (nodeT (tyF n.Bufs) e).2]/\μ'=ckN b svL svS svP n U S W:=by
 refine Con.drop<|zW Tryz.func249 O Tryz.ntmps249 Tryz.results249 O ?_
 intro z hz
 obtain ⟨hLl,hIl,hAl⟩:=e.parts he
 have hwt:=Ex.wt_eq e
 refine Y O<|zZ O O (qO O O) ?_
 rintro _ _ ⟨b1,rfl,rfl⟩
 refine zZ O O (qX O zr56) ?_
 rintro _ _ ⟨b2,rfl,rfl⟩
 refine G O<|zA<|Y O<|G O<|yK _ (kI 56 5)<|zA<|zH<|Y O<|zD O zCf<|zI zIw (J 2 O) O<|qB O el60<|G O<|zA<|zT<|zU ⟨[(16,.c _),(6,.c _),(0,.c _),(3,.c _),(4,.c _),(14,.c _),(15,.c _)],[_,_,_,_,_,_,_]⟩ (Weak.mk [true,true,true,true,true,true,true] ⟨zB,zB,zB,zB,zB,zB,zB,T⟩ O)<|qJ 2 1 O O (Nat×Value) (fun ⟨k,sv⟩=>[(16,vI k),(6,.c (.lit sv))]) (fun ⟨k,sv⟩=>[E.vec sv 56 5 ((nodeL (tyF n.Bufs) (e.Args.take k)).1.map tyC)]) (fun ⟨k,sv⟩=>k<=e.Args.length/\((nodeL (tyF n.Bufs) (e.Args.take k)).2=0)) (fun ⟨k,sv⟩=>e.Args.length-k) ⟨⟨0,(.slice none 0 0)⟩,⟨by omega,O⟩,Weak.mk [true,true,true,true,true,true,true] ⟨zB,zB,zB,zB,zB,zB,zB,T⟩ O⟩ ?_
 rintro ⟨k,sv⟩ ⟨hk,hp⟩
 show AWP _ _ _ _ _ ⟨[(16,vI k),(6,.c (.lit sv))]++_,[E.vec sv 56 5 ((nodeL (tyF n.Bufs) (e.Args.take k)).1.map tyC)]++_⟩
 refine Y O<|yB O<|zA<|zH<|zE O (fun c1=>?_) (fun c1=>?_)
 ·try simp only [sx] at c1
  obtain ⟨x,hx⟩:=yD e.Args k (by omega)
  have hll:=zHj _ _ hp
  refine zF<|zH<|zT<|Y O<|qD O el60 (by omega) (getmE (by assumption))<|zM kD qH O<|zZ O O (qF [none,none,none,none,none,none,none,none,none,none,some 2,some 4,some 13] O zr62 O) ?_
  rintro _ _ ⟨b4,rfl,rfl⟩
  refine D 0 sz62 O<|zA<|Y O<|G O<|zM kD (J 0 O) O<|zR O (qY [4,4,4,4] O ok249 (ih x (qC hx) (zOz hpart (qC hx)) (by have:=Ex.arg_wt (qC hx);omega)) ⟨zB,O,zB,O,T⟩ O)<|qV O<|zR O (yA O O O)<|yI O<|zZ O O (qX O zr56) ?_
  rintro _ _ ⟨b5,rfl,rfl⟩
  refine D 0 v O<|G O<|zA<|zH<|Y O<|G O<|yM O<|zA<|zE O (fun c2=>?_) (fun c2=>?_)
  ·try simp only [sx] at c2
   refine Y O<|zM qZ (J 0 O) O<|G O<|D 3 v O<|G O<|zA<|zU _ (Weak.mem [false,false,false,true,false,true,true,true,true] O)<|zG<|fin2 (zY qZ O (J 0 O) O) (N O) ?_
   exact ⟨by rw [nodeT_no hx hp c2,nodeT_zero c2];rfl,[_],O⟩
  ·try simp only [sx] at c2
   refine zF<|zP O<|G O<|zM qZ (J 0 O) O<|zR O (qS O wB zr56 O O O O)<|zZ O O (yH 2 O wB O O O (by simp only [List.length_map,List.length_cons,List.length_nil,hll,List.length_take];omega) (by simp only [List.length_map,List.length_cons,List.length_nil,hll,List.length_take];omega)) ?_
   rintro _ _ ⟨sv6,rfl,rfl⟩
   refine G O<|zA<|zP O<|qM O ⟨by omega,by omega⟩<|G O<|zA ?_
   refine ⟨⟨k+1,sv6⟩,⟨by omega,by rw [zIm hx hp c2]⟩,(by show e.Args.length-(k+1)<e.Args.length-k;omega),Weak.mk [false,false,true,true,true,true,true,true,true] ⟨zB,zB,zB,zB,zB,zB,zB,T⟩ (by show _=[E.vec sv6 _ 5 ((nodeL (tyF n.Bufs) (e.Args.take (k+1))).1.map tyC)]++_;rw [zIm hx hp c2];simp only [List.map_append];rfl)⟩
 ·try simp only [sx] at c1
  have hll:=zHj _ _ hp
  have hta:e.Args.take k=e.Args:=yC (by omega)
  rw [hta] at hll
  have hg:∀i,i<e.Args.length->((nodeL (tyF n.Bufs) (e.Args.take k)).1.map tyC)[i]? =some (tyC (tyAt (nodeL (tyF n.Bufs) (e.Args.take k)).1 i)):=fun i hi=>tyAt_get (by rw [hta];omega)
  have hgn:∀i:Nat,1<=i->i<=e.Args.length->∀j:Int,j=(((nodeL (tyF n.Bufs) (e.Args.take k)).1.length:Int)-i)->((nodeL (tyF n.Bufs) (e.Args.take k)).1.map tyC)[j.toNat]? =some (tyC (tyAt (nodeL (tyF n.Bufs) (e.Args.take k)).1 ((nodeL (tyF n.Bufs) (e.Args.take k)).1.length-i))):=fun i h1 h2 j hj=>by rw [hta] at *;rw [show j.toNat=(nodeL (tyF n.Bufs) e.Args).1.length-i by omega];exact tyAt_get (by omega)
  have hT:nodeT (tyF n.Bufs) e=tyF n.Bufs e (nodeL (tyF n.Bufs) (e.Args.take k)).1:=nodeT_ok hta hp
  have hlk:(nodeL (tyF n.Bufs) (e.Args.take k)).1.length=e.Args.length:=by rw [hta];exact hll
  refine qP<|zH<|Y O<|zD O zAw<|zI one3 (J 2 O) O<|zA<|zT<|zH<|Y O<|yX O<|G O<|zA<|zE O (fun c3=>?_) (fun c3=>?_)
  ·try simp only [sx] at c3
   refine zF<|zE O (fun c4=>?_) (fun c4=>?_)
   ·exact v32
   ·try simp only [sx] at c4
    refine Y O<|yX O<|G O<|zA<|zE O (fun c5=>?_) (fun c5=>?_)
    ·try simp only [sx] at c5
     exact r9
    ·try simp only [sx] at c5
     refine Y O<|yX O<|G O<|zA<|zE O (fun c6=>?_) (fun c6=>?_)
     ·try simp only [sx] at c6
      refine zH<|yP 12 1 [⟨0,.q []⟩,⟨1,.q []⟩,⟨2,.q []⟩,⟨3,.q [4]⟩,⟨4,.q []⟩,⟨5,.q [3]⟩,⟨6,.q []⟩,⟨7,.q []⟩,⟨8,.q []⟩,⟨9,.q []⟩,⟨10,.e 0 []⟩,⟨11,.e 0 []⟩] mixed (by kernel_rfl) (by kernel_rfl) O O O<|zO O<|zO O<|zO O<|zO O<|zO O<|zO O<|zO O<|zO O<|zO O<|zO O<|zO O<|zO O<|wR<|zX O (by decide) O O (zS O O)<|zX O (by decide) O O (qG O O)<|zX O (by decide) O O (zJ O zMp O)<|zX O (by decide) O O (qA O zGw O (J 0 O) O)<|zX O (by decide) O O (zJ O zNj O)<|zX O (by decide) O O (zK O one9 O (J 0 O) O)<|zX O (by decide) O O (qR O ok247 (zAc n e.Name hn) ⟨zB,O,zB,O,T⟩)<|zX O (by decide) O O (yR O O)<|zX O (by decide) O O (yA O O O)<|zX O (by decide) O O (kR O O O)<|zIu O O (by decide) O O (qF [none,none,none,none,none,none,some 1,none] O zr66 O) ?_
      rintro _ _ ⟨b7,rfl,rfl⟩
      exact k9
     ·exact s6
  ·try simp only [sx] at c3
   refine zP O<|yX O<|G O<|zA<|zE O (fun c4=>?_) (fun c4=>?_)
   ·exact v32
   ·try simp only [sx] at c4
    refine Y O<|yX O<|G O<|zA<|zE O (fun c5=>?_) (fun c5=>?_)
    ·try simp only [sx] at c5
     exact r9
    ·try simp only [sx] at c5
     refine Y O<|yX O<|G O<|zA<|zE O (fun c6=>?_) (fun c6=>?_)
     ·try simp only [sx] at c6
      refine zH<|yP 12 1 [⟨0,.q []⟩,⟨1,.q []⟩,⟨2,.q []⟩,⟨3,.q [4]⟩,⟨4,.q []⟩,⟨5,.q [3]⟩,⟨6,.q []⟩,⟨7,.q []⟩,⟨8,.q []⟩,⟨9,.q []⟩,⟨10,.e 0 []⟩,⟨11,.e 0 []⟩] mixed (by kernel_rfl) (by kernel_rfl) O O O<|zO O<|zO O<|zO O<|zO O<|zO O<|zO O<|zO O<|zO O<|zO O<|zO O<|zO O<|zO O<|wR<|zX O (by decide) O O (zS O O)<|zX O (by decide) O O (qG O O)<|zX O (by decide) O O (zJ O zMp O)<|zX O (by decide) O O (qA O zGw O (J 0 O) O)<|zX O (by decide) O O (zJ O zNj O)<|zX O (by decide) O O (zK O one9 O (J 0 O) O)<|zX O (by decide) O O (qR O ok247 (zAc n e.Name hn) ⟨zB,O,zB,O,T⟩)<|zX O (by decide) O O (yR O O)<|zX O (by decide) O O (yA O O O)<|zX O (by decide) O O (kR O O O)<|zIu O O (by decide) O O (qF [none,none,none,none,none,none,some 1,none] O zr66 O) ?_
      rintro _ _ ⟨b8,rfl,rfl⟩
      exact k9
     ·exact s6
theorem ck_typeOf (b:Nat) (svL svS svP:Value) (n:Ns) (U S:List ByteArray) (W:List Int)  (e:Ex) (hn:n.Ok) (hpart:partE e=0) (he:e.wt<=1073741824):Con cfg 249 [vP b,vE e] (ckN b svL svS svP n U S W) fun r μ'=>r=.tup [vTy (nodeT (tyF n.Bufs) e).1,vI (nodeT (tyF n.Bufs) e).2]/\μ'=ckN b svL svS svP n U S W:=by
  induction e using Ex.ind with
  |_ e ih=>exact ck_typeOf_step b svL svS svP n U S W hn e (fun a ha h1 h2=>ih a ha h1 h2) hpart he
theorem zGg (b:Nat) (svL svS svP:Value) (n:Ns) (U S:List ByteArray) (W:List Int) (e:Ex) (hn:n.Ok) (hS:S.length<=1000000) (he:e.wt<=1000000000):
    Con cfg 210 [vP b,vE e] (ckN b svL svS svP n U S W) fun r μ'=>r=.tup [vTy (exprT n.Bufs S e).1,vI (exprT n.Bufs S e).2]/\μ'=ckN b svL svS svP n U S W:=by
 refine Con.drop<|zW Tryz.func210 O Tryz.ntmps210 Tryz.results210 O ?_
 intro z hz
 refine Y O<|zZ O O (qO O O) ?_
 rintro _ _ ⟨b1,rfl,rfl⟩
 refine yK _ (yZ 0 O 2 _ PLe.ptr)<|zZ O O (qO O O) ?_
 rintro _ _ ⟨b2,rfl,rfl⟩
 refine zZ O O (qX O zr56) ?_
 rintro _ _ ⟨b3,rfl,rfl⟩
 refine zZ O O (qX O zr34) ?_
 rintro _ _ ⟨b4,rfl,rfl⟩
 refine zA<|zH<|Y O<|zM kD (J 2 O) O<|qK O ok178 (zKx e (by omega)) ⟨zB,O,T⟩<|G O<|zA<|Y O<|G O<|yM O<|zA<|zE O (fun c1=>?_) (fun c1=>?_)
 ·try simp only [sx] at c1
  refine Y O<|yF O zr56 pl56<|G O<|D 1 v O<|D 0 sz34 O<|zA<|zU _ (Weak.mem [true,true,false,true,true,true,true] O)<|zG<|fin2 (zY qZ O (J 1 O) O) (kX zKg O (J 0 O) O) ?_
  exact ⟨by rw [exprT_1 c1];rfl,[_,_],O⟩
 ·try simp only [sx] at c1
  refine zF<|zH<|Y O<|zM kD (J 2 O) O<|qK O ok220 (zQc _) ⟨zB,O,T⟩<|zA<|zT<|zGj (ps:=[17]) hz 2 O O ok254 (zOj e (by omega)) (fun _ _=>O) O (fun pre=>nodesN n.Bufs S pre=0) (fun pre=>[E.row b4 34 [cI 0],E.row b3 56 [cI 0,cI 0,cI 0,cI 0,cI 0]]) (fun c pre=>(c=.ret/\¬nodesN n.Bufs S pre=0)) (fun c pre=>[E.row b4 34 [cI (nodesN n.Bufs S pre)],E.row b3 56 [cI 0,cI 0,cI 0,cI 0,cI 0]]) ⟨O,O⟩ ?_ ?_ ?_ ?_
  ·intro pre x suf hxs hi z hz
   have hxw:x.wt<=e.wt:=zFu e x (by rw [hxs];simp)
   refine zP O<|zZ O O (qF [none,none,none,none,none,none,none,none,none,none,some 2,some 4,some 13] O zr62 O) ?_
   rintro _ _ ⟨b5,rfl,rfl⟩
   refine D 0 sz62 O<|zA ?_
   intro z hz
   refine zT<|Y O<|zI zNd qH O<|zM kD (J 0 O) O<|zR O (qY [4,4,4,4] O ok248 (ck_node b svL svS svP n U S W x hn hS (by omega)) ⟨zB,O,zB,O,T⟩ O)<|G O<|zA<|Y O<|G O<|yM O<|zA<|zE O (fun c2=>?_) (fun c2=>?_)
   ·try simp only [sx] at c2
    refine Y O<|yF O zr56 pl56<|G O<|D 2 v O<|D 1 sz34 O<|zA<|zG ?_
    exact zCy (τ:=⟨[],_⟩) (Weak.mk [false,true,true,true,true,true,true,true] T O) ⟨⟨O,by rw [zMe hi];exact c2⟩,(by dsimp only;rw [zMe hi];rfl)⟩
   ·try simp only [sx] at c2
    refine zF ?_
    exact zCy (τ:=⟨[],_⟩) (Weak.mk [false,true,true,true,true,true,true,true] T O) ⟨(by dsimp only;rw [zMe hi];exact c2),O⟩
  ·intro hd
   refine Y O<|zI zNd qH O<|zM kD (J 2 O) O<|zR O (qY [3,3,3,3] O ok249 (ck_typeOf b svL svS svP n U S W e hn (zDm c1) (by omega)) ⟨zB,O,zB,O,T⟩ O)<|zR O (yA O O O)<|yI O<|D 1 v O<|D 0 sz34 O<|zA<|zU _ (Weak.mem [true,true,false,true,true,true,true] O)<|zG<|fin2 (zY qZ O (J 1 O) O) (kX zKg O (J 0 O) O) ?_
   exact ⟨by rw [exprT_3 c1 hd];rfl,[_,_],O⟩
  ·rintro pre x suf hxs hx
   rcases hx with ⟨hc,hx⟩
   clear hc
   repeat (first|refine zOo ?_|refine zMx ?_)
   refine fin2 (zY qZ O (J 1 O) O) (kX zKg O (J 0 O) O) ?_
   exact ⟨by rw [exprT_2 c1 (by rw [hxs,nodesN_pre hx];exact hx),hxs,nodesN_pre (suf:=suf) hx];rfl,[_,_,_],O⟩
  ·rintro i pre x suf hxs hx
   rcases hx with ⟨hc,hx⟩
   cases hc
theorem ck_store (b:Nat) (svL svS svP:Value) (n:Ns) (U S:List ByteArray) (W:List Int) (s:St) (hn:n.Ok) (hS:S.length<=1000000) (hs:s.wt<=900000000):
    Con cfg 211 [vP b,vSt s] (ckN b svL svS svP n U S W) fun r μ'=>r=vI (storeE n.Bufs S s)/\μ'=ckN b svL svS svP n U S W:=by
 refine zW Tryz.func211 O Tryz.ntmps211 Tryz.results211 O ?_
 intro z hz
 obtain ⟨hE,hI,hIw,hB,hBw⟩:=St.parts hs
 have hrd:=rdE_wt s
 refine Y O<|zZ O O (qO O O) ?_
 rintro _ _ ⟨b1,rfl,rfl⟩
 refine G O<|zA<|Y O<|G O<|zD O zHy<|zI one9 (J 0 O) O<|zD O fd64_5<|zI zBr (J 0 O) O<|yY [none,none,none,none,none,none,none,none,none,none,some 2,none,some 13] O zr62 pl62<|zR O (qY [1,1,1,1] O ok210 (zGg b svL svS svP n U S W (rdE s) hn hS (by omega)) ⟨zB,O,zB,O,T⟩ O)<|qV O<|zR O (yA O O O)<|yI O<|zZ O O (qX O zr56) ?_
 rintro _ _ ⟨b2,rfl,rfl⟩
 refine D 0 v O<|G O<|zA<|zH<|Y O<|G O<|yM O<|zA<|zE O (fun c1=>?_) (fun c1=>?_)
 ·try simp only [sx] at c1
  refine Y O<|G O<|G O<|zA<|zU _ (Weak.mem [false,false,true,true,true,true] O)<|zG<|zV O ?_
  exact ⟨by rw [storeE_1 c1],O⟩
 ·try simp only [sx] at c1
  have hT:=exprT_rd c1
  refine zF<|zH<|zH<|yP 12 1 [⟨0,.q []⟩,⟨1,.q []⟩,⟨2,.q []⟩,⟨3,.q [3]⟩,⟨4,.q []⟩,⟨5,.q [2]⟩,⟨6,.q []⟩,⟨7,.q []⟩,⟨8,.q []⟩,⟨9,.q []⟩,⟨10,.e 0 []⟩,⟨11,.e 0 []⟩] mixed (by kernel_rfl) (by kernel_rfl) O O O<|zO O<|zO O<|zO O<|zO O<|zO O<|zO O<|zO O<|zO O<|zO O<|zO O<|zO O<|zO O<|wR<|zX O (by decide) O O (zS O O)<|zX O (by decide) O O (qG O O)<|zX O (by decide) O O (zJ O zMp O)<|zX O (by decide) O O (qA O zGw O (J 0 O) O)<|zX O (by decide) O O (zJ O zHy O)<|zX O (by decide) O O (zK O one9 O (J 0 O) O)<|zX O (by decide) O O (qR O ok247 (zAc n s.Name hn) ⟨zB,O,zB,O,T⟩)<|zX O (by decide) O O (yR O O)<|zX O (by decide) O O (yA O O O)<|zX O (by decide) O O (kR O O O)<|zIu O O (by decide) O O (qF [none,none,none,none,none,none,some 1,none] O zr66 O) ?_
  rintro _ _ ⟨b3,rfl,rfl⟩
  refine ⟨_,O,?_⟩
  refine zDr O O (by decide) O O (yT O sz66 O O O (zCx 0 O O)) ?_
  rintro _ _ ⟨rfl,rfl⟩
  refine ⟨_,O,?_⟩
  refine wQ O<|G O<|zA<|Y O<|zD O fd66_3<|zI one3 (J 0 O) O<|yX O<|zA<|zE O (fun c2=>?_) (fun c2=>?_)
  ·try simp only [sx] at c2
   refine Y O<|G O<|zA<|zU _ (Weak.mem [false,false,false,true,true,true,true] O)<|zG<|zV O ?_
   exact ⟨by rw [storeE_u c1 (.inl c2)],O⟩
  ·try simp only [sx] at c2
   refine zF<|zH<|Y O<|zD O zHz<|zI one3 (J 2 O) O<|yX O<|G O<|rL0 O (fun g7_3=>zJ O fd64_4 O) O<|rL1 40 O (fun g7_3=>zK O one3 O (J 2 O) O) O<|rL1 41 O (fun g7_3=>zGd O O O) O<|rL1 42 O (fun g7_3=>zS O O) O<|rLz [] O gv2 T (fun g7_7=>zJ O fd64_4 O) O<|rLz [(44,_)] O gv2 ⟨O,O,T⟩ (fun g7_7=>zK O one3 O (J 2 O) O) O<|rLz [(45,_)] O gv2 ⟨O,O,T⟩ (fun g7_7=>yU O O O) O<|rL1 43 O (fun g7_3=>zDh O O O O (fun h=>kU (by assumption) (lzf h))) O<|wC O (fun h=>h)<|zA<|zE O (fun c3=>?_) (fun c3=>?_)
   ·try simp only [sx] at c3
    refine Y O<|G O<|zA<|zU _ (Weak.mem [false,false,false,true,true,true,true] O)<|zG<|zV O ?_
    exact ⟨by rw [storeE_u c1 (.inr c3)],O⟩
   ·try simp only [sx] at c3
    refine zF<|Y O<|G O<|zD O zHx<|zM kD (J 2 O) O<|zR O (qY [3,3,3,3] O ok210 (zGg b svL svS svP n U S W s.E hn hS (by omega)) ⟨zB,O,zB,O,T⟩ O)<|qV O<|zR O (yA O O O)<|yI O<|zZ O O (qX O zr56) ?_
    rintro _ _ ⟨b4,rfl,rfl⟩
    refine D 0 v O<|G O<|zA<|zH<|Y O<|G O<|yM O<|zA<|zE O (fun c4=>?_) (fun c4=>?_)
    ·try simp only [sx] at c4
     refine Y O<|G O<|G O<|zA<|zU _ (Weak.mem [false,false,false,false,true,true,true,true] O)<|zG<|zV O ?_
     exact ⟨by rw [storeE_2 c1 (by omega) c4],O⟩
    ·try simp only [sx] at c4
     refine zF<|zH<|Y O<|zD O zHx<|zM kD (J 3 O) O<|qK O ok179 (kQ s.E) ⟨zB,O,T⟩<|G O<|rL0 O (fun g12_3=>qA O qZ O (J 0 O) O) O<|rL0 O (fun g12_3=>qA O qZ O (J 2 O) O) O<|rLz [(63,_),(64,_)] O gv1 ⟨O,O,O,O,T⟩ (fun g12_3=>zCi O fl56 O O O) O<|r_or O (fun h=>(lzf h))<|zA<|zE O (fun c5=>?_) (fun c5=>?_)
     ·have h10:=st10_t c5
      rw [hT] at h10
      refine Y O<|G O<|zA<|zU _ (Weak.mem [false,false,false,false,true,true,true,true] O)<|zG<|zV O ?_
      exact ⟨by rw [storeE_10 c1 (by omega) c4 h10],O⟩
     ·have h10:=st10_f c5
      rw [hT] at h10
      refine zF<|Y O<|G O<|zA<|zU _ (Weak.mem [false,false,false,false,true,true,true,true] O)<|zG<|zV O ?_
      exact ⟨by rw [storeE_0 c1 (by omega) c4 h10],O⟩
theorem ck_loop (b:Nat) (svL svS svP:Value) (n:Ns) (U S:List ByteArray) (W:List Int) (s:St) (hn:n.Ok) (hU:U.length<=1000000):
    Con cfg 209 [vP b,vSt s] (ckN b svL svS svP n U S W) fun r μ'=>r=vI (loopE n.Bufs U s)/\μ'=ckN b svL svS svP n U S W:=by
 refine zW Tryz.func209 O Tryz.ntmps209 Tryz.results209 O ?_
 intro z hz
 refine Y O<|zZ O O (qO O O) ?_
 rintro _ _ ⟨b1,rfl,rfl⟩
 refine G O<|zA<|zH<|Y O<|zD O zHy<|zI one9 (J 0 O) O<|qK O ok19 (zAq _) ⟨zB,O,T⟩<|wG O<|zA<|zE O (fun c1=>?_) (fun c1=>?_)
 ·try simp only [sx] at c1
  refine Y O<|G O<|zA<|zU _ (Weak.mem [false,true,true,true,true] O)<|zG<|zV O ?_
  exact ⟨by rw [loopE_7 c1],O⟩
 ·try simp only [sx] at c1
  refine zF<|zH<|zH<|yP 12 1 [⟨0,.q []⟩,⟨1,.q []⟩,⟨2,.q []⟩,⟨3,.q [2]⟩,⟨4,.q []⟩,⟨5,.q [1]⟩,⟨6,.q []⟩,⟨7,.q []⟩,⟨8,.q []⟩,⟨9,.q []⟩,⟨10,.e 0 []⟩,⟨11,.e 0 []⟩] mixed (by kernel_rfl) (by kernel_rfl) O O O<|zO O<|zO O<|zO O<|zO O<|zO O<|zO O<|zO O<|zO O<|zO O<|zO O<|zO O<|zO O<|wR<|zX O (by decide) O O (zS O O)<|zX O (by decide) O O (qG O O)<|zX O (by decide) O O (zJ O zMp O)<|zX O (by decide) O O (qA O zGw O (J 0 O) O)<|zX O (by decide) O O (zJ O zHy O)<|zX O (by decide) O O (zK O one9 O (J 0 O) O)<|zX O (by decide) O O (qR O ok247 (zAc n s.Name hn) ⟨zB,O,zB,O,T⟩)<|zX O (by decide) O O (yR O O)<|zX O (by decide) O O (yA O O O)<|zX O (by decide) O O (kR O O O)<|zIu O O (by decide) O O (qF [none,none,none,none,none,none,some 1,none] O zr66 O) ?_
  rintro _ _ ⟨b2,rfl,rfl⟩
  refine ⟨_,O,?_⟩
  refine zDr O O (by decide) O O (yT O sz66 O O O (zCx 0 O O)) ?_
  rintro _ _ ⟨rfl,rfl⟩
  refine ⟨_,O,?_⟩
  refine wQ O<|G O<|zA<|zH<|yL 10 mixed (by kernel_rfl) O O<|zQ O O (zS O O)<|zQ O O (zS O O)<|qQ [] O O O O gv1 T (fun g4_1=>zS O O) O<|qQ [(23,_)] O O O O gv1 ⟨O,O,T⟩ (fun g4_1=>qG O O) O<|qQ [(24,_)] O O O O gv1 ⟨O,O,T⟩ (fun g4_1=>zJ O fd172_1 O) O<|qQ [(25,_)] O O O O gv1 ⟨O,O,T⟩ (fun g4_1=>zK O zGt O (J 2 O) O) O<|qQ [] O O O O gv1 T (fun g4_1=>zJ O zHy O) O<|qQ [(27,_)] O O O O gv1 ⟨O,O,T⟩ (fun g4_1=>zK O one9 O (J 1 O) O) O<|qQ [(26,_),(28,_)] O O O O gv1 ⟨O,O,O,O,T⟩ (fun g4_1=>zLc 3 O ok44 O (wL U s.Name (by omega)) O ⟨.inl ⟨O,O⟩,.inr ⟨zB,O⟩,T⟩) O<|zQ O O (zDh O O O O (fun h=>(lzf h)))<|kL<|zA<|zE O (fun c2=>?_) (fun c2=>?_)
  ·try simp only [sx] at c2
   refine Y O<|G O<|zA<|zU _ (Weak.mem [false,false,true,true,true,true] O)<|zG<|zV O ?_
   exact ⟨by rw [loopE_8 c1 c2],O⟩
  ·try simp only [sx] at c2
   have h8:¬(hasBf n.Bufs s.Name=true∨hasB U s.Name=true):=by rw [c2.1,c2.2];simp
   refine zF<|zH<|Y O<|zD O fd64_2<|zI one3 (J 1 O) O<|yB O<|G O<|rL0 O (fun g6_3=>zJ O fd64_2 O) O<|rL1 35 O (fun g6_3=>zK O one3 O (J 1 O) O) O<|rL1 36 O (fun g6_3=>yU O O O) O<|r_or O (fun h=>(lzf h))<|G O<|rL0 O (fun g6_8=>zJ O fd64_3 O) O<|rL1 40 O (fun g6_8=>zK O one3 O (J 1 O) O) O<|rL1 41 O (fun g6_8=>zGd O O O) O<|r_or O (fun h=>(lzf h))<|G O<|rL0 O (fun g6_13=>zJ O fd64_3 O) O<|rL1 45 O (fun g6_13=>zK O one3 O (J 1 O) O) O<|rL1 46 O (fun g6_13=>yU O O O) O<|r_or O (fun h=>(lzf h))<|zA<|zE O (fun c3=>?_) (fun c3=>?_)
   ·try simp only [sx] at c3
    refine Y O<|G O<|zA<|zU _ (Weak.mem [false,false,true,true,true,true] O)<|zG<|zV O ?_
    exact ⟨by rw [loopE_1 c1 h8 (by omega)],O⟩
   ·try simp only [sx] at c3
    refine zF<|Y O<|G O<|zA<|zU _ (Weak.mem [false,false,true,true,true,true] O)<|zG<|zV O ?_
    exact ⟨by rw [loopE_0 c1 h8 (by omega)],O⟩
theorem zPm (e:Ex) (he:e.wt<=4294967296):
    Pur cfg 246 [vE e] (vB (emptyE e)):=by
 refine zW Tryz.func246 O Tryz.ntmps246 Tryz.results246 O ?_
 intro z hz
 refine Y O<|zZ O O (qO O O) ?_
 rintro _ _ ⟨b1,rfl,rfl⟩
 refine G O<|zA<|Y O<|zM kD (J 0 O) O<|yY [none,none,none,none,none,none,none,none,none,none,some 2,some 4,some 13] O zr62 pl62<|qK O ok278 (expr_Same e zEx he (by decide)) ⟨zB,O,zB,O,T⟩<|G O<|zA<|zG<|zV O ?_
 exact O
theorem zPl (s:St) (hs:s.wt<=900000000):
    Pur cfg 208 [vSt s] (vB (synSt s)):=by
 refine zW Tryz.func208 O Tryz.ntmps208 Tryz.results208 O ?_
 intro z hz
 obtain ⟨hE,hI,hIw,hB,hBw⟩:=St.parts hs
 refine Y O<|zZ O O (qO O O) ?_
 rintro _ _ ⟨b1,rfl,rfl⟩
 refine G O<|zA<|zH<|yL 17 mixed (by kernel_rfl) O O<|zQ O O (zJ O zHz O)<|zQ O O (zK O one3 O (J 0 O) O)<|zQ O O (kC O O O)<|zQ O O (zJ O zHz O)<|zQ O O (zK O one3 O (J 0 O) O)<|zQ O O (kC O O O)<|zQ O O (zS O O)<|qQ [] O O O O gv1 T (fun g1_6=>zJ O zHz O) O<|qQ [(13,_)] O O O O gv1 ⟨O,O,T⟩ (fun g1_6=>zK O one3 O (J 0 O) O) O<|qQ [(14,_)] O O O O gv1 ⟨O,O,T⟩ (fun g1_6=>kC O O O) O<|zQ O O (zDh O O O O (fun h=>(lzf h)))<|zQ O O (zJ O zHz O)<|zQ O O (zK O one3 O (J 0 O) O)<|zQ O O (kC O O O)<|zQ O O (yV O O)<|zQ O O (yV O O)<|zQ O O (yV O O)<|kL<|zA<|zH<|zT<|Y O<|G O<|wG O<|G O<|rL0 O (fun g2_2=>zS O O) O<|rL1 24 O (fun g2_2=>zAz O O) O<|wC O (fun h=>h)<|G O<|rL0 O (fun g2_6=>zS O O) O<|rL1 28 O (fun g2_6=>zAz O O) O<|wC O (fun h=>h)<|G O<|zA<|zE O (fun c1=>?_) (fun c1=>?_)
 ·refine Y O<|G O<|zA<|zG<|zV O ?_
  exact congrArg vB (syn_1 c1)
 ·refine Y O<|G O<|G O<|rL0 O (fun g4_1=>zJ O zHy O) O<|rL1 34 O (fun g4_1=>zK O one9 O (J 0 O) O) O<|rL1 35 O (fun g4_1=>zLb O O O) O<|wC O (fun h=>h)<|G O<|zA<|zE O (fun c2=>?_) (fun c2=>?_)
  ·refine Y O<|G O<|zA<|zG<|zV O ?_
   exact congrArg vB (syn_2 c2)
  ·refine Y O<|G O<|wG O<|G O<|rL0 O (fun g6_2=>zJ O fd64_2 O) O<|rL1 42 O (fun g6_2=>zK O one3 O (J 0 O) O) O<|rL1 43 O (fun g6_2=>zBa O O O) O<|rL1 44 O (fun g6_2=>zS O O) O<|rLz [] O gv2 T (fun g6_6=>zJ O fd64_3 O) O<|rLz [(46,_)] O gv2 ⟨O,O,T⟩ (fun g6_6=>zK O one3 O (J 0 O) O) O<|rLz [(47,_)] O gv2 ⟨O,O,T⟩ (fun g6_6=>zBa O O O) O<|rL1 45 O (fun g6_2=>zDh O O O O (fun h=>kU (by assumption) (lzf h))) O<|wC O (fun h=>h)<|G O<|zA<|zE O (fun c3=>?_) (fun c3=>?_)
   ·refine Y O<|G O<|zA<|zG<|zV O ?_
    exact congrArg vB (syn_3 c3)
   ·refine Y O<|zD O zHz<|zI one3 (J 0 O) O<|yM O<|G O<|rL0 O (fun g8_3=>zJ O fd64_4 O) O<|rL1 56 O (fun g8_3=>zK O one3 O (J 0 O) O) O<|rL1 57 O (fun g8_3=>zBa O O O) O<|wC O (fun h=>h)<|G O<|zA<|zE O (fun c4=>?_) (fun c4=>?_)
    ·refine Y O<|G O<|zA<|zG<|zV O ?_
     exact congrArg vB (syn_4 c4)
    ·refine Y O<|G O<|wG O<|G O<|rL0 O (fun g10_2=>zJ O fd64_5 O) O<|rL1 64 O (fun g10_2=>zK O zBr O (J 0 O) O) O<|rL1 65 O (fun g10_2=>yW O el52 O) O<|rL1 66 O (fun g10_2=>yU O O O) O<|wC O (fun h=>h)<|G O<|zA<|zE O (fun c5=>?_) (fun c5=>?_)
     ·refine Y O<|G O<|zA<|zG<|zV O ?_
      exact congrArg vB (syn_5 c5)
     ·refine Y O<|G O<|G O<|rL0 O (fun g12_1=>zJ O zHx O) O<|rL1 72 O (fun g12_1=>qA O kD O (J 0 O) O) O<|rL1 73 O (fun g12_1=>qR O ok246 (zPm s.E (by omega)) ⟨zB,O,T⟩) O<|rL1 74 O (fun g12_1=>zAz O O) O<|wC O (fun h=>h)<|G O<|zA<|zE O (fun c6=>?_) (fun c6=>?_)
      ·refine Y O<|G O<|zA<|zG<|zV O ?_
       exact congrArg vB (syn_6 c6)
      ·refine zF<|Y O<|G O<|wG O<|G O<|rL0 O (fun g14_2=>zJ O zEa O) O<|rL1 80 O (fun g14_2=>zK O zCa O (J 0 O) O) O<|rL1 81 O (fun g14_2=>yW O L O) O<|rL1 82 O (fun g14_2=>kC O O O) O<|r_or O (fun h=>(lzf h))<|G O<|zA<|zG<|zV O ?_
       exact congrArg vB (syn_7 c1 c2 c3 c4 c5 c6)
theorem ck_statement (b:Nat) (svL svS svP:Value) (n:Ns) (U S:List ByteArray) (W:List Int) (s:St) (hn:n.Ok) (hS:S.length<=1000000) (hU:U.length<=1000000) (hs:s.wt<=900000000):
    Con cfg 169 [vP b,vSt s] (ckN b svL svS svP n U S W) fun r μ'=>r=vI (stE n.Bufs U S s)/\μ'=ckN b svL svS svP n U S W:=by
 refine zW Tryz.func169 O Tryz.ntmps169 Tryz.results169 O ?_
 intro z hz
 obtain ⟨hE,hI,hIw,hB,hBw⟩:=St.parts hs
 refine Y O<|zZ O O (qO O O) ?_
 rintro _ _ ⟨b1,rfl,rfl⟩
 refine G O<|zA<|zH<|Y O<|zM zNt (J 0 O) O<|qK O ok208 (zPl s hs) ⟨zB,O,T⟩<|wG O<|zA<|zE O (fun c1=>?_) (fun c1=>?_)
 ·try simp only [sx] at c1
  refine Y O<|G O<|zA<|zU _ (Weak.mem [false,true,true,true,true] O)<|zG<|zV O ?_
  exact ⟨by rw [stE_5 c1],O⟩
 ·try simp only [sx] at c1
  refine zF<|zH<|Y O<|zD O zHz<|zI one3 (J 0 O) O<|zA<|zT<|Y O<|yX O<|G O<|zA<|zE O (fun c2=>?_) (fun c2=>?_)
  ·try simp only [sx] at c2
   refine Y O<|G O<|zM zNt (J 0 O) O<|zR O (qY [1,1,1,1] O ok209 (ck_loop b svL svS svP n U S W s hn hU) ⟨zB,O,zB,O,T⟩ O)<|G O<|zA<|zU _ (Weak.mem [false,true,true,true,true] O)<|zG<|zV O ?_
   exact ⟨by rw [stE_l c1 c2],O⟩
  ·try simp only [sx] at c2
   refine Y O<|yX O<|G O<|zA<|zE O (fun c3=>?_) (fun c3=>?_)
   ·try simp only [sx] at c3
    refine zH<|Y O<|G O<|zD O zHx<|zM kD (J 0 O) O<|zR O (qY [1,1,1,1] O ok210 (zGg b svL svS svP n U S W s.E hn hS (by omega)) ⟨zB,O,zB,O,T⟩ O)<|qV O<|zR O (yA O O O)<|yI O<|zZ O O (qX O zr56) ?_
    rintro _ _ ⟨b2,rfl,rfl⟩
    refine D 0 v O<|G O<|zA<|Y O<|G O<|yM O<|zA<|zE O (fun c4=>?_) (fun c4=>?_)
    ·try simp only [sx] at c4
     refine Y O<|G O<|G O<|zA<|zU _ (Weak.mem [false,false,true,true,true,true] O)<|zG<|zV O ?_
     exact ⟨by rw [stE_i c1 c3,ifE_x c4],O⟩
    ·try simp only [sx] at c4
     refine zF<|zH<|Y O<|zD O zHx<|zM kD (J 1 O) O<|qK O ok179 (kQ s.E) ⟨zB,O,T⟩<|wG O<|zA<|zE O (fun c5=>?_) (fun c5=>?_)
     ·try simp only [sx] at c5
      refine Y O<|G O<|zA<|zU _ (Weak.mem [false,false,true,true,true,true] O)<|zG<|zV O ?_
      exact ⟨by rw [stE_i c1 c3,ifE_10 c4 c5],O⟩
     ·try simp only [sx] at c5
      refine zF<|Y O<|G O<|zA<|zU _ (Weak.mem [false,false,true,true,true,true] O)<|zG<|zV O ?_
      exact ⟨by rw [stE_i c1 c3,ifE_0 c4 c5],O⟩
   ·try simp only [sx] at c3
    refine zF<|Y O<|G O<|zM zNt (J 0 O) O<|zR O (qY [1,1,1,1] O ok211 (ck_store b svL svS svP n U S W s hn hS hs) ⟨zB,O,zB,O,T⟩ O)<|G O<|zA<|zU _ (Weak.mem [false,true,true,true,true] O)<|zG<|zV O ?_
    exact ⟨by rw [stE_s c1 c2 c3],O⟩
set_option maxHeartbeats 2000000 in
theorem zEq (b:Nat) (svL svS svP:Value) (n:Ns) (U S:List ByteArray) (W:List Int) (l:List St) (hn:n.Ok) (hU:U.length+stsN l<=1000000) (hS:S.length+stsN l<=1000000) (hW:W.length+stsN l<=1000000) (hl:stsWt l<=536870912) (ih:∀s,s∈l->∀(svL svS svP:Value) (U S:List ByteArray) (W:List Int),U.length+stsN s.Body<=1000000->S.length+stsN s.Body<=1000000->W.length+stsN s.Body<=1000000->Con cfg 106 [vP b,vSts s.Body] (ckN b svL svS svP n U S W) fun r μ'=>∃svL' svS' svP' U' S' W',r=vI (chkL n.Bufs U S W 0 s.Body).E/\((chkL n.Bufs U S W 0 s.Body).E=0->U'=(chkL n.Bufs U S W 0 s.Body).U/\S'=S/\W'=W)/\(¬(chkL n.Bufs U S W 0 s.Body).E=0->W'=(chkL n.Bufs U S W 0 s.Body).W)/\μ'=ckN b svL' svS' svP' n U' S' W'):
    Con cfg 106 [vP b,vSts l] (ckN b svL svS svP n U S W) fun r μ'=>∃svL' svS' svP' U' S' W',r=vI (chkL n.Bufs U S W 0 l).E/\((chkL n.Bufs U S W 0 l).E=0->U'=(chkL n.Bufs U S W 0 l).U/\S'=S/\W'=W)/\(¬(chkL n.Bufs U S W 0 l).E=0->W'=(chkL n.Bufs U S W 0 l).W)/\μ'=ckN b svL' svS' svP' n U' S' W':=by
 refine zW Tryz.func106 O Tryz.ntmps106 Tryz.results106 O ?_
 intro z hz
 have hll:=zBi l
 have hlN:=zEk l
 refine Y O<|G O<|zA<|zH<|Y O<|G O<|qB O L<|G O<|zA<|zT<|zU ⟨[(12,.c _),(0,.c _),(1,.c _),(11,.c _)],[_,_,_,_]⟩ (Weak.mk [true,true,true,true] ⟨zB,zB,zB,zB,T⟩ O)<|qJ 1 4 O O (Nat×Value×Value×Value×List ByteArray) (fun ⟨k,vL,vS,vP_,u⟩=>[(12,vI k)]) (fun ⟨k,vL,vS,vP_,u⟩=>[E.row b 172 [.sl 8 (n.Bufs.map Bf.cells),.sl 20 (n.Body.map St.cells),.lit vL,.lit vS,.lit vP_],E.vec vL 9 1 (u.map fun s=>[cS s]),E.vec vS 9 1 (S.map fun s=>[cS s]),E.vec vP_ 3 1 (W.map fun i=>[cI i])]) (fun ⟨k,vL,vS,vP_,u⟩=>k<=l.length/\(u.length+stsN (l.drop k)<=1000000)/\((chkL n.Bufs U S W 0 l)=chkL n.Bufs u S W k (l.drop k))) (fun ⟨k,vL,vS,vP_,u⟩=>l.length-k) ⟨⟨0,svL,svS,svP,U⟩,⟨by omega,by simpa using hU,O⟩,Weak.mk [true,true,true,true] ⟨zB,zB,zB,zB,T⟩ O⟩ ?_
 rintro ⟨k,vL,vS,vP_,u⟩ ⟨hk,hub,hp⟩
 show AWP _ _ _ _ _ ⟨[(12,vI k)]++_,[E.row b 172 [.sl 8 (n.Bufs.map Bf.cells),.sl 20 (n.Body.map St.cells),.lit vL,.lit vS,.lit vP_],E.vec vL 9 1 (u.map fun s=>[cS s]),E.vec vS 9 1 (S.map fun s=>[cS s]),E.vec vP_ 3 1 (W.map fun i=>[cI i])]++_⟩
 refine Y O<|yB O<|zA<|zH<|zE O (fun c1=>?_) (fun c1=>?_)
 ·try simp only [sx] at c1
  obtain ⟨s,hs⟩:=yD l k (by omega)
  have hsw:=zCb (qC hs)
  have hsb:=St.body_wt s
  have hsn:=stsN_drop hs
  have hse:=stN_eq s
  have hsm:=stsN_mem (qC hs)
  have hcl:=chkS_len n.Bufs s u S (W++[(k:Int)])
  refine zF<|zH<|zT<|Y O<|G O<|G O<|zA<|Y O<|G O<|G O<|qD O L (by omega) (zEh (by assumption))<|zM zNt qH O<|zZ O O (qF [none,none,none,none,none,some 4,none,none,none,none,none,none,none,none,none,none,some 2,some 4,some 13,some 20] O zr64 O) ?_
  rintro _ _ ⟨b1,rfl,rfl⟩
  refine D 0 sz64 O<|zA<|Y O<|G O<|G O<|zN O<|zD O zFz<|zI one46 (J 1 O) O<|G O<|zR O (qS O el46 zr3 O O O O)<|zZ O O (yH 4 O el46 O O O (by simp only [List.length_map,List.length_append,List.length_cons,List.length_nil];omega) (by simp only [List.length_map,List.length_append,List.length_cons,List.length_nil];omega)) ?_
  rintro _ _ ⟨sv2,rfl,rfl⟩
  refine zN O<|zD O zFz<|D 1 sz46 O<|zA<|zH<|zH<|zU _ (Weak.vecEq 4 O (rows':=(W++[(k:Int)]).map fun i=>[cI i]) (by first|rfl|simp|rw [List.take_of_length_le (by simp)]))<|zP O<|G O<|zM zNt (J 0 O) O<|zR O (qY [1,1,1,1] O ok169 (ck_statement b vL vS _ n u S (W++[(k:Int)]) s hn (by omega) (by omega) (by omega)) ⟨zB,O,zB,O,T⟩ O)<|G O<|zA<|Y O<|G O<|yM O<|zA<|zE O (fun c2=>?_) (fun c2=>?_)
  ·try simp only [sx] at c2
   have hx0:=chkS_no (here:=W++[(k:Int)]) (B:=n.Bufs) (U:=u) (sc:=S) (s:=s) c2
   refine Y O<|G O<|G O<|zA<|zU _ (Weak.mem [false,true,true,true,true] O)<|zG<|zV O ?_
   refine ⟨_,_,_,_,_,_,?_,fun h0=>?_,fun _=>?_,O⟩
   · rw [zGh hs hp (by rw [hx0];exact c2),hx0]
   · rw [zGh hs hp (by rw [hx0];exact c2),hx0] at h0;exact absurd h0 c2
   · rw [zGh hs hp (by rw [hx0];exact c2),hx0]
  ·try simp only [sx] at c2
   have hin:=chkS_in (here:=W++[(k:Int)]) (B:=n.Bufs) (U:=u) (sc:=S) (s:=s) c2
   refine zF<|Y O<|G O<|zN O<|zD O zIb<|zI zGt (J 1 O) O<|zR O (kF 3 O el25 O O)<|G O<|zA<|zH<|Y O<|zD O zHz<|zI one3 (J 0 O) O<|yX O<|zA<|zE O (fun c3=>?_) (fun c3=>?_)
   ·try simp only [sx] at c3
    rw [nextU_yes c3,nextU_yes c3] at hin
    refine zH<|yP 9 0 [⟨0,.q []⟩,⟨1,.q []⟩,⟨2,.q []⟩,⟨3,.q []⟩,⟨4,.q [1]⟩,⟨5,.q []⟩,⟨6,.q [0]⟩,⟨7,.q []⟩,⟨8,.e 2 []⟩] mixed (by kernel_rfl) (by kernel_rfl) O O O<|zO O<|zO O<|zO O<|zO O<|zO O<|zO O<|zO O<|zO O<|zO O<|wR<|zX O (by decide) O O (zS O O)<|zX O (by decide) O O (zS O O)<|zX O (by decide) O O (qG O O)<|zX O (by decide) O O (zJ O fd172_1 O)<|zX O (by decide) O O (zK O zGt O (J 0 O) O)<|zX O (by decide) O O (zJ O zHy O)<|zX O (by decide) O O (zK O one9 O (J 0 O) O)<|zX O (by decide) O O (qS O el25 zr9 O O O O)<|zIu O O (by decide) O O (yH 0 O el25 O O O (by simp only [List.length_map,List.length_append,List.length_cons,List.length_nil];omega) (by simp only [List.length_map,List.length_append,List.length_cons,List.length_nil];omega)) ?_
    rintro _ _ ⟨sv3,rfl,rfl⟩
    refine ⟨_,O,?_⟩
    refine wQ O<|zN O<|zD O fd172_1<|D 1 sz25 O<|zA<|zU _ (Weak.vecEq 2 O (rows':=(u++[s.Name]).map fun s=>[cS s]) (by first|rfl|simp|rw [List.take_of_length_le (by simp)]))<|yP 9 0 [⟨0,.q []⟩,⟨1,.q []⟩,⟨2,.q []⟩,⟨3,.q []⟩,⟨4,.q [1]⟩,⟨5,.q []⟩,⟨6,.q [0]⟩,⟨7,.q []⟩,⟨8,.e 3 []⟩] mixed (by kernel_rfl) (by kernel_rfl) O O O<|zO O<|zO O<|zO O<|zO O<|zO O<|zO O<|zO O<|zO O<|zO O<|wR<|zX O (by decide) O O (zS O O)<|zX O (by decide) O O (zS O O)<|zX O (by decide) O O (qG O O)<|zX O (by decide) O O (zJ O zIb O)<|zX O (by decide) O O (zK O zGt O (J 0 O) O)<|zX O (by decide) O O (zJ O zHy O)<|zX O (by decide) O O (zK O one9 O (J 0 O) O)<|zX O (by decide) O O (qS O el25 zr9 O O O O)<|zIu O O (by decide) O O (yH 0 O el25 O O O (by simp only [List.length_map,List.length_append,List.length_cons,List.length_nil];omega) (by simp only [List.length_map,List.length_append,List.length_cons,List.length_nil];omega)) ?_
    rintro _ _ ⟨sv4,rfl,rfl⟩
    refine ⟨_,O,?_⟩
    refine wQ O<|zN O<|zD O zIb<|D 1 sz25 O<|zA<|zH<|zH<|zU _ (Weak.vecEq 3 O (rows':=(S++[s.Name]).map fun s=>[cS s]) (by first|rfl|simp|rw [List.take_of_length_le (by simp)]))<|zU ⟨_,E.row _ _ _::ckN b _ _ _ n (u++[s.Name]) (S++[s.Name]) (W++[(k:Int)])⟩ (Weak.mem [true,true,true,true,true] O)<|zP O<|G O<|zD O zEa<|zI zCa (J 0 O) O<|zZ O O (zHh [1,1,1,1] O ok106 (ih s (qC hs) _ _ _ (u++[s.Name]) (S++[s.Name]) (W++[(k:Int)]) (by first|omega|(simp;omega)) (by first|omega|(simp;omega)) (by simp;omega)) ⟨zB,O,zB,O,T⟩ O) ?_
    rintro _ _ ⟨_,⟨svL1,svS1,svP1,U1,S1,W1,rfl,hok,hno,rfl⟩,rfl⟩
    refine G O<|zA<|Y O<|G O<|yM O<|zA<|zE O (fun c4=>?_) (fun c4=>?_)
    ·exact j6
    ·try simp only [sx] at c4
     rw [←hin] at c4 hok
     obtain ⟨hU1,hS1,hW1⟩:=hok c4
     have hS2:=hS1.symm
     subst hU1 hS2 hW1
     refine zF<|Y O<|G O<|G O<|zN O<|zD O zIb<|zI zGt (J 1 O) O<|G O<|zZ O O (zFs (k:=S.length) 3 O el25 O O O (by simp) (by simp)) ?_
     rintro _ _ ⟨sv5,rfl,rfl⟩
     refine zN O<|zD O zIb<|D 1 sz25 O<|zA<|zU _ (Weak.vecEq 3 O (rows':=S.map fun s=>[cS s]) (by first|rfl|simp|rw [List.take_of_length_le (by simp)]))<|yP 12 0 [⟨0,.q []⟩,⟨1,.q []⟩,⟨2,.q []⟩,⟨3,.q []⟩,⟨4,.q [1]⟩,⟨5,.q []⟩,⟨6,.q []⟩,⟨7,.q []⟩,⟨8,.q [1]⟩,⟨9,.q [4]⟩,⟨10,.q []⟩,⟨11,.e 4 []⟩] mixed (by kernel_rfl) (by kernel_rfl) O O O<|zO O<|zO O<|zO O<|zO O<|zO O<|zO O<|zO O<|zO O<|zO O<|zO O<|zO O<|zO O<|wR<|zX O (by decide) O O (zS O O)<|zX O (by decide) O O (zS O O)<|zX O (by decide) O O (qG O O)<|zX O (by decide) O O (zJ O zFz O)<|zX O (by decide) O O (zK O one46 O (J 0 O) O)<|zX O (by decide) O O (zS O O)<|zX O (by decide) O O (qG O O)<|zX O (by decide) O O (zJ O zFz O)<|zX O (by decide) O O (zK O one46 O (J 0 O) O)<|zX O (by decide) O O (kF 0 O el46 O O)<|zX O (by decide) O O (yO O O O (by simp only [List.length_map,List.length_append,List.length_cons,List.length_nil];exact ⟨by omega,by omega⟩))<|zIu O O (by decide) O O (zFs (k:=W.length) 0 O el46 O O O (by simp only [List.length_map,List.length_append,List.length_cons,List.length_nil];omega) (by simp)) ?_
     rintro _ _ ⟨sv6,rfl,rfl⟩
     exact m6
   ·try simp only [sx] at c3
    rw [nextU_no c3,nextU_no c3] at hin
    refine zF<|zH<|zH<|zU ⟨_,E.row _ _ _::ckN b _ _ _ n u S (W++[(k:Int)])⟩ (Weak.mem [true,true,true,true,true] O)<|zP O<|G O<|zD O zEa<|zI zCa (J 0 O) O<|zZ O O (zHh [1,1,1,1] O ok106 (ih s (qC hs) _ _ _ u S (W++[(k:Int)]) (by first|omega|(simp;omega)) (by first|omega|(simp;omega)) (by simp;omega)) ⟨zB,O,zB,O,T⟩ O) ?_
    rintro _ _ ⟨_,⟨svL1,svS1,svP1,U1,S1,W1,rfl,hok,hno,rfl⟩,rfl⟩
    refine G O<|zA<|Y O<|G O<|yM O<|zA<|zE O (fun c4=>?_) (fun c4=>?_)
    ·exact j6
    ·try simp only [sx] at c4
     rw [←hin] at c4 hok
     obtain ⟨hU1,hS1,hW1⟩:=hok c4
     have hS2:=hS1.symm
     subst hU1 hS2 hW1
     refine zF<|Y O<|G O<|G O<|zN O<|zD O zIb<|zI zGt (J 1 O) O<|G O<|zZ O O (zFs (k:=S.length) 3 O el25 O O O (by simp) (by simp)) ?_
     rintro _ _ ⟨sv7,rfl,rfl⟩
     refine zN O<|zD O zIb<|D 1 sz25 O<|zA<|zU _ (Weak.vecEq 3 O (rows':=S.map fun s=>[cS s]) (by first|rfl|simp|rw [List.take_of_length_le (by simp)]))<|yP 12 0 [⟨0,.q []⟩,⟨1,.q []⟩,⟨2,.q []⟩,⟨3,.q []⟩,⟨4,.q [1]⟩,⟨5,.q []⟩,⟨6,.q []⟩,⟨7,.q []⟩,⟨8,.q [1]⟩,⟨9,.q [4]⟩,⟨10,.q []⟩,⟨11,.e 4 []⟩] mixed (by kernel_rfl) (by kernel_rfl) O O O<|zO O<|zO O<|zO O<|zO O<|zO O<|zO O<|zO O<|zO O<|zO O<|zO O<|zO O<|zO O<|wR<|zX O (by decide) O O (zS O O)<|zX O (by decide) O O (zS O O)<|zX O (by decide) O O (qG O O)<|zX O (by decide) O O (zJ O zFz O)<|zX O (by decide) O O (zK O one46 O (J 0 O) O)<|zX O (by decide) O O (zS O O)<|zX O (by decide) O O (qG O O)<|zX O (by decide) O O (zJ O zFz O)<|zX O (by decide) O O (zK O one46 O (J 0 O) O)<|zX O (by decide) O O (kF 0 O el46 O O)<|zX O (by decide) O O (yO O O O (by simp only [List.length_map,List.length_append,List.length_cons,List.length_nil];exact ⟨by omega,by omega⟩))<|zIu O O (by decide) O O (zFs (k:=W.length) 0 O el46 O O O (by simp only [List.length_map,List.length_append,List.length_cons,List.length_nil];omega) (by simp)) ?_
     rintro _ _ ⟨sv8,rfl,rfl⟩
     exact m6
 ·try simp only [sx] at c1
  refine qP<|Y O<|G O<|zA<|zG<|zV O ?_
  refine ⟨_,_,_,_,_,_,?_,fun _=>⟨?_,O,O⟩,fun h0=>?_,O⟩
  · rw [chkL_end hp (by omega)]
  · rw [chkL_end hp (by omega)]
  · rw [chkL_end hp (by omega)] at h0;exact absurd rfl h0
theorem zLi (b:Nat) (n:Ns) (hn:n.Ok) (s:St) (hl:stsWt s.Body<=536870912):∀(svL svS svP:Value) (U S:List ByteArray) (W:List Int),U.length+stsN s.Body<=1000000->S.length+stsN s.Body<=1000000->W.length+stsN s.Body<=1000000->Con cfg 106 [vP b,vSts s.Body] (ckN b svL svS svP n U S W) fun r μ'=>∃svL' svS' svP' U' S' W',r=vI (chkL n.Bufs U S W 0 s.Body).E/\((chkL n.Bufs U S W 0 s.Body).E=0->U'=(chkL n.Bufs U S W 0 s.Body).U/\S'=S/\W'=W)/\(¬(chkL n.Bufs U S W 0 s.Body).E=0->W'=(chkL n.Bufs U S W 0 s.Body).W)/\μ'=ckN b svL' svS' svP' n U' S' W':=by
  induction s using St.ind with
  |_ s ih=>
    intro svL svS svP U S W hU hS hW
    refine zEq b svL svS svP n U S W s.Body hn hU hS hW hl fun a ha=>ih a ha ?_
    have:=zCb ha;have:=St.body_wt a;omega
theorem ck_statements (b:Nat) (svL svS svP:Value) (n:Ns) (U S:List ByteArray) (W:List Int) (l:List St) (hn:n.Ok) (hU:U.length+stsN l<=1000000) (hS:S.length+stsN l<=1000000) (hW:W.length+stsN l<=1000000) (hl:stsWt l<=536870912):Con cfg 106 [vP b,vSts l] (ckN b svL svS svP n U S W) fun r μ'=>∃svL' svS' svP' U' S' W',r=vI (chkL n.Bufs U S W 0 l).E/\((chkL n.Bufs U S W 0 l).E=0->U'=(chkL n.Bufs U S W 0 l).U/\S'=S/\W'=W)/\(¬(chkL n.Bufs U S W 0 l).E=0->W'=(chkL n.Bufs U S W 0 l).W)/\μ'=ckN b svL' svS' svP' n U' S' W':=
  zEq b svL svS svP n U S W l hn hU hS hW hl fun s hs=>zLi b n hn s (by have:=zCb hs;have:=St.body_wt s;omega)
theorem zMm (n:Ns) (hn:n.Ok):
    Pur cfg 45 [vNs n] (.tup [vIs (validN n).1,vI (validN n).2]):=by
 refine zW Tryz.func45 O Tryz.ntmps45 Tryz.results45 O ?_
 intro z hz
 have hnb:=hn.body
 refine Y O<|zZ O O (qO O O) ?_
 rintro _ _ ⟨b1,rfl,rfl⟩
 refine qT 1 O<|G O<|zA<|zH<|Y O<|zD O zCg<|zI zCa (J 0 O) O<|qK O ok103 (zPk 40 n.Body 40 (by omega) (by omega) O) ⟨zB,O,zB,O,T⟩<|wG O<|zA<|zE O (fun c1=>?_) (fun c1=>?_)
 ·try simp only [sx] at c1
  refine Y O<|qT 1 O<|G O<|zA<|zG<|fin2 (N O) (N O) ?_
  rw [validN_13 c1];rfl
 ·try simp only [sx] at c1
  refine zF<|zH<|Y O<|zD O zCg<|zI zCa (J 0 O) O<|qK O ok104 (zKp n.Body 2000 2000 (by omega) (by omega) O) ⟨zB,O,zB,O,T⟩<|zR O (yU O O O)<|G O<|rL0 O (fun g3_4=>zJ O zCl O) O<|rL1 16 O (fun g3_4=>zK O zKf O (J 0 O) O) O<|rL1 17 O (fun g3_4=>yW O el39 O) O<|rL1 18 O (fun g3_4=>yU O O O) O<|r_or O (fun h=>(lzf h))<|zA<|zE O (fun c2=>?_) (fun c2=>?_)
  ·try simp only [sx] at c2
   refine Y O<|qT 1 O<|G O<|zA<|zG<|fin2 (N O) (N O) ?_
   rw [validN_2 c1 (by omega)];rfl
  ·try simp only [sx] at c2
   have hnum:=numB_ok (l:=n.Body) (m:=2000) (by omega)
   refine zF<|zH<|Y O<|zD O zCl<|zI zKf (J 0 O) O<|qK O ok105 (zHp n.Bufs hn.bufs hn.dims) ⟨zB,O,T⟩<|G O<|zA<|Y O<|G O<|yM O<|zA<|zE O (fun c3=>?_) (fun c3=>?_)
   ·try simp only [sx] at c3
    refine Y O<|G O<|qT 1 O<|G O<|zA<|zG<|fin2 (N O) (N O) ?_
    rw [validN_b c1 (by omega) c3];rfl
   ·try simp only [sx] at c3
    refine zF<|Y O<|zM zGw (J 0 O) O<|yF O zr172 pl172<|zZ O O (qO O O) ?_
    rintro _ _ ⟨b2,rfl,rfl⟩
    refine yK _ (kI 9 1)<|yK _ (kI 9 1)<|yK _ (kI 3 1)<|G O<|zA<|zH<|Y O<|G O<|zD O zCg<|zI zCa (J 4 O) O<|zZ O O (zHh [3,2,1,0] O ok106 (ck_statements b2 _ _ _ n [] [] [] n.Body hn (by simp;omega) (by simp;omega) (by simp;omega) hnb) ⟨zB,O,zB,O,T⟩ O) ?_
    rintro _ _ ⟨_,⟨svL1,svS1,svP1,U1,S1,W1,rfl,hok,hno,rfl⟩,rfl⟩
    refine G O<|zA<|Y O<|G O<|yM O<|zA<|zE O (fun c4=>?_) (fun c4=>?_)
    ·try simp only [sx] at c4
     have hW1:=hno c4
     subst hW1
     refine zU _ (yJ 0 O (regs':=[]) (μ':=[_,_,_,_]) T ⟨EFle.refl _,EFle.refl _,EFle.row (ds:=[_,_,_,_,_]) ⟨.inl O,.inl O,.inl O,.inl O,.inr ⟨O,O⟩,T⟩,EFle.refl _,T⟩)<|Y O<|G O<|zN O<|zD O zFz<|zI one46 (J 2 O) O<|G O<|G O<|G O<|zA<|zG<|fin2 (N O) (N O) ?_
     rw [validN_c c1 (by omega) c3]
    ·try simp only [sx] at c4
     refine zF<|Y O<|qT 1 O<|G O<|zA<|zG<|fin2 (N O) (N O) ?_
     rw [validN_c c1 (by omega) c3,chkL_ok c4,c4];rfl
end Go.W
