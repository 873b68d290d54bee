/-
  Walks: what functions of the program compute. Printed by wip/gen/mk2.py.
  Conditions: none.
-/
import Derived.Test.YtmmiedgoamlhpaaGreatDoorNA
set_option linter.unusedSimpArgs false
set_option linter.unusedVariables false
set_option maxRecDepth 10000
namespace Go.W
open Go Go.Eng Go.Proofs Go.L41 Go.Br
attribute [local irreducible] AWP RWP TD finQ
abbrev ckN (b:Nat) (svL svS svP:Value) (n:Ns) (U S:List ByteArray) (W:List Int):List E:=
  [.row b 167 [.sl 8 (n.Bufs.map Bf.cells),.sl 20 (n.Body.map St.cells),.lit svL,.lit svS,.lit svP],.vec svL 9 1 (U.map fun s=>[cS s]),.vec svS 9 1 (S.map fun s=>[cS s]),.vec svP 3 1 (W.map fun i=>[cI i])]
abbrev vP (b:Nat):V:=.c (.lit (.pointer (some ⟨b,0,none⟩)))
theorem zBb:aggT Tryz.prog 53=some 2:=by kernel_rfl
theorem zDe:aggT Tryz.prog 110=some 20:=by kernel_rfl
theorem el23:elemT Tryz.prog 23=some (65,5,40):=by kernel_rfl
theorem zFf:fieldT Tryz.prog 53 1=some (1,51):=by kernel_rfl
theorem zAf:fieldT Tryz.prog 110 0=some (0,3):=by kernel_rfl
theorem wZ:fieldT Tryz.prog 110 1=some (1,9):=by kernel_rfl
theorem zFo:fieldT Tryz.prog 110 2=some (2,3):=by kernel_rfl
theorem zIs:fieldT Tryz.prog 110 3=some (3,3):=by kernel_rfl
theorem zIr:fieldT Tryz.prog 110 4=some (4,3):=by kernel_rfl
theorem zDl:fieldT Tryz.prog 110 5=some (5,105):=by kernel_rfl
theorem zAv:fieldT Tryz.prog 110 6=some (6,108):=by kernel_rfl
theorem zNr:fieldT Tryz.prog 167 0=some (0,53):=by kernel_rfl
theorem fd167_1:fieldT Tryz.prog 167 1=some (2,123):=by kernel_rfl
theorem zIp:fieldT Tryz.prog 167 2=some (3,123):=by kernel_rfl
theorem zGv:fieldT Tryz.prog 167 3=some (4,55):=by kernel_rfl
theorem ok84:callOk Tryz.prog 84=true:=by kernel_rfl
theorem ok85:callOk Tryz.prog 85=true:=by kernel_rfl
theorem ok133:callOk Tryz.prog 133=true:=by kernel_rfl
theorem ok151:callOk Tryz.prog 151=true:=by kernel_rfl
theorem ok190:callOk Tryz.prog 190=true:=by kernel_rfl
theorem ok191:callOk Tryz.prog 191=true:=by kernel_rfl
theorem ok192:callOk Tryz.prog 192=true:=by kernel_rfl
theorem ok194:callOk Tryz.prog 194=true:=by kernel_rfl
theorem ok253:callOk Tryz.prog 253=true:=by kernel_rfl
theorem ok254:callOk Tryz.prog 254=true:=by kernel_rfl
theorem ok255:callOk Tryz.prog 255=true:=by kernel_rfl
theorem ok256:callOk Tryz.prog 256=true:=by kernel_rfl
theorem ok311:callOk Tryz.prog 311=true:=by kernel_rfl
theorem ok313:callOk Tryz.prog 313=true:=by kernel_rfl
theorem ok314:callOk Tryz.prog 314=true:=by kernel_rfl
theorem ok315:callOk Tryz.prog 315=true:=by kernel_rfl
theorem ok353:callOk Tryz.prog 353=true:=by kernel_rfl
theorem ok354:callOk Tryz.prog 354=true:=by kernel_rfl
theorem ok355:callOk Tryz.prog 355=true:=by kernel_rfl
theorem zOh:oneT Tryz.prog 165=true:=by kernel_rfl
theorem zRn:placesT Tryz.prog 108=some [(0,1),(1,1),(2,2),(4,5),(9,2),(11,1),(12,1)]:=by kernel_rfl
theorem pl167:placesT Tryz.prog 167=some [(0,2),(2,1),(3,1),(4,1)]:=by kernel_rfl
theorem sz65:(Tryz.prog.info? 65).map (·.size)=some 5:=by kernel_rfl
theorem sz110:(Tryz.prog.info? 110).map (·.size)=some 20:=by kernel_rfl
theorem zQb:zeroT Tryz.prog 110=some [(Value.int IntKind.i64 0),(Value.string (ByteArray.mk #[])),(Value.int IntKind.i64 0),(Value.int IntKind.i64 0),(Value.int IntKind.i64 0),(Value.slice none 0 0),(Value.int IntKind.i64 0),(Value.string (ByteArray.mk #[])),(Value.int IntKind.i64 0),(Value.int IntKind.i64 0),(Value.int IntKind.i64 0),(Value.int IntKind.i64 0),(Value.int IntKind.i64 0),(Value.int IntKind.i64 0),(Value.int IntKind.i64 0),(Value.int IntKind.i64 0),(Value.slice none 0 0),(Value.slice none 0 0),(Value.slice none 0 0),(Value.slice none 0 0)]:=by kernel_rfl
theorem zr167:zeroT Tryz.prog 167=some [(Value.slice none 0 0),(Value.slice none 0 0),(Value.slice none 0 0),(Value.slice none 0 0),(Value.slice none 0 0)]:=by kernel_rfl
theorem zHn (l:List Mono) (c:C) (p:Mono->Bool) (μ:List E) (hl:l.length<=4294967296) (hc:∀x,x∈l->FnCon cfg c [vMono x] μ fun r μ'=>r=vB (p x)/\μ'=μ):
    Con cfg 377 [vMonos l,.c c] μ fun r μ'=>r=vI (idxOf p l)/\μ'=μ:=by
 refine zS Tryz.func377 O Tryz.ntmps377 Tryz.results377 O ?_
 intro z hz
 refine A O<|G O<|R<|zK<|A O<|G O<|zZ O el99<|G O<|R<|zR<|zX ⟨[(8,.c _),(0,.c _),(1,.c _),(7,.c _)],_⟩ (Weak.regs ⟨Y,Y,Y,Y,T⟩)<|zEn 1 O (Nat) (fun k=>[(8,vI k)]) (fun k=>μ) (fun k=>k<=l.length/\((l.take k).any p=false)) (fun k=>l.length-k) ⟨0,⟨by omega,O⟩,Weak.regs ⟨Y,Y,Y,Y,T⟩⟩ ?_
 rintro k ⟨hk,hp⟩
 refine A O<|yJ O<|R<|zK<|zC O (fun c1=>?_) (fun c1=>?_)
 ·try simp only [sx] at c1
  obtain ⟨x,hx⟩:=qY l k (by omega)
  refine zI<|zK<|zR<|A O<|G O<|G O<|R<|A O<|G O<|G O<|G O<|qE O el99 (by omega) (getm (by assumption))<|zO zTq qA O<|zU O O (zAl O O (hc _ (zY hx)) ⟨Y,O,T⟩) ?_
  rintro _ _ ⟨rfl,rfl⟩
  refine R<|zC O (fun c2=>?_) (fun c2=>?_)
  ·try simp only [sx] at c2
   refine A O<|G O<|G O<|R<|zF<|zQ O ?_
   exact ⟨by rw [zPl hx c2 hp],O⟩
  ·try simp only [sx] at c2
   refine zI<|zN O<|qI O ⟨by omega,by omega⟩<|G O<|R ?_
   refine ⟨k+1,⟨by omega,zJt hx hp c2⟩,(by omega),Weak.regs ⟨Y,Y,Y,Y,T⟩⟩
 ·try simp only [sx] at c1
  refine qP<|A O<|G O<|R<|zF<|zQ O ?_
  exact ⟨by rw [zJl (by rw [yE (by omega)] at hp;exact hp)],O⟩
theorem zFk (l:List Mono) (c:C) (p:Mono->Bool) (μ:List E) (hl:l.length<=4294967296) (hc:∀x,x∈l->FnCon cfg c [vMono x] μ fun r μ'=>r=vB (p x)/\μ'=μ):
    Con cfg 353 [vMonos l,.c c] μ fun r μ'=>r=vB (l.any p)/\μ'=μ:=by
 refine zS Tryz.func353 O Tryz.ntmps353 Tryz.results353 O ?_
 intro z hz
 refine A O<|G O<|R<|A O<|G O<|G O<|zU O O (zBy O ok377 (zHn l c p μ hl hc) ⟨Y,O,Y,O,T⟩) ?_
 rintro _ _ ⟨rfl,rfl⟩
 refine zT O (wO O O O)<|G O<|R<|zF<|zQ O ?_
 exact ⟨by rw [zMc],O⟩
theorem zJx (l:List Lf) (c:C) (p:Lf->Bool) (μ:List E) (hl:l.length<=4294967296) (hc:∀x,x∈l->FnCon cfg c [vLin x] μ fun r μ'=>r=vB (p x)/\μ'=μ):
    Con cfg 355 [vLins l,.c c] μ fun r μ'=>r=vI (idxOf p l)/\μ'=μ:=by
 refine zS Tryz.func355 O Tryz.ntmps355 Tryz.results355 O ?_
 intro z hz
 refine A O<|G O<|R<|zK<|A O<|G O<|zZ O wV<|G O<|R<|zR<|zX ⟨[(8,.c _),(0,.c _),(1,.c _),(7,.c _)],_⟩ (Weak.regs ⟨Y,Y,Y,Y,T⟩)<|zEn 1 O (Nat) (fun k=>[(8,vI k)]) (fun k=>μ) (fun k=>k<=l.length/\((l.take k).any p=false)) (fun k=>l.length-k) ⟨0,⟨by omega,O⟩,Weak.regs ⟨Y,Y,Y,Y,T⟩⟩ ?_
 rintro k ⟨hk,hp⟩
 refine A O<|yJ O<|R<|zK<|zC O (fun c1=>?_) (fun c1=>?_)
 ·try simp only [sx] at c1
  obtain ⟨x,hx⟩:=qY l k (by omega)
  refine zI<|zK<|zR<|A O<|G O<|G O<|R<|A O<|G O<|G O<|G O<|qE O wV (by omega) (getm (by assumption))<|zO kL qA O<|zU O O (zAl O O (hc _ (zY hx)) ⟨Y,O,T⟩) ?_
  rintro _ _ ⟨rfl,rfl⟩
  refine R<|zC O (fun c2=>?_) (fun c2=>?_)
  ·try simp only [sx] at c2
   refine A O<|G O<|G O<|R<|zF<|zQ O ?_
   exact ⟨by rw [zPl hx c2 hp],O⟩
  ·try simp only [sx] at c2
   refine zI<|zN O<|qI O ⟨by omega,by omega⟩<|G O<|R ?_
   refine ⟨k+1,⟨by omega,zJt hx hp c2⟩,(by omega),Weak.regs ⟨Y,Y,Y,Y,T⟩⟩
 ·try simp only [sx] at c1
  refine qP<|A O<|G O<|R<|zF<|zQ O ?_
  exact ⟨by rw [zJl (by rw [yE (by omega)] at hp;exact hp)],O⟩
theorem zGf (l:List Lf) (c:C) (p:Lf->Bool) (μ:List E) (hl:l.length<=4294967296) (hc:∀x,x∈l->FnCon cfg c [vLin x] μ fun r μ'=>r=vB (p x)/\μ'=μ):
    Con cfg 314 [vLins l,.c c] μ fun r μ'=>r=vB (l.any p)/\μ'=μ:=by
 refine zS Tryz.func314 O Tryz.ntmps314 Tryz.results314 O ?_
 intro z hz
 refine A O<|G O<|R<|A O<|G O<|G O<|zU O O (zBy O ok355 (zJx l c p μ hl hc) ⟨Y,O,Y,O,T⟩) ?_
 rintro _ _ ⟨rfl,rfl⟩
 refine zT O (wO O O O)<|G O<|R<|zF<|zQ O ?_
 exact ⟨by rw [zMc],O⟩
theorem inScope_1 (b:Nat) (svL svS svP:Value) (n:Ns) (U S:List ByteArray) (W:List Int) (m:Mono) (hS:S.length<=1000000):
    Con cfg 354 [vMono m,.c (.iptr [.lit (.pointer (some ⟨b,0,none⟩))])] (ckN b svL svS svP n U S W) fun r μ'=>r=vB (!hasB S m.Name)/\μ'=ckN b svL svS svP n U S W:=by
 refine zS Tryz.func354 O Tryz.ntmps354 Tryz.results354 O ?_
 intro z hz
 refine A O<|zU O O (qN O O) ?_
 rintro _ _ ⟨b1,rfl,rfl⟩
 refine G O<|R<|zK<|qU 6 mixed (by kernel_rfl) O O<|J O O (zJ O zOh O qA O)<|J O O (qB O O)<|J O O (zE O zIp O)<|J O O (zJ O zId O (zD 1 O) O)<|J O O (zE O zEb O)<|J O O (zJ O one9 O (zD 0 O) O)<|yO<|zT O (zHa 3 O ok251 O (zCp S m.Name (by omega)) O ⟨.inl ⟨O,O⟩,.inr ⟨Y,O⟩,T⟩)<|wA O<|G O<|R<|zX _ (Weak.mem [false,true,true,true,true] O)<|zF<|zQ O ?_
 exact ⟨O,O⟩
theorem zNx (b:Nat) (svL svS svP:Value) (n:Ns) (U S:List ByteArray) (W:List Int) (l:Lf) (hS:S.length<=1000000) (hl:l.L.length<=4294967296):
    Con cfg 313 [vP b,vLin l] (ckN b svL svS svP n U S W) fun r μ'=>r=vB (inSc S l)/\μ'=ckN b svL svS svP n U S W:=by
 refine zS Tryz.func313 O Tryz.ntmps313 Tryz.results313 O ?_
 intro z hz
 refine A O<|zU O O (qN O O) ?_
 rintro _ _ ⟨b1,rfl,rfl⟩
 refine yX _ (kJ 0 O 2 _ PLe.ptr)<|zU O O (qN O O) ?_
 rintro _ _ ⟨b2,rfl,rfl⟩
 refine G O<|R<|A O<|zH O kT<|zM zBp (zD 0 O) O<|zT O (zCn O O O O O)<|zT O (kH [1,1,1,1] O ok353 (zFk l.L _ (fun m=> !hasB S m.Name) (ckN b svL svS svP n U S W) hl (fun m _=>FnCon.of_con (first:=[]) (cap:=[.iptr [.lit (.pointer (some ⟨b,0,none⟩))]]) ok354 (inScope_1 b svL svS svP n U S W m hS))) ⟨Y,O,Y,O,T⟩ O)<|wA O<|G O<|R<|zX _ (Weak.mem [false,true,true,true,true] O)<|zF<|zQ O ?_
 exact ⟨by rw [zIe];rfl,O⟩
theorem node_1 (b:Nat) (svL svS svP:Value) (n:Ns) (U S:List ByteArray) (W:List Int) (l:Lf) (hS:S.length<=1000000) (hl:l.L.length<=4294967296):
    Con cfg 315 [vLin l,.c (.iptr [.lit (.pointer (some ⟨b,0,none⟩))])] (ckN b svL svS svP n U S W) fun r μ'=>r=vB (!inSc S l)/\μ'=ckN b svL svS svP n U S W:=by
 refine zS Tryz.func315 O Tryz.ntmps315 Tryz.results315 O ?_
 intro z hz
 refine A O<|zU O O (qN O O) ?_
 rintro _ _ ⟨b1,rfl,rfl⟩
 refine G O<|R<|A O<|zM zOh qA O<|zO kL (zD 0 O) O<|zT O (kH [1,1,1,1] O ok313 (zNx b svL svS svP n U S W l hS hl) ⟨Y,O,Y,O,T⟩ O)<|wA O<|G O<|R<|zX _ (Weak.mem [false,true,true,true,true] O)<|zF<|zQ O ?_
 exact ⟨O,O⟩
theorem ck_node (b:Nat) (svL svS svP:Value) (n:Ns) (U S:List ByteArray) (W:List Int) (e:Ex) (hn:n.Ok) (hS:S.length<=1000000) (he:e.wt<=1073741824):
    Con cfg 255 [vP b,vE e] (ckN b svL svS svP n U S W) fun r μ'=>r=vI (nodeN n.Bufs S e)/\μ'=ckN b svL svS svP n U S W:=by
 refine zS Tryz.func255 O Tryz.ntmps255 Tryz.results255 O ?_
 intro z hz
 obtain ⟨hL,hI,hA⟩:=e.parts he
 have hwt:=Ex.wt_eq e
 refine A O<|zU O O (qN O O) ?_
 rintro _ _ ⟨b1,rfl,rfl⟩
 refine yX _ (kJ 0 O 2 _ PLe.ptr)<|zU O O (qN O O) ?_
 rintro _ _ ⟨b2,rfl,rfl⟩
 refine G O<|R<|A O<|zM zOh qA O<|zH O zCs<|zO kL (zD 0 O) O<|zT O (kH [1,1,1,1] O ok313 (zNx b svL svS svP n U S W e.Lin hS (by omega)) ⟨Y,O,Y,O,T⟩ O)<|G O<|R<|zK<|A O<|zH O yV<|zM kF (zD 0 O) O<|zZ O kO<|G O<|R<|zR<|zX ⟨[(20,.c _),(5,.c _),(2,.c _),(3,.c _),(18,.c _),(19,.c _)],[_,_,_,_,_]⟩ (Weak.mk [true,true,true,true,true] ⟨Y,Y,Y,Y,Y,Y,T⟩ O) ?_
 refine qG 2 0 O O (Nat) (fun k=>[(20,vI k),(5,vB (inSc S e.Lin&&(e.Idx.take k).all (ixSc S)))]) (fun k=>[]) (fun k=>k<=e.Idx.length) (fun k=>e.Idx.length-k) ⟨0,(by omega),Weak.mk [true,true,true,true,true] ⟨Y,VLe.of_eq (congrArg vB (by simp)),Y,Y,Y,Y,T⟩ O⟩ ?_
 rintro k hk
 refine A O<|yJ O<|R<|zK<|zC O (fun c1=>?_) (fun c1=>?_)
 ·try simp only [sx] at c1
  obtain ⟨x,hx⟩:=qY e.Idx k (by omega)
  refine zI<|zK<|zR<|A O<|qE O kO (by omega) (getm (by assumption))<|zO zDf qA O<|zU O O (qT [none,some 2,none,some 2] O zLf O) ?_
  rintro _ _ ⟨b3,rfl,rfl⟩
  refine rStR 0 sz104 O<|R<|zN O<|G O<|G O<|rL0 O (fun g5_1=>zJ O zOh O qA O) O<|rL0 O (fun g5_1=>zE O zAh O) O<|rL1 27 O (fun g5_1=>zV O kL O (zD 0 O) O) O<|rLz [(26,_),(28,_)] O gv1 ⟨O,O,O,O,T⟩ (fun g5_1=>kH [2,2,2,2] O ok313 (zNx b svL svS svP n U S W x.Lin hS (by have:=Ex.idx_wt (zY hx);omega)) ⟨Y,O,Y,O,T⟩ O) O<|yZ O (fun h=>h)<|G O<|rL0 O (fun g5_7=>zE O wC O) O<|rL1 32 O (fun g5_7=>zJ O zAk O (zD 0 O) O) O<|rL0 O (fun g5_7=>zCn O O O O O) O<|rLz [(33,_),(34,_)] O gv1 ⟨O,O,O,O,T⟩ (fun g5_7=>kH [2,2,2,2] O ok314 (zGf x.At _ (fun l=> !inSc S l) (ckN b svL svS svP n U S W) (by have:=Ex.idx_wt (zY hx);omega) (fun l hl=>FnCon.of_con (first:=[]) (cap:=[.iptr [.lit (.pointer (some ⟨b,0,none⟩))]]) ok315 (node_1 b svL svS svP n U S W l hS (by have:=Ex.idx_wt (zY hx);have:=zAd hl;omega)))) ⟨Y,O,Y,O,T⟩ O) O<|rL1 35 O (fun g5_7=>wL O O) O<|yZ O (fun h=>h)<|G O<|R<|zN O<|qI O ⟨by omega,by omega⟩<|G O<|R ?_
  refine ⟨k+1,(by omega),(by omega),Weak.mk [false,true,true,true,true,true] ⟨Y,VLe.of_eq (congrArg vB (by rw [zIe];exact scAll_next hx)),Y,Y,Y,Y,T⟩ O⟩
 ·try simp only [sx] at c1
  rw [yE (l:=e.Idx) (k:=k) (by omega)]
  refine qP<|zK<|A O<|G O<|wA O<|R<|zC O (fun c2=>?_) (fun c2=>?_)
  ·have h9:nodeSc S e=false:=(Bool.not_eq_true' _).mp c2
   refine A O<|G O<|R<|zX _ (Weak.mem [false,true,true,true,true] O)<|zF<|zQ O ?_
   exact ⟨by rw [nodeN_9 h9],O⟩
  ·have h9:nodeSc S e=true:=(Bool.not_eq_false' _).mp c2
   refine zI<|zK<|A O<|zH O kA<|zM one3 (zD 0 O) O<|kP O<|R<|zC O (fun c3=>?_) (fun c3=>?_)
   ·try simp only [sx] at c3
    refine A O<|G O<|R<|zX _ (Weak.mem [false,true,true,true,true] O)<|zF<|zQ O ?_
    exact ⟨by rw [nodeN_o h9 c3],O⟩
   ·try simp only [sx] at c3
    refine zI<|zK<|kN 12 1 [⟨0,.q []⟩,⟨1,.q []⟩,⟨2,.q []⟩,⟨3,.q [2]⟩,⟨4,.q []⟩,⟨5,.q [1]⟩,⟨6,.q []⟩,⟨7,.q []⟩,⟨8,.q []⟩,⟨9,.q []⟩,⟨10,.e 0 []⟩,⟨11,.e 0 []⟩] mixed (by kernel_rfl) (by kernel_rfl) O O O<|zW O<|zW O<|zW O<|zW O<|zW O<|zW O<|zW O<|zW O<|zW O<|zW O<|zW O<|zW O<|zCc<|qF O (by decide) O O (zJ O zOh O qA O)<|qF O (by decide) O O (qB O O)<|qF O (by decide) O O (zE O zNr O)<|qF O (by decide) O O (zV O zBb O (zD 0 O) O)<|qF O (by decide) O O (zE O zBs O)<|qF O (by decide) O O (zJ O one9 O (zD 0 O) O)<|qF O (by decide) O O (qC O ok254 (zAs n e.Name hn) ⟨Y,O,Y,O,T⟩)<|qF O (by decide) O O (yH O O)<|qF O (by decide) O O (yW O O O)<|qF O (by decide) O O (kC O O O)<|zJw O O (by decide) O O (qT [none,none,none,none,none,none,some 1,none] O zr95 O) ?_
    rintro _ _ ⟨b4,rfl,rfl⟩
    refine ⟨_,O,?_⟩
    refine zKc O O (by decide) O O (zAn O sz95 O O O (zKa 0 O O)) ?_
    rintro _ _ ⟨rfl,rfl⟩
    refine ⟨_,O,?_⟩
    refine zCb O<|G O<|R<|zK<|A O<|G O<|wA O<|R<|zC O (fun c4=>?_) (fun c4=>?_)
    ·try simp only [sx] at c4
     refine A O<|G O<|R<|zX _ (Weak.mem [false,false,true,true,true,true] O)<|zF<|zQ O ?_
     exact ⟨by rw [nodeN_n h9 (by omega) c4],O⟩
    ·try simp only [sx] at c4
     refine zI<|zK<|A O<|zH O zEt<|zM zEh (zD 0 O) O<|zZ O el55<|zH O yV<|zM kF (zD 1 O) O<|zZ O kO<|kP O<|R<|zC O (fun c5=>?_) (fun c5=>?_)
     ·try simp only [sx] at c5
      refine A O<|G O<|R<|zX _ (Weak.mem [false,false,true,true,true,true] O)<|zF<|zQ O ?_
      exact ⟨by rw [nodeN_r h9 (by omega) c4 (by omega)],O⟩
     ·try simp only [sx] at c5
      refine zI<|zK<|A O<|zH O yV<|zM kF (zD 1 O) O<|zZ O kO<|G O<|R<|zR<|zX ⟨[(66,.c _),(2,.c _),(64,.c _),(65,.c _)],[_,_,_,_]⟩ (Weak.mk [false,false,true,true,true,true] ⟨Y,Y,Y,Y,T⟩ O)<|qG 1 0 O O (Nat) (fun j=>[(66,vI j)]) (fun j=>[]) (fun j=>j<=e.Idx.length/\(gathL n.Bufs e.Idx=gathL n.Bufs (e.Idx.drop j))) (fun j=>e.Idx.length-j) ⟨0,⟨by omega,O⟩,Weak.mk [true,true,true,true] ⟨Y,Y,Y,Y,T⟩ O⟩ ?_
      rintro j ⟨hk,hq⟩
      refine A O<|yJ O<|R<|zK<|zC O (fun c6=>?_) (fun c6=>?_)
      ·try simp only [sx] at c6
       obtain ⟨y,hy⟩:=qY e.Idx j (by omega)
       refine zI<|zK<|zR<|A O<|qE O kO (by omega) (getm (by assumption))<|zO zDf qA O<|zU O O (qT [none,some 2,none,some 2] O zLf O) ?_
       rintro _ _ ⟨b5,rfl,rfl⟩
       refine rStR 0 sz104 O<|R<|zK<|A O<|zH O zAg<|zM one9 (zD 0 O) O<|wF O<|R<|zC O (fun c7=>?_) (fun c7=>?_)
       ·try simp only [sx] at c7
        refine qP<|zN O<|qI O ⟨by omega,by omega⟩<|G O<|R ?_
        refine ⟨j+1,⟨by omega,hq.trans (zJn hy (by first|exact gathE_0 c7|exact zPm c7 c8 (by omega) (by omega)))⟩,(by omega),Weak.mk [false,true,true,true,true] ⟨Y,Y,Y,Y,T⟩ O⟩
       ·try simp only [sx] at c7
        refine zI<|zK<|kN 12 1 [⟨0,.q []⟩,⟨1,.q []⟩,⟨2,.q []⟩,⟨3,.q [2]⟩,⟨4,.q []⟩,⟨5,.q [1]⟩,⟨6,.q []⟩,⟨7,.q []⟩,⟨8,.q []⟩,⟨9,.q []⟩,⟨10,.e 0 []⟩,⟨11,.e 0 []⟩] mixed (by kernel_rfl) (by kernel_rfl) O O O<|zW O<|zW O<|zW O<|zW O<|zW O<|zW O<|zW O<|zW O<|zW O<|zW O<|zW O<|zW O<|zCc<|qF O (by decide) O O (zJ O zOh O qA O)<|qF O (by decide) O O (qB O O)<|qF O (by decide) O O (zE O zNr O)<|qF O (by decide) O O (zV O zBb O (zD 0 O) O)<|qF O (by decide) O O (zE O zAg O)<|qF O (by decide) O O (zJ O one9 O (zD 0 O) O)<|qF O (by decide) O O (qC O ok254 (zAs n y.From hn) ⟨Y,O,Y,O,T⟩)<|qF O (by decide) O O (yH O O)<|qF O (by decide) O O (yW O O O)<|qF O (by decide) O O (kC O O O)<|zJw O O (by decide) O O (qT [none,none,none,none,none,none,some 1,none] O zr95 O) ?_
        rintro _ _ ⟨b6,rfl,rfl⟩
        refine ⟨_,O,?_⟩
        refine zKc O O (by decide) O O (zAn O sz95 O O O (zKa 0 O O)) ?_
        rintro _ _ ⟨rfl,rfl⟩
        refine ⟨_,O,?_⟩
        refine zCb O<|G O<|R<|zR<|A O<|G O<|wA O<|G O<|R<|zC O (fun c8=>?_) (fun c8=>?_)
        ·try simp only [sx] at c8
         refine A O<|G O<|R<|zX _ (Weak.mem [false,false,true,true,true,true] O)<|zF<|zQ O ?_
         exact ⟨by rw [zIf h9 (by omega) c4 (by omega),hq,zJm hy (by rw [gathE_9 c7 c8];decide),gathE_9 c7 c8],O⟩
        ·try simp only [sx] at c8
         refine A O<|zH O zIn<|zH O zDd<|zM one3 (zD 0 O) O<|kP O<|G O<|R<|zC O (fun c9=>?_) (fun c9=>?_)
         ·try simp only [sx] at c9
          refine A O<|G O<|R<|zX _ (Weak.mem [false,false,true,true,true,true] O)<|zF<|zQ O ?_
          exact ⟨by rw [zIf h9 (by omega) c4 (by omega),hq,zJm hy (by rw [zPo c7 c8 c9];decide),zPo c7 c8 c9],O⟩
         ·try simp only [sx] at c9
          refine A O<|zH O zEt<|zM zEh (zD 0 O) O<|zZ O el55<|zH O wC<|zM zAk (zD 1 O) O<|zZ O wV<|kP O<|G O<|R<|zC O (fun c10=>?_) (fun c10=>?_)
          ·try simp only [sx] at c10
           refine A O<|G O<|R<|zX _ (Weak.mem [false,false,true,true,true,true] O)<|zF<|zQ O ?_
           exact ⟨by rw [zIf h9 (by omega) c4 (by omega),hq,zJm hy (by rw [zPn c7 c8 c9 (by omega)];decide),zPn c7 c8 c9 (by omega)],O⟩
          ·try simp only [sx] at c10
           refine zI<|zN O<|qI O ⟨by omega,by omega⟩<|G O<|R ?_
           refine ⟨j+1,⟨by omega,hq.trans (zJn hy (by first|exact gathE_0 c7|exact zPm c7 c8 (by omega) (by omega)))⟩,(by omega),Weak.mk [false,false,true,true,true,true] ⟨Y,Y,Y,Y,T⟩ O⟩
      ·try simp only [sx] at c6
       refine qP<|A O<|G O<|R<|zF<|zQ O ?_
       exact ⟨by rw [zIf h9 (by omega) c4 (by omega),hq,kW (by omega)];rfl,O⟩
theorem ck_typeOf_step (b:Nat) (svL svS svP:Value) (n:Ns) (U S:List ByteArray) (W:List Int) (hn:n.Ok) (e:Ex) (ih:∀a,a∈e.Args->partE a=0->a.wt<=1073741824->Con cfg 256 [vP b,vE a] (ckN b svL svS svP n U S W) fun r μ'=>r=.tup [vTy (nodeT (tyF n.Bufs) a).1,vI (nodeT (tyF n.Bufs) a).2]/\μ'=ckN b svL svS svP n U S W) (hpart:partE e=0) (he:e.wt<=1073741824):
    Con cfg 256 [vP b,vE e] (ckN b svL svS svP n U S W) fun r μ'=>r=.tup [vTy (nodeT (tyF n.Bufs) e).1,vI (nodeT (tyF n.Bufs) e).2]/\μ'=ckN b svL svS svP n U S W:=by
 refine Con.drop<|zS Tryz.func256 O Tryz.ntmps256 Tryz.results256 O ?_
 intro z hz
 obtain ⟨hLl,hIl,hAl⟩:=e.parts he
 have hwt:=Ex.wt_eq e
 refine A O<|zU O O (qN O O) ?_
 rintro _ _ ⟨b1,rfl,rfl⟩
 refine zU O O (yL O zr65) ?_
 rintro _ _ ⟨b2,rfl,rfl⟩
 refine G O<|R<|A O<|G O<|yX _ (wI 65 5)<|R<|zK<|A O<|zH O yY<|zM kU (zD 2 O) O<|zZ O wE<|G O<|R<|zR<|zX ⟨[(16,.c _),(6,.c _),(0,.c _),(3,.c _),(4,.c _),(14,.c _),(15,.c _)],[_,_,_,_,_,_,_]⟩ (Weak.mk [true,true,true,true,true,true,true] ⟨Y,Y,Y,Y,Y,Y,Y,T⟩ O)<|qG 2 1 O O (Nat×Value) (fun ⟨k,sv⟩=>[(16,vI k),(6,.c (.lit sv))]) (fun ⟨k,sv⟩=>[E.vec sv 65 5 ((nodeL (tyF n.Bufs) (e.Args.take k)).1.map tyC)]) (fun ⟨k,sv⟩=>k<=e.Args.length/\((nodeL (tyF n.Bufs) (e.Args.take k)).2=0)) (fun ⟨k,sv⟩=>e.Args.length-k) ⟨⟨0,(.slice none 0 0)⟩,⟨by omega,O⟩,Weak.mk [true,true,true,true,true,true,true] ⟨Y,Y,Y,Y,Y,Y,Y,T⟩ O⟩ ?_
 rintro ⟨k,sv⟩ ⟨hk,hp⟩
 show AWP _ _ _ _ _ ⟨[(16,vI k),(6,.c (.lit sv))]++_,[E.vec sv 65 5 ((nodeL (tyF n.Bufs) (e.Args.take k)).1.map tyC)]++_⟩
 refine A O<|yJ O<|R<|zK<|zC O (fun c1=>?_) (fun c1=>?_)
 ·try simp only [sx] at c1
  obtain ⟨x,hx⟩:=qY e.Args k (by omega)
  have hll:=zFs _ _ hp
  refine zI<|zK<|zR<|A O<|qE O wE (by omega) (zBr (by assumption))<|zO qX qA O<|zU O O (qT [none,none,none,none,none,none,none,none,none,none,some 2,some 4,some 13] O zDx O) ?_
  rintro _ _ ⟨b4,rfl,rfl⟩
  refine rStR 0 zNb O<|R<|A O<|G O<|zO qX (zD 0 O) O<|zT O (kH [4,4,4,4] O ok256 (ih x (zY hx) (zBc hpart (zY hx)) (by have:=Ex.arg_wt (zY hx);omega)) ⟨Y,O,Y,O,T⟩ O)<|zT O (yH O O)<|zT O (yW O O O)<|zT O (kC O O O)<|zU O O (yL O zr65) ?_
  rintro _ _ ⟨b5,rfl,rfl⟩
  refine rStR 0 sz65 O<|G O<|R<|zK<|A O<|G O<|kP O<|R<|zC O (fun c2=>?_) (fun c2=>?_)
  ·try simp only [sx] at c2
   refine A O<|zO yI (zD 0 O) O<|G O<|rStR 3 sz65 O<|G O<|R<|zX _ (Weak.mem [false,false,false,true,false,true,true,true,true] O)<|zF<|D (qL yI O (zD 0 O) O) (B O) ?_
   exact ⟨by rw [nodeT_no hx hp c2,nodeT_zero c2];rfl,[_],O⟩
  ·try simp only [sx] at c2
   refine zI<|zN O<|G O<|zO yI (zD 0 O) O<|zT O (yK O el23 zr65 O O O O)<|zU O O (kG 2 O el23 O O O (by simp only [List.length_map,List.length_cons,List.length_nil,hll,List.length_take];omega) (by simp only [List.length_map,List.length_cons,List.length_nil,hll,List.length_take];omega)) ?_
   rintro _ _ ⟨sv6,rfl,rfl⟩
   refine G O<|R<|zN O<|qI O ⟨by omega,by omega⟩<|G O<|R ?_
   refine ⟨⟨k+1,sv6⟩,⟨by omega,by rw [zEm hx hp c2]⟩,(by show e.Args.length-(k+1)<e.Args.length-k;omega),Weak.mk [false,false,true,true,true,true,true,true,true] ⟨Y,Y,Y,Y,Y,Y,Y,T⟩ (by show _=[E.vec sv6 _ 5 ((nodeL (tyF n.Bufs) (e.Args.take (k+1))).1.map tyC)]++_;rw [zEm hx hp c2];simp only [List.map_append];rfl)⟩
 ·try simp only [sx] at c1
  have hll:=zFs _ _ hp
  have hta:e.Args.take k=e.Args:=yE (by omega)
  rw [hta] at hll
  have hg:∀i,i<e.Args.length->((nodeL (tyF n.Bufs) (e.Args.take k)).1.map tyC)[i]? =some (tyC (tyAt (nodeL (tyF n.Bufs) (e.Args.take k)).1 i)):=fun i hi=>zJe (by rw [hta];omega)
  have hgn:∀i:Nat,1<=i->i<=e.Args.length->∀j:Int,j=(((nodeL (tyF n.Bufs) (e.Args.take k)).1.length:Int)-i)->((nodeL (tyF n.Bufs) (e.Args.take k)).1.map tyC)[j.toNat]? =some (tyC (tyAt (nodeL (tyF n.Bufs) (e.Args.take k)).1 ((nodeL (tyF n.Bufs) (e.Args.take k)).1.length-i))):=fun i h1 h2 j hj=>by rw [hta] at *;rw [show j.toNat=(nodeL (tyF n.Bufs) e.Args).1.length-i by omega];exact zJe (by omega)
  have hT:nodeT (tyF n.Bufs) e=tyF n.Bufs e (nodeL (tyF n.Bufs) (e.Args.take k)).1:=nodeT_ok hta hp
  have hlk:(nodeL (tyF n.Bufs) (e.Args.take k)).1.length=e.Args.length:=by rw [hta];exact hll
  refine qP<|zK<|A O<|zH O kA<|zM one3 (zD 2 O) O<|R<|zR<|zK<|A O<|L O<|G O<|R<|zC O (fun c3=>?_) (fun c3=>?_)
  ·try simp only [sx] at c3
   refine zI<|zC O (fun c4=>?_) (fun c4=>?_)
   ·try simp only [sx] at c4
    refine A O<|zH O zAo<|zO yI (zD 2 O) O<|rStR 1 sz65 O<|G O<|R<|zX _ (Weak.mem [false,true,false,true,true,true,true] O)<|zF<|D (qL yI O (zD 0 O) O) (B O) ?_
    exact ⟨by rw [hT];first|(rw [zBx (by omega)];rfl)|(rw [zCf (by omega)];rfl)|(rw [zBw (by omega)];rfl)|(rw [zCe (by omega)];rfl)|(rw [wW (by omega)];rfl)|(rw [wX ho h10];rfl)|(rw [zCd ho h10 c12];rfl)|(rw [zBv ho h10 c12];rfl),[_],O⟩
   ·try simp only [sx] at c4
    refine A O<|L O<|G O<|R<|zC O (fun c5=>?_) (fun c5=>?_)
    ·try simp only [sx] at c5
     refine A O<|yU O zr65 pl65<|rStR 1 sz65 O<|G O<|R<|zX _ (Weak.mem [false,true,false,true,true,true,true] O)<|zF<|D (qL yI O (zD 0 O) O) (B O) ?_
     exact ⟨by rw [hT];first|(rw [zBx (by omega)];rfl)|(rw [zCf (by omega)];rfl)|(rw [zBw (by omega)];rfl)|(rw [zCe (by omega)];rfl)|(rw [wW (by omega)];rfl)|(rw [wX ho h10];rfl)|(rw [zCd ho h10 c12];rfl)|(rw [zBv ho h10 c12];rfl),[_],O⟩
    ·try simp only [sx] at c5
     refine A O<|L O<|G O<|R<|zC O (fun c6=>?_) (fun c6=>?_)
     ·try simp only [sx] at c6
      refine zK<|kN 12 1 [⟨0,.q []⟩,⟨1,.q []⟩,⟨2,.q []⟩,⟨3,.q [4]⟩,⟨4,.q []⟩,⟨5,.q [3]⟩,⟨6,.q []⟩,⟨7,.q []⟩,⟨8,.q []⟩,⟨9,.q []⟩,⟨10,.e 0 []⟩,⟨11,.e 0 []⟩] mixed (by kernel_rfl) (by kernel_rfl) O O O<|zW O<|zW O<|zW O<|zW O<|zW O<|zW O<|zW O<|zW O<|zW O<|zW O<|zW O<|zW O<|zCc<|qF O (by decide) O O (zP O O)<|qF O (by decide) O O (qB O O)<|qF O (by decide) O O (zE O zNr O)<|qF O (by decide) O O (zV O zBb O (zD 0 O) O)<|qF O (by decide) O O (zE O zBs O)<|qF O (by decide) O O (zJ O one9 O (zD 0 O) O)<|qF O (by decide) O O (qC O ok254 (zAs n e.Name hn) ⟨Y,O,Y,O,T⟩)<|qF O (by decide) O O (yH O O)<|qF O (by decide) O O (yW O O O)<|qF O (by decide) O O (kC O O O)<|zJw O O (by decide) O O (qT [none,none,none,none,none,none,some 1,none] O zr95 O) ?_
      rintro _ _ ⟨b7,rfl,rfl⟩
      refine ⟨_,O,?_⟩
      refine zKc O O (by decide) O O (zAn O sz95 O O O (zKa 0 O O)) ?_
      rintro _ _ ⟨rfl,rfl⟩
      refine ⟨_,O,?_⟩
      refine zCb O<|G O<|R<|A O<|zH O zIn<|zO yI (zD 0 O) O<|rStR 2 sz65 O<|G O<|R<|zX _ (Weak.mem [false,false,true,false,true,true,true,true] O)<|zF<|D (qL yI O (zD 0 O) O) (B O) ?_
      exact ⟨by rw [hT];first|(rw [zBx (by omega)];rfl)|(rw [zCf (by omega)];rfl)|(rw [zBw (by omega)];rfl)|(rw [zCe (by omega)];rfl)|(rw [wW (by omega)];rfl)|(rw [wX ho h10];rfl)|(rw [zCd ho h10 c12];rfl)|(rw [zBv ho h10 c12];rfl),[_],O⟩
     ·try simp only [sx] at c6
      refine A O<|L O<|G O<|R<|zC O (fun c7=>?_) (fun c7=>?_)
      ·try simp only [sx] at c7
       have hlen1:=args_len hpart (by omega)
       refine A O<|G O<|zT O (yC 0 O el23 O O O (by omega) (by simp only [List.length_map];omega))<|zO yI (wY 0 O (hg 0 (by omega))) O<|rStR 1 sz65 O<|G O<|R<|zX _ (Weak.mem [false,true,false,true,true,true,true] O)<|zF<|D (qL yI O (zD 0 O) O) (B O) ?_
       exact ⟨by rw [hT];first|(rw [zBx (by omega)];rfl)|(rw [zCf (by omega)];rfl)|(rw [zBw (by omega)];rfl)|(rw [zCe (by omega)];rfl)|(rw [wW (by omega)];rfl)|(rw [wX ho h10];rfl)|(rw [zCd ho h10 c12];rfl)|(rw [zBv ho h10 c12];rfl),[_],O⟩
      ·try simp only [sx] at c7
       refine zK<|A O<|L O<|G O<|R<|zC O (fun c8=>?_) (fun c8=>?_)
       ·try simp only [sx] at c8
        refine zI<|zC O (fun c10=>?_) (fun c10=>?_)
        ·try simp only [sx] at c10
         refine A O<|yU O zr65 pl65<|rStR 1 sz65 O<|G O<|R<|zX _ (Weak.mem [false,true,false,true,true,true,true] O)<|zF<|D (qL yI O (zD 0 O) O) (B O) ?_
         exact ⟨by rw [hT];first|(rw [zBx (by omega)];rfl)|(rw [zCf (by omega)];rfl)|(rw [zBw (by omega)];rfl)|(rw [zCe (by omega)];rfl)|(rw [wW (by omega)];rfl)|(rw [wX ho h10];rfl)|(rw [zCd ho h10 c12];rfl)|(rw [zBv ho h10 c12];rfl),[_],O⟩
        ·try simp only [sx] at c10
         have hlen2:=zGb hpart (by omega)
         have ho:¬opLow e.Op:=by unfold opLow;omega
         refine zI<|zK<|zK<|qU 13 mixed (by kernel_rfl) O O<|J O O (zP O O)<|J O O (zP O O)<|J O O (yQ 0 O el23 O O)<|J O O (yD O O O (by simp only [List.length_map];exact ⟨by omega,by omega⟩))<|J O O (yC 0 O el23 O O O (by simp only [List.length_map];omega) (by simp only [List.length_map];omega))<|J O O (zV O yI O (wY 0 O (hgn 2 (by omega) (by omega) _ (by simp only [List.length_map];rfl))) O)<|J O O (zP O O)<|J O O (zP O O)<|J O O (yQ 0 O el23 O O)<|J O O (yD O O O (by simp only [List.length_map];exact ⟨by omega,by omega⟩))<|J O O (yC 0 O el23 O O O (by simp only [List.length_map];omega) (by simp only [List.length_map];omega))<|J O O (zV O yI O (wY 0 O (hgn 1 (by omega) (by omega) _ (by simp only [List.length_map];rfl))) O)<|J O O (zBl O fl65 O O O)<|yO<|R<|zC O (fun c11=>?_) (fun c11=>?_)
         ·have h10:=zGd c11
          refine A O<|yU O zr65 pl65<|rStR 1 sz65 O<|G O<|R<|zX _ (Weak.mem [false,true,false,true,true,true,true] O)<|zF<|D (qL yI O (zD 0 O) O) (B O) ?_
          exact ⟨by rw [hT];first|(rw [zBx (by omega)];rfl)|(rw [zCf (by omega)];rfl)|(rw [zBw (by omega)];rfl)|(rw [zCe (by omega)];rfl)|(rw [wW (by omega)];rfl)|(rw [wX ho h10];rfl)|(rw [zCd ho h10 c12];rfl)|(rw [zBv ho h10 c12];rfl),[_],O⟩
         ·have h10:=zGe c11
          refine zI<|zK<|A O<|zO qX (zD 2 O) O<|qK O ok193 (wD e) ⟨Y,O,T⟩<|R<|zC O (fun c12=>?_) (fun c12=>?_)
          ·try simp only [sx] at c12
           refine A O<|yU O zr65 pl65<|rStR 1 sz65 O<|G O<|R<|zX _ (Weak.mem [false,true,false,true,true,true,true] O)<|zF<|D (qL yI O (zD 0 O) O) (B O) ?_
           exact ⟨by rw [hT];first|(rw [zBx (by omega)];rfl)|(rw [zCf (by omega)];rfl)|(rw [zBw (by omega)];rfl)|(rw [zCe (by omega)];rfl)|(rw [wW (by omega)];rfl)|(rw [wX ho h10];rfl)|(rw [zCd ho h10 c12];rfl)|(rw [zBv ho h10 c12];rfl),[_],O⟩
          ·try simp only [sx] at c12
           refine zI<|A O<|G O<|G O<|zT O (yQ 0 O el23 O O)<|zT O (yD O O O (by simp only [List.length_map];exact ⟨by omega,by omega⟩))<|zT O (yC 0 O el23 O O O (by simp only [List.length_map];omega) (by simp only [List.length_map];omega))<|zO yI (wY 0 O (hgn 1 (by omega) (by omega) _ (by simp only [List.length_map];rfl))) O<|rStR 1 sz65 O<|G O<|R<|zX _ (Weak.mem [false,true,false,true,true,true,true] O)<|zF<|D (qL yI O (zD 0 O) O) (B O) ?_
           exact ⟨by rw [hT];first|(rw [zBx (by omega)];rfl)|(rw [zCf (by omega)];rfl)|(rw [zBw (by omega)];rfl)|(rw [zCe (by omega)];rfl)|(rw [wW (by omega)];rfl)|(rw [wX ho h10];rfl)|(rw [zCd ho h10 c12];rfl)|(rw [zBv ho h10 c12];rfl),[_],O⟩
       ·try simp only [sx] at c8
        refine A O<|L O<|G O<|R<|zC O (fun c9=>?_) (fun c9=>?_)
        ·try simp only [sx] at c9
         refine zI<|zC O (fun c10=>?_) (fun c10=>?_)
         ·try simp only [sx] at c10
          refine A O<|yU O zr65 pl65<|rStR 1 sz65 O<|G O<|R<|zX _ (Weak.mem [false,true,false,true,true,true,true] O)<|zF<|D (qL yI O (zD 0 O) O) (B O) ?_
          exact ⟨by rw [hT];first|(rw [zBx (by omega)];rfl)|(rw [zCf (by omega)];rfl)|(rw [zBw (by omega)];rfl)|(rw [zCe (by omega)];rfl)|(rw [wW (by omega)];rfl)|(rw [wX ho h10];rfl)|(rw [zCd ho h10 c12];rfl)|(rw [zBv ho h10 c12];rfl),[_],O⟩
         ·try simp only [sx] at c10
          have hlen2:=zGb hpart (by omega)
          have ho:¬opLow e.Op:=by unfold opLow;omega
          refine zI<|zK<|zK<|qU 13 mixed (by kernel_rfl) O O<|J O O (zP O O)<|J O O (zP O O)<|J O O (yQ 0 O el23 O O)<|J O O (yD O O O (by simp only [List.length_map];exact ⟨by omega,by omega⟩))<|J O O (yC 0 O el23 O O O (by simp only [List.length_map];omega) (by simp only [List.length_map];omega))<|J O O (zV O yI O (wY 0 O (hgn 2 (by omega) (by omega) _ (by simp only [List.length_map];rfl))) O)<|J O O (zP O O)<|J O O (zP O O)<|J O O (yQ 0 O el23 O O)<|J O O (yD O O O (by simp only [List.length_map];exact ⟨by omega,by omega⟩))<|J O O (yC 0 O el23 O O O (by simp only [List.length_map];omega) (by simp only [List.length_map];omega))<|J O O (zV O yI O (wY 0 O (hgn 1 (by omega) (by omega) _ (by simp only [List.length_map];rfl))) O)<|J O O (zBl O fl65 O O O)<|yO<|R<|zC O (fun c11=>?_) (fun c11=>?_)
          ·have h10:=zGd c11
           refine A O<|yU O zr65 pl65<|rStR 1 sz65 O<|G O<|R<|zX _ (Weak.mem [false,true,false,true,true,true,true] O)<|zF<|D (qL yI O (zD 0 O) O) (B O) ?_
           exact ⟨by rw [hT];first|(rw [zBx (by omega)];rfl)|(rw [zCf (by omega)];rfl)|(rw [zBw (by omega)];rfl)|(rw [zCe (by omega)];rfl)|(rw [wW (by omega)];rfl)|(rw [wX ho h10];rfl)|(rw [zCd ho h10 c12];rfl)|(rw [zBv ho h10 c12];rfl),[_],O⟩
          ·have h10:=zGe c11
           refine zI<|zK<|A O<|zO qX (zD 2 O) O<|qK O ok193 (wD e) ⟨Y,O,T⟩<|R<|zC O (fun c12=>?_) (fun c12=>?_)
           ·try simp only [sx] at c12
            refine A O<|yU O zr65 pl65<|rStR 1 sz65 O<|G O<|R<|zX _ (Weak.mem [false,true,false,true,true,true,true] O)<|zF<|D (qL yI O (zD 0 O) O) (B O) ?_
            exact ⟨by rw [hT];first|(rw [zBx (by omega)];rfl)|(rw [zCf (by omega)];rfl)|(rw [zBw (by omega)];rfl)|(rw [zCe (by omega)];rfl)|(rw [wW (by omega)];rfl)|(rw [wX ho h10];rfl)|(rw [zCd ho h10 c12];rfl)|(rw [zBv ho h10 c12];rfl),[_],O⟩
           ·try simp only [sx] at c12
            refine zI<|A O<|G O<|G O<|zT O (yQ 0 O el23 O O)<|zT O (yD O O O (by simp only [List.length_map];exact ⟨by omega,by omega⟩))<|zT O (yC 0 O el23 O O O (by simp only [List.length_map];omega) (by simp only [List.length_map];omega))<|zO yI (wY 0 O (hgn 1 (by omega) (by omega) _ (by simp only [List.length_map];rfl))) O<|rStR 1 sz65 O<|G O<|R<|zX _ (Weak.mem [false,true,false,true,true,true,true] O)<|zF<|D (qL yI O (zD 0 O) O) (B O) ?_
            exact ⟨by rw [hT];first|(rw [zBx (by omega)];rfl)|(rw [zCf (by omega)];rfl)|(rw [zBw (by omega)];rfl)|(rw [zCe (by omega)];rfl)|(rw [wW (by omega)];rfl)|(rw [wX ho h10];rfl)|(rw [zCd ho h10 c12];rfl)|(rw [zBv ho h10 c12];rfl),[_],O⟩
        ·try simp only [sx] at c9
         refine zN O<|L O<|G O<|R<|zC O (fun c10=>?_) (fun c10=>?_)
         ·try simp only [sx] at c10
          refine A O<|yU O zr65 pl65<|rStR 1 sz65 O<|G O<|R<|zX _ (Weak.mem [false,true,false,true,true,true,true] O)<|zF<|D (qL yI O (zD 0 O) O) (B O) ?_
          exact ⟨by rw [hT];first|(rw [zBx (by omega)];rfl)|(rw [zCf (by omega)];rfl)|(rw [zBw (by omega)];rfl)|(rw [zCe (by omega)];rfl)|(rw [wW (by omega)];rfl)|(rw [wX ho h10];rfl)|(rw [zCd ho h10 c12];rfl)|(rw [zBv ho h10 c12];rfl),[_],O⟩
         ·try simp only [sx] at c10
          have hlen2:=zGb hpart (by omega)
          have ho:¬opLow e.Op:=by unfold opLow;omega
          refine zI<|zK<|zK<|qU 13 mixed (by kernel_rfl) O O<|J O O (zP O O)<|J O O (zP O O)<|J O O (yQ 0 O el23 O O)<|J O O (yD O O O (by simp only [List.length_map];exact ⟨by omega,by omega⟩))<|J O O (yC 0 O el23 O O O (by simp only [List.length_map];omega) (by simp only [List.length_map];omega))<|J O O (zV O yI O (wY 0 O (hgn 2 (by omega) (by omega) _ (by simp only [List.length_map];rfl))) O)<|J O O (zP O O)<|J O O (zP O O)<|J O O (yQ 0 O el23 O O)<|J O O (yD O O O (by simp only [List.length_map];exact ⟨by omega,by omega⟩))<|J O O (yC 0 O el23 O O O (by simp only [List.length_map];omega) (by simp only [List.length_map];omega))<|J O O (zV O yI O (wY 0 O (hgn 1 (by omega) (by omega) _ (by simp only [List.length_map];rfl))) O)<|J O O (zBl O fl65 O O O)<|yO<|R<|zC O (fun c11=>?_) (fun c11=>?_)
          ·have h10:=zGd c11
           refine A O<|yU O zr65 pl65<|rStR 1 sz65 O<|G O<|R<|zX _ (Weak.mem [false,true,false,true,true,true,true] O)<|zF<|D (qL yI O (zD 0 O) O) (B O) ?_
           exact ⟨by rw [hT];first|(rw [zBx (by omega)];rfl)|(rw [zCf (by omega)];rfl)|(rw [zBw (by omega)];rfl)|(rw [zCe (by omega)];rfl)|(rw [wW (by omega)];rfl)|(rw [wX ho h10];rfl)|(rw [zCd ho h10 c12];rfl)|(rw [zBv ho h10 c12];rfl),[_],O⟩
          ·have h10:=zGe c11
           refine zI<|zK<|A O<|zO qX (zD 2 O) O<|qK O ok193 (wD e) ⟨Y,O,T⟩<|R<|zC O (fun c12=>?_) (fun c12=>?_)
           ·try simp only [sx] at c12
            refine A O<|yU O zr65 pl65<|rStR 1 sz65 O<|G O<|R<|zX _ (Weak.mem [false,true,false,true,true,true,true] O)<|zF<|D (qL yI O (zD 0 O) O) (B O) ?_
            exact ⟨by rw [hT];first|(rw [zBx (by omega)];rfl)|(rw [zCf (by omega)];rfl)|(rw [zBw (by omega)];rfl)|(rw [zCe (by omega)];rfl)|(rw [wW (by omega)];rfl)|(rw [wX ho h10];rfl)|(rw [zCd ho h10 c12];rfl)|(rw [zBv ho h10 c12];rfl),[_],O⟩
           ·try simp only [sx] at c12
            refine zI<|A O<|G O<|G O<|zT O (yQ 0 O el23 O O)<|zT O (yD O O O (by simp only [List.length_map];exact ⟨by omega,by omega⟩))<|zT O (yC 0 O el23 O O O (by simp only [List.length_map];omega) (by simp only [List.length_map];omega))<|zO yI (wY 0 O (hgn 1 (by omega) (by omega) _ (by simp only [List.length_map];rfl))) O<|rStR 1 sz65 O<|G O<|R<|zX _ (Weak.mem [false,true,false,true,true,true,true] O)<|zF<|D (qL yI O (zD 0 O) O) (B O) ?_
            exact ⟨by rw [hT];first|(rw [zBx (by omega)];rfl)|(rw [zCf (by omega)];rfl)|(rw [zBw (by omega)];rfl)|(rw [zCe (by omega)];rfl)|(rw [wW (by omega)];rfl)|(rw [wX ho h10];rfl)|(rw [zCd ho h10 c12];rfl)|(rw [zBv ho h10 c12];rfl),[_],O⟩
  ·try simp only [sx] at c3
   refine zN O<|L O<|G O<|R<|zC O (fun c4=>?_) (fun c4=>?_)
   ·try simp only [sx] at c4
    refine A O<|zH O zAo<|zO yI (zD 2 O) O<|rStR 1 sz65 O<|G O<|R<|zX _ (Weak.mem [false,true,false,true,true,true,true] O)<|zF<|D (qL yI O (zD 0 O) O) (B O) ?_
    exact ⟨by rw [hT];first|(rw [zBx (by omega)];rfl)|(rw [zCf (by omega)];rfl)|(rw [zBw (by omega)];rfl)|(rw [zCe (by omega)];rfl)|(rw [wW (by omega)];rfl)|(rw [wX ho h10];rfl)|(rw [zCd ho h10 c12];rfl)|(rw [zBv ho h10 c12];rfl),[_],O⟩
   ·try simp only [sx] at c4
    refine A O<|L O<|G O<|R<|zC O (fun c5=>?_) (fun c5=>?_)
    ·try simp only [sx] at c5
     refine A O<|yU O zr65 pl65<|rStR 1 sz65 O<|G O<|R<|zX _ (Weak.mem [false,true,false,true,true,true,true] O)<|zF<|D (qL yI O (zD 0 O) O) (B O) ?_
     exact ⟨by rw [hT];first|(rw [zBx (by omega)];rfl)|(rw [zCf (by omega)];rfl)|(rw [zBw (by omega)];rfl)|(rw [zCe (by omega)];rfl)|(rw [wW (by omega)];rfl)|(rw [wX ho h10];rfl)|(rw [zCd ho h10 c12];rfl)|(rw [zBv ho h10 c12];rfl),[_],O⟩
    ·try simp only [sx] at c5
     refine A O<|L O<|G O<|R<|zC O (fun c6=>?_) (fun c6=>?_)
     ·try simp only [sx] at c6
      refine zK<|kN 12 1 [⟨0,.q []⟩,⟨1,.q []⟩,⟨2,.q []⟩,⟨3,.q [4]⟩,⟨4,.q []⟩,⟨5,.q [3]⟩,⟨6,.q []⟩,⟨7,.q []⟩,⟨8,.q []⟩,⟨9,.q []⟩,⟨10,.e 0 []⟩,⟨11,.e 0 []⟩] mixed (by kernel_rfl) (by kernel_rfl) O O O<|zW O<|zW O<|zW O<|zW O<|zW O<|zW O<|zW O<|zW O<|zW O<|zW O<|zW O<|zW O<|zCc<|qF O (by decide) O O (zP O O)<|qF O (by decide) O O (qB O O)<|qF O (by decide) O O (zE O zNr O)<|qF O (by decide) O O (zV O zBb O (zD 0 O) O)<|qF O (by decide) O O (zE O zBs O)<|qF O (by decide) O O (zJ O one9 O (zD 0 O) O)<|qF O (by decide) O O (qC O ok254 (zAs n e.Name hn) ⟨Y,O,Y,O,T⟩)<|qF O (by decide) O O (yH O O)<|qF O (by decide) O O (yW O O O)<|qF O (by decide) O O (kC O O O)<|zJw O O (by decide) O O (qT [none,none,none,none,none,none,some 1,none] O zr95 O) ?_
      rintro _ _ ⟨b8,rfl,rfl⟩
      refine ⟨_,O,?_⟩
      refine zKc O O (by decide) O O (zAn O sz95 O O O (zKa 0 O O)) ?_
      rintro _ _ ⟨rfl,rfl⟩
      refine ⟨_,O,?_⟩
      refine zCb O<|G O<|R<|A O<|zH O zIn<|zO yI (zD 0 O) O<|rStR 2 sz65 O<|G O<|R<|zX _ (Weak.mem [false,false,true,false,true,true,true,true] O)<|zF<|D (qL yI O (zD 0 O) O) (B O) ?_
      exact ⟨by rw [hT];first|(rw [zBx (by omega)];rfl)|(rw [zCf (by omega)];rfl)|(rw [zBw (by omega)];rfl)|(rw [zCe (by omega)];rfl)|(rw [wW (by omega)];rfl)|(rw [wX ho h10];rfl)|(rw [zCd ho h10 c12];rfl)|(rw [zBv ho h10 c12];rfl),[_],O⟩
     ·try simp only [sx] at c6
      refine A O<|L O<|G O<|R<|zC O (fun c7=>?_) (fun c7=>?_)
      ·try simp only [sx] at c7
       have hlen1:=args_len hpart (by omega)
       refine A O<|G O<|zT O (yC 0 O el23 O O O (by omega) (by simp only [List.length_map];omega))<|zO yI (wY 0 O (hg 0 (by omega))) O<|rStR 1 sz65 O<|G O<|R<|zX _ (Weak.mem [false,true,false,true,true,true,true] O)<|zF<|D (qL yI O (zD 0 O) O) (B O) ?_
       exact ⟨by rw [hT];first|(rw [zBx (by omega)];rfl)|(rw [zCf (by omega)];rfl)|(rw [zBw (by omega)];rfl)|(rw [zCe (by omega)];rfl)|(rw [wW (by omega)];rfl)|(rw [wX ho h10];rfl)|(rw [zCd ho h10 c12];rfl)|(rw [zBv ho h10 c12];rfl),[_],O⟩
      ·try simp only [sx] at c7
       refine zK<|A O<|L O<|G O<|R<|zC O (fun c8=>?_) (fun c8=>?_)
       ·try simp only [sx] at c8
        refine zI<|zC O (fun c10=>?_) (fun c10=>?_)
        ·try simp only [sx] at c10
         refine A O<|yU O zr65 pl65<|rStR 1 sz65 O<|G O<|R<|zX _ (Weak.mem [false,true,false,true,true,true,true] O)<|zF<|D (qL yI O (zD 0 O) O) (B O) ?_
         exact ⟨by rw [hT];first|(rw [zBx (by omega)];rfl)|(rw [zCf (by omega)];rfl)|(rw [zBw (by omega)];rfl)|(rw [zCe (by omega)];rfl)|(rw [wW (by omega)];rfl)|(rw [wX ho h10];rfl)|(rw [zCd ho h10 c12];rfl)|(rw [zBv ho h10 c12];rfl),[_],O⟩
        ·try simp only [sx] at c10
         have hlen2:=zGb hpart (by omega)
         have ho:¬opLow e.Op:=by unfold opLow;omega
         refine zI<|zK<|zK<|qU 13 mixed (by kernel_rfl) O O<|J O O (zP O O)<|J O O (zP O O)<|J O O (yQ 0 O el23 O O)<|J O O (yD O O O (by simp only [List.length_map];exact ⟨by omega,by omega⟩))<|J O O (yC 0 O el23 O O O (by simp only [List.length_map];omega) (by simp only [List.length_map];omega))<|J O O (zV O yI O (wY 0 O (hgn 2 (by omega) (by omega) _ (by simp only [List.length_map];rfl))) O)<|J O O (zP O O)<|J O O (zP O O)<|J O O (yQ 0 O el23 O O)<|J O O (yD O O O (by simp only [List.length_map];exact ⟨by omega,by omega⟩))<|J O O (yC 0 O el23 O O O (by simp only [List.length_map];omega) (by simp only [List.length_map];omega))<|J O O (zV O yI O (wY 0 O (hgn 1 (by omega) (by omega) _ (by simp only [List.length_map];rfl))) O)<|J O O (zBl O fl65 O O O)<|yO<|R<|zC O (fun c11=>?_) (fun c11=>?_)
         ·have h10:=zGd c11
          refine A O<|yU O zr65 pl65<|rStR 1 sz65 O<|G O<|R<|zX _ (Weak.mem [false,true,false,true,true,true,true] O)<|zF<|D (qL yI O (zD 0 O) O) (B O) ?_
          exact ⟨by rw [hT];first|(rw [zBx (by omega)];rfl)|(rw [zCf (by omega)];rfl)|(rw [zBw (by omega)];rfl)|(rw [zCe (by omega)];rfl)|(rw [wW (by omega)];rfl)|(rw [wX ho h10];rfl)|(rw [zCd ho h10 c12];rfl)|(rw [zBv ho h10 c12];rfl),[_],O⟩
         ·have h10:=zGe c11
          refine zI<|zK<|A O<|zO qX (zD 2 O) O<|qK O ok193 (wD e) ⟨Y,O,T⟩<|R<|zC O (fun c12=>?_) (fun c12=>?_)
          ·try simp only [sx] at c12
           refine A O<|yU O zr65 pl65<|rStR 1 sz65 O<|G O<|R<|zX _ (Weak.mem [false,true,false,true,true,true,true] O)<|zF<|D (qL yI O (zD 0 O) O) (B O) ?_
           exact ⟨by rw [hT];first|(rw [zBx (by omega)];rfl)|(rw [zCf (by omega)];rfl)|(rw [zBw (by omega)];rfl)|(rw [zCe (by omega)];rfl)|(rw [wW (by omega)];rfl)|(rw [wX ho h10];rfl)|(rw [zCd ho h10 c12];rfl)|(rw [zBv ho h10 c12];rfl),[_],O⟩
          ·try simp only [sx] at c12
           refine zI<|A O<|G O<|G O<|zT O (yQ 0 O el23 O O)<|zT O (yD O O O (by simp only [List.length_map];exact ⟨by omega,by omega⟩))<|zT O (yC 0 O el23 O O O (by simp only [List.length_map];omega) (by simp only [List.length_map];omega))<|zO yI (wY 0 O (hgn 1 (by omega) (by omega) _ (by simp only [List.length_map];rfl))) O<|rStR 1 sz65 O<|G O<|R<|zX _ (Weak.mem [false,true,false,true,true,true,true] O)<|zF<|D (qL yI O (zD 0 O) O) (B O) ?_
           exact ⟨by rw [hT];first|(rw [zBx (by omega)];rfl)|(rw [zCf (by omega)];rfl)|(rw [zBw (by omega)];rfl)|(rw [zCe (by omega)];rfl)|(rw [wW (by omega)];rfl)|(rw [wX ho h10];rfl)|(rw [zCd ho h10 c12];rfl)|(rw [zBv ho h10 c12];rfl),[_],O⟩
       ·try simp only [sx] at c8
        refine A O<|L O<|G O<|R<|zC O (fun c9=>?_) (fun c9=>?_)
        ·try simp only [sx] at c9
         refine zI<|zC O (fun c10=>?_) (fun c10=>?_)
         ·try simp only [sx] at c10
          refine A O<|yU O zr65 pl65<|rStR 1 sz65 O<|G O<|R<|zX _ (Weak.mem [false,true,false,true,true,true,true] O)<|zF<|D (qL yI O (zD 0 O) O) (B O) ?_
          exact ⟨by rw [hT];first|(rw [zBx (by omega)];rfl)|(rw [zCf (by omega)];rfl)|(rw [zBw (by omega)];rfl)|(rw [zCe (by omega)];rfl)|(rw [wW (by omega)];rfl)|(rw [wX ho h10];rfl)|(rw [zCd ho h10 c12];rfl)|(rw [zBv ho h10 c12];rfl),[_],O⟩
         ·try simp only [sx] at c10
          have hlen2:=zGb hpart (by omega)
          have ho:¬opLow e.Op:=by unfold opLow;omega
          refine zI<|zK<|zK<|qU 13 mixed (by kernel_rfl) O O<|J O O (zP O O)<|J O O (zP O O)<|J O O (yQ 0 O el23 O O)<|J O O (yD O O O (by simp only [List.length_map];exact ⟨by omega,by omega⟩))<|J O O (yC 0 O el23 O O O (by simp only [List.length_map];omega) (by simp only [List.length_map];omega))<|J O O (zV O yI O (wY 0 O (hgn 2 (by omega) (by omega) _ (by simp only [List.length_map];rfl))) O)<|J O O (zP O O)<|J O O (zP O O)<|J O O (yQ 0 O el23 O O)<|J O O (yD O O O (by simp only [List.length_map];exact ⟨by omega,by omega⟩))<|J O O (yC 0 O el23 O O O (by simp only [List.length_map];omega) (by simp only [List.length_map];omega))<|J O O (zV O yI O (wY 0 O (hgn 1 (by omega) (by omega) _ (by simp only [List.length_map];rfl))) O)<|J O O (zBl O fl65 O O O)<|yO<|R<|zC O (fun c11=>?_) (fun c11=>?_)
          ·have h10:=zGd c11
           refine A O<|yU O zr65 pl65<|rStR 1 sz65 O<|G O<|R<|zX _ (Weak.mem [false,true,false,true,true,true,true] O)<|zF<|D (qL yI O (zD 0 O) O) (B O) ?_
           exact ⟨by rw [hT];first|(rw [zBx (by omega)];rfl)|(rw [zCf (by omega)];rfl)|(rw [zBw (by omega)];rfl)|(rw [zCe (by omega)];rfl)|(rw [wW (by omega)];rfl)|(rw [wX ho h10];rfl)|(rw [zCd ho h10 c12];rfl)|(rw [zBv ho h10 c12];rfl),[_],O⟩
          ·have h10:=zGe c11
           refine zI<|zK<|A O<|zO qX (zD 2 O) O<|qK O ok193 (wD e) ⟨Y,O,T⟩<|R<|zC O (fun c12=>?_) (fun c12=>?_)
           ·try simp only [sx] at c12
            refine A O<|yU O zr65 pl65<|rStR 1 sz65 O<|G O<|R<|zX _ (Weak.mem [false,true,false,true,true,true,true] O)<|zF<|D (qL yI O (zD 0 O) O) (B O) ?_
            exact ⟨by rw [hT];first|(rw [zBx (by omega)];rfl)|(rw [zCf (by omega)];rfl)|(rw [zBw (by omega)];rfl)|(rw [zCe (by omega)];rfl)|(rw [wW (by omega)];rfl)|(rw [wX ho h10];rfl)|(rw [zCd ho h10 c12];rfl)|(rw [zBv ho h10 c12];rfl),[_],O⟩
           ·try simp only [sx] at c12
            refine zI<|A O<|G O<|G O<|zT O (yQ 0 O el23 O O)<|zT O (yD O O O (by simp only [List.length_map];exact ⟨by omega,by omega⟩))<|zT O (yC 0 O el23 O O O (by simp only [List.length_map];omega) (by simp only [List.length_map];omega))<|zO yI (wY 0 O (hgn 1 (by omega) (by omega) _ (by simp only [List.length_map];rfl))) O<|rStR 1 sz65 O<|G O<|R<|zX _ (Weak.mem [false,true,false,true,true,true,true] O)<|zF<|D (qL yI O (zD 0 O) O) (B O) ?_
            exact ⟨by rw [hT];first|(rw [zBx (by omega)];rfl)|(rw [zCf (by omega)];rfl)|(rw [zBw (by omega)];rfl)|(rw [zCe (by omega)];rfl)|(rw [wW (by omega)];rfl)|(rw [wX ho h10];rfl)|(rw [zCd ho h10 c12];rfl)|(rw [zBv ho h10 c12];rfl),[_],O⟩
        ·try simp only [sx] at c9
         refine zN O<|L O<|G O<|R<|zC O (fun c10=>?_) (fun c10=>?_)
         ·try simp only [sx] at c10
          refine A O<|yU O zr65 pl65<|rStR 1 sz65 O<|G O<|R<|zX _ (Weak.mem [false,true,false,true,true,true,true] O)<|zF<|D (qL yI O (zD 0 O) O) (B O) ?_
          exact ⟨by rw [hT];first|(rw [zBx (by omega)];rfl)|(rw [zCf (by omega)];rfl)|(rw [zBw (by omega)];rfl)|(rw [zCe (by omega)];rfl)|(rw [wW (by omega)];rfl)|(rw [wX ho h10];rfl)|(rw [zCd ho h10 c12];rfl)|(rw [zBv ho h10 c12];rfl),[_],O⟩
         ·try simp only [sx] at c10
          have hlen2:=zGb hpart (by omega)
          have ho:¬opLow e.Op:=by unfold opLow;omega
          refine zI<|zK<|zK<|qU 13 mixed (by kernel_rfl) O O<|J O O (zP O O)<|J O O (zP O O)<|J O O (yQ 0 O el23 O O)<|J O O (yD O O O (by simp only [List.length_map];exact ⟨by omega,by omega⟩))<|J O O (yC 0 O el23 O O O (by simp only [List.length_map];omega) (by simp only [List.length_map];omega))<|J O O (zV O yI O (wY 0 O (hgn 2 (by omega) (by omega) _ (by simp only [List.length_map];rfl))) O)<|J O O (zP O O)<|J O O (zP O O)<|J O O (yQ 0 O el23 O O)<|J O O (yD O O O (by simp only [List.length_map];exact ⟨by omega,by omega⟩))<|J O O (yC 0 O el23 O O O (by simp only [List.length_map];omega) (by simp only [List.length_map];omega))<|J O O (zV O yI O (wY 0 O (hgn 1 (by omega) (by omega) _ (by simp only [List.length_map];rfl))) O)<|J O O (zBl O fl65 O O O)<|yO<|R<|zC O (fun c11=>?_) (fun c11=>?_)
          ·have h10:=zGd c11
           refine A O<|yU O zr65 pl65<|rStR 1 sz65 O<|G O<|R<|zX _ (Weak.mem [false,true,false,true,true,true,true] O)<|zF<|D (qL yI O (zD 0 O) O) (B O) ?_
           exact ⟨by rw [hT];first|(rw [zBx (by omega)];rfl)|(rw [zCf (by omega)];rfl)|(rw [zBw (by omega)];rfl)|(rw [zCe (by omega)];rfl)|(rw [wW (by omega)];rfl)|(rw [wX ho h10];rfl)|(rw [zCd ho h10 c12];rfl)|(rw [zBv ho h10 c12];rfl),[_],O⟩
          ·have h10:=zGe c11
           refine zI<|zK<|A O<|zO qX (zD 2 O) O<|qK O ok193 (wD e) ⟨Y,O,T⟩<|R<|zC O (fun c12=>?_) (fun c12=>?_)
           ·try simp only [sx] at c12
            refine A O<|yU O zr65 pl65<|rStR 1 sz65 O<|G O<|R<|zX _ (Weak.mem [false,true,false,true,true,true,true] O)<|zF<|D (qL yI O (zD 0 O) O) (B O) ?_
            exact ⟨by rw [hT];first|(rw [zBx (by omega)];rfl)|(rw [zCf (by omega)];rfl)|(rw [zBw (by omega)];rfl)|(rw [zCe (by omega)];rfl)|(rw [wW (by omega)];rfl)|(rw [wX ho h10];rfl)|(rw [zCd ho h10 c12];rfl)|(rw [zBv ho h10 c12];rfl),[_],O⟩
           ·try simp only [sx] at c12
            refine zI<|A O<|G O<|G O<|zT O (yQ 0 O el23 O O)<|zT O (yD O O O (by simp only [List.length_map];exact ⟨by omega,by omega⟩))<|zT O (yC 0 O el23 O O O (by simp only [List.length_map];omega) (by simp only [List.length_map];omega))<|zO yI (wY 0 O (hgn 1 (by omega) (by omega) _ (by simp only [List.length_map];rfl))) O<|rStR 1 sz65 O<|G O<|R<|zX _ (Weak.mem [false,true,false,true,true,true,true] O)<|zF<|D (qL yI O (zD 0 O) O) (B O) ?_
            exact ⟨by rw [hT];first|(rw [zBx (by omega)];rfl)|(rw [zCf (by omega)];rfl)|(rw [zBw (by omega)];rfl)|(rw [zCe (by omega)];rfl)|(rw [wW (by omega)];rfl)|(rw [wX ho h10];rfl)|(rw [zCd ho h10 c12];rfl)|(rw [zBv ho h10 c12];rfl),[_],O⟩
theorem ck_typeOf (b:Nat) (svL svS svP:Value) (n:Ns) (U S:List ByteArray) (W:List Int)  (e:Ex) (hn:n.Ok) (hpart:partE e=0) (he:e.wt<=1073741824):Con cfg 256 [vP b,vE e] (ckN b svL svS svP n U S W) fun r μ'=>r=.tup [vTy (nodeT (tyF n.Bufs) e).1,vI (nodeT (tyF n.Bufs) e).2]/\μ'=ckN b svL svS svP n U S W:=by
  induction e using Ex.ind with
  |_ e ih=>exact ck_typeOf_step b svL svS svP n U S W hn e (fun a ha h1 h2=>ih a ha h1 h2) hpart he
theorem zHe (b:Nat) (svL svS svP:Value) (n:Ns) (U S:List ByteArray) (W:List Int) (e:Ex) (hn:n.Ok) (hS:S.length<=1000000) (he:e.wt<=1000000000):
    Con cfg 192 [vP b,vE e] (ckN b svL svS svP n U S W) fun r μ'=>r=.tup [vTy (exprT n.Bufs S e).1,vI (exprT n.Bufs S e).2]/\μ'=ckN b svL svS svP n U S W:=by
 refine Con.drop<|zS Tryz.func192 O Tryz.ntmps192 Tryz.results192 O ?_
 intro z hz
 refine A O<|zU O O (qN O O) ?_
 rintro _ _ ⟨b1,rfl,rfl⟩
 refine yX _ (kJ 0 O 2 _ PLe.ptr)<|zU O O (qN O O) ?_
 rintro _ _ ⟨b2,rfl,rfl⟩
 refine zU O O (yL O zr65) ?_
 rintro _ _ ⟨b3,rfl,rfl⟩
 refine zU O O (yL O zr32) ?_
 rintro _ _ ⟨b4,rfl,rfl⟩
 refine R<|zK<|A O<|zO qX (zD 2 O) O<|qK O ok151 (zMh e (by omega)) ⟨Y,O,T⟩<|G O<|R<|A O<|G O<|kP O<|R<|zC O (fun c1=>?_) (fun c1=>?_)
 ·try simp only [sx] at c1
  refine A O<|yU O zr65 pl65<|G O<|rStR 1 sz65 O<|rStR 0 sz32 O<|R<|zX _ (Weak.mem [true,true,false,true,true,true,true] O)<|zF<|D (qL yI O (zD 1 O) O) (wM zIc O (zD 0 O) O) ?_
  exact ⟨by rw [exprT_1 c1];rfl,[_,_],O⟩
 ·try simp only [sx] at c1
  refine zI<|zK<|A O<|zO qX (zD 2 O) O<|qK O ok135 (zMg _) ⟨Y,O,T⟩<|R<|zR<|zHf (ps:=[17]) hz 2 O O ok196 (zLg e (by omega)) (fun _ _=>O) O (fun pre=>nodesN n.Bufs S pre=0) (fun pre=>[E.row b4 32 [cI 0],E.row b3 65 [cI 0,cI 0,cI 0,cI 0,cI 0]]) (fun c pre=>(c=.ret/\¬nodesN n.Bufs S pre=0)) (fun c pre=>[E.row b4 32 [cI (nodesN n.Bufs S pre)],E.row b3 65 [cI 0,cI 0,cI 0,cI 0,cI 0]]) ⟨O,O⟩ ?_ ?_ ?_ ?_
  ·intro pre x suf hxs hi z hz
   have hxw:x.wt<=e.wt:=zGn e x (by rw [hxs];simp)
   refine zN O<|zU O O (qT [none,none,none,none,none,none,none,none,none,none,some 2,some 4,some 13] O zDx O) ?_
   rintro _ _ ⟨b5,rfl,rfl⟩
   refine rStR 0 zNb O<|R ?_
   intro z hz
   refine zR<|A O<|zM zOh qA O<|zO qX (zD 0 O) O<|zT O (kH [4,4,4,4] O ok255 (ck_node b svL svS svP n U S W x hn hS (by omega)) ⟨Y,O,Y,O,T⟩ O)<|G O<|R<|A O<|G O<|kP O<|R<|zC O (fun c2=>?_) (fun c2=>?_)
   ·try simp only [sx] at c2
    refine A O<|yU O zr65 pl65<|G O<|rStR 2 sz65 O<|rStR 1 sz32 O<|R<|zF ?_
    exact zCi (τ:=⟨[],_⟩) (Weak.mk [false,true,true,true,true,true,true,true] T O) ⟨⟨O,by rw [zNi hi];exact c2⟩,(by dsimp only;rw [zNi hi];rfl)⟩
   ·try simp only [sx] at c2
    refine zI ?_
    exact zCi (τ:=⟨[],_⟩) (Weak.mk [false,true,true,true,true,true,true,true] T O) ⟨(by dsimp only;rw [zNi hi];exact c2),O⟩
  ·intro hd
   refine A O<|zM zOh qA O<|zO qX (zD 2 O) O<|zT O (kH [3,3,3,3] O ok256 (ck_typeOf b svL svS svP n U S W e hn (zDi c1) (by omega)) ⟨Y,O,Y,O,T⟩ O)<|zT O (yW O O O)<|zT O (kC O O O)<|rStR 1 sz65 O<|rStR 0 sz32 O<|R<|zX _ (Weak.mem [true,true,false,true,true,true,true] O)<|zF<|D (qL yI O (zD 1 O) O) (wM zIc O (zD 0 O) O) ?_
   exact ⟨by rw [exprT_3 c1 hd];rfl,[_,_],O⟩
  ·rintro pre x suf hxs hx
   rcases hx with ⟨hc,hx⟩
   clear hc
   repeat (first|refine zQq ?_|refine zNz ?_)
   refine D (qL yI O (zD 1 O) O) (wM zIc O (zD 0 O) O) ?_
   exact ⟨by rw [exprT_2 c1 (by rw [hxs,nodesN_pre hx];exact hx),hxs,nodesN_pre (suf:=suf) hx];rfl,[_,_,_],O⟩
  ·rintro i pre x suf hxs hx
   rcases hx with ⟨hc,hx⟩
   cases hc
theorem ck_store (b:Nat) (svL svS svP:Value) (n:Ns) (U S:List ByteArray) (W:List Int) (s:St) (hn:n.Ok) (hS:S.length<=1000000) (hs:s.wt<=900000000):
    Con cfg 194 [vP b,vSt s] (ckN b svL svS svP n U S W) fun r μ'=>r=vI (storeE n.Bufs S s)/\μ'=ckN b svL svS svP n U S W:=by
 refine zS Tryz.func194 O Tryz.ntmps194 Tryz.results194 O ?_
 intro z hz
 obtain ⟨hE,hI,hIw,hB,hBw⟩:=St.parts hs
 have hrd:=rdE_wt s
 refine A O<|zU O O (qN O O) ?_
 rintro _ _ ⟨b1,rfl,rfl⟩
 refine G O<|R<|A O<|G O<|zH O wZ<|zM one9 (zD 0 O) O<|zH O zDl<|zM kF (zD 0 O) O<|zT O (wG [none,none,none,none,none,none,none,none,none,none,some 2,none,some 13] O zDx zRn O O)<|zT O (kH [1,1,1,1] O ok192 (zHe b svL svS svP n U S W (rdE s) hn hS (by omega)) ⟨Y,O,Y,O,T⟩ O)<|zT O (yH O O)<|zT O (yW O O O)<|zT O (kC O O O)<|zU O O (yL O zr65) ?_
 rintro _ _ ⟨b2,rfl,rfl⟩
 refine rStR 0 sz65 O<|G O<|R<|zK<|A O<|G O<|kP O<|R<|zC O (fun c1=>?_) (fun c1=>?_)
 ·try simp only [sx] at c1
  refine A O<|G O<|G O<|R<|zX _ (Weak.mem [false,false,true,true,true,true] O)<|zF<|zQ O ?_
  exact ⟨by rw [storeE_1 c1],O⟩
 ·try simp only [sx] at c1
  have hT:=exprT_rd c1
  refine zI<|zK<|zK<|kN 12 1 [⟨0,.q []⟩,⟨1,.q []⟩,⟨2,.q []⟩,⟨3,.q [3]⟩,⟨4,.q []⟩,⟨5,.q [2]⟩,⟨6,.q []⟩,⟨7,.q []⟩,⟨8,.q []⟩,⟨9,.q []⟩,⟨10,.e 0 []⟩,⟨11,.e 0 []⟩] mixed (by kernel_rfl) (by kernel_rfl) O O O<|zW O<|zW O<|zW O<|zW O<|zW O<|zW O<|zW O<|zW O<|zW O<|zW O<|zW O<|zW O<|zCc<|qF O (by decide) O O (zP O O)<|qF O (by decide) O O (qB O O)<|qF O (by decide) O O (zE O zNr O)<|qF O (by decide) O O (zV O zBb O (zD 0 O) O)<|qF O (by decide) O O (zE O wZ O)<|qF O (by decide) O O (zJ O one9 O (zD 0 O) O)<|qF O (by decide) O O (qC O ok254 (zAs n s.Name hn) ⟨Y,O,Y,O,T⟩)<|qF O (by decide) O O (yH O O)<|qF O (by decide) O O (yW O O O)<|qF O (by decide) O O (kC O O O)<|zJw O O (by decide) O O (qT [none,none,none,none,none,none,some 1,none] O zr95 O) ?_
  rintro _ _ ⟨b3,rfl,rfl⟩
  refine ⟨_,O,?_⟩
  refine zKc O O (by decide) O O (zAn O sz95 O O O (zKa 0 O O)) ?_
  rintro _ _ ⟨rfl,rfl⟩
  refine ⟨_,O,?_⟩
  refine zCb O<|G O<|R<|A O<|zH O zMe<|zM one3 (zD 0 O) O<|L O<|R<|zC O (fun c2=>?_) (fun c2=>?_)
  ·try simp only [sx] at c2
   refine A O<|G O<|R<|zX _ (Weak.mem [false,false,false,true,true,true,true] O)<|zF<|zQ O ?_
   exact ⟨by rw [storeE_u c1 (.inl c2)],O⟩
  ·try simp only [sx] at c2
   refine zI<|zK<|A O<|zH O zAf<|zM one3 (zD 2 O) O<|L O<|G O<|rL0 O (fun g7_3=>zE O zIr O) O<|rL1 40 O (fun g7_3=>zJ O one3 O (zD 2 O) O) O<|rL1 41 O (fun g7_3=>zCh O O O) O<|rL1 42 O (fun g7_3=>zP O O) O<|rLz [] O N T (fun g7_7=>zE O zIr O) O<|rLz [(44,_)] O N ⟨O,O,T⟩ (fun g7_7=>zJ O one3 O (zD 2 O) O) O<|rLz [(45,_)] O N ⟨O,O,T⟩ (fun g7_7=>yA O O O) O<|rL1 43 O (fun g7_3=>zBk O O O O (fun h=>kI (by assumption) (lzf h))) O<|yZ O (fun h=>h)<|R<|zC O (fun c3=>?_) (fun c3=>?_)
   ·try simp only [sx] at c3
    refine A O<|G O<|R<|zX _ (Weak.mem [false,false,false,true,true,true,true] O)<|zF<|zQ O ?_
    exact ⟨by rw [storeE_u c1 (.inr c3)],O⟩
   ·try simp only [sx] at c3
    refine zI<|A O<|G O<|zH O zAv<|zO qX (zD 2 O) O<|zT O (kH [3,3,3,3] O ok192 (zHe b svL svS svP n U S W s.E hn hS (by omega)) ⟨Y,O,Y,O,T⟩ O)<|zT O (yH O O)<|zT O (yW O O O)<|zT O (kC O O O)<|zU O O (yL O zr65) ?_
    rintro _ _ ⟨b4,rfl,rfl⟩
    refine rStR 0 sz65 O<|G O<|R<|zK<|A O<|G O<|kP O<|R<|zC O (fun c4=>?_) (fun c4=>?_)
    ·try simp only [sx] at c4
     refine A O<|G O<|G O<|R<|zX _ (Weak.mem [false,false,false,false,true,true,true,true] O)<|zF<|zQ O ?_
     exact ⟨by rw [storeE_2 c1 (by omega) c4],O⟩
    ·try simp only [sx] at c4
     refine zI<|zK<|A O<|zH O zAv<|zO qX (zD 3 O) O<|qK O ok193 (wD s.E) ⟨Y,O,T⟩<|G O<|rL0 O (fun g12_3=>zV O yI O (zD 0 O) O) O<|rL0 O (fun g12_3=>zV O yI O (zD 2 O) O) O<|rLz [(63,_),(64,_)] O gv1 ⟨O,O,O,O,T⟩ (fun g12_3=>zBl O fl65 O O O) O<|r_or O (fun h=>(lzf h))<|R<|zC O (fun c5=>?_) (fun c5=>?_)
     ·have h10:=st10_t c5
      rw [hT] at h10
      refine A O<|G O<|R<|zX _ (Weak.mem [false,false,false,false,true,true,true,true] O)<|zF<|zQ O ?_
      exact ⟨by rw [storeE_10 c1 (by omega) c4 h10],O⟩
     ·have h10:=st10_f c5
      rw [hT] at h10
      refine zI<|A O<|G O<|R<|zX _ (Weak.mem [false,false,false,false,true,true,true,true] O)<|zF<|zQ O ?_
      exact ⟨by rw [storeE_0 c1 (by omega) c4 h10],O⟩
theorem ck_loop (b:Nat) (svL svS svP:Value) (n:Ns) (U S:List ByteArray) (W:List Int) (s:St) (hn:n.Ok) (hU:U.length<=1000000):
    Con cfg 191 [vP b,vSt s] (ckN b svL svS svP n U S W) fun r μ'=>r=vI (loopE n.Bufs U s)/\μ'=ckN b svL svS svP n U S W:=by
 refine zS Tryz.func191 O Tryz.ntmps191 Tryz.results191 O ?_
 intro z hz
 refine A O<|zU O O (qN O O) ?_
 rintro _ _ ⟨b1,rfl,rfl⟩
 refine G O<|R<|zK<|A O<|zH O wZ<|zM one9 (zD 0 O) O<|qK O ok129 (zDw _) ⟨Y,O,T⟩<|wA O<|R<|zC O (fun c1=>?_) (fun c1=>?_)
 ·try simp only [sx] at c1
  refine A O<|G O<|R<|zX _ (Weak.mem [false,true,true,true,true] O)<|zF<|zQ O ?_
  exact ⟨by rw [loopE_7 c1],O⟩
 ·try simp only [sx] at c1
  refine zI<|zK<|zK<|kN 12 1 [⟨0,.q []⟩,⟨1,.q []⟩,⟨2,.q []⟩,⟨3,.q [2]⟩,⟨4,.q []⟩,⟨5,.q [1]⟩,⟨6,.q []⟩,⟨7,.q []⟩,⟨8,.q []⟩,⟨9,.q []⟩,⟨10,.e 0 []⟩,⟨11,.e 0 []⟩] mixed (by kernel_rfl) (by kernel_rfl) O O O<|zW O<|zW O<|zW O<|zW O<|zW O<|zW O<|zW O<|zW O<|zW O<|zW O<|zW O<|zW O<|zCc<|qF O (by decide) O O (zP O O)<|qF O (by decide) O O (qB O O)<|qF O (by decide) O O (zE O zNr O)<|qF O (by decide) O O (zV O zBb O (zD 0 O) O)<|qF O (by decide) O O (zE O wZ O)<|qF O (by decide) O O (zJ O one9 O (zD 0 O) O)<|qF O (by decide) O O (qC O ok254 (zAs n s.Name hn) ⟨Y,O,Y,O,T⟩)<|qF O (by decide) O O (yH O O)<|qF O (by decide) O O (yW O O O)<|qF O (by decide) O O (kC O O O)<|zJw O O (by decide) O O (qT [none,none,none,none,none,none,some 1,none] O zr95 O) ?_
  rintro _ _ ⟨b2,rfl,rfl⟩
  refine ⟨_,O,?_⟩
  refine zKc O O (by decide) O O (zAn O sz95 O O O (zKa 0 O O)) ?_
  rintro _ _ ⟨rfl,rfl⟩
  refine ⟨_,O,?_⟩
  refine zCb O<|G O<|R<|zK<|qU 10 mixed (by kernel_rfl) O O<|J O O (zP O O)<|J O O (zP O O)<|qR [] O O O O gv1 T (fun g4_1=>zP O O) O<|qR [(23,_)] O O O O gv1 ⟨O,O,T⟩ (fun g4_1=>qB O O) O<|qR [(24,_)] O O O O gv1 ⟨O,O,T⟩ (fun g4_1=>zE O fd167_1 O) O<|qR [(25,_)] O O O O gv1 ⟨O,O,T⟩ (fun g4_1=>zJ O zId O (zD 2 O) O) O<|qR [] O O O O gv1 T (fun g4_1=>zE O wZ O) O<|qR [(27,_)] O O O O gv1 ⟨O,O,T⟩ (fun g4_1=>zJ O one9 O (zD 1 O) O) O<|qR [(26,_),(28,_)] O O O O gv1 ⟨O,O,O,O,T⟩ (fun g4_1=>zHa 3 O ok251 O (zCp U s.Name (by omega)) O ⟨.inl ⟨O,O⟩,.inr ⟨Y,O⟩,T⟩) O<|J O O (zBk O O O O (fun h=>(lzf h)))<|yO<|R<|zC O (fun c2=>?_) (fun c2=>?_)
  ·try simp only [sx] at c2
   refine A O<|G O<|R<|zX _ (Weak.mem [false,false,true,true,true,true] O)<|zF<|zQ O ?_
   exact ⟨by rw [loopE_8 c1 c2],O⟩
  ·try simp only [sx] at c2
   have h8:¬(hasBf n.Bufs s.Name=true∨hasB U s.Name=true):=by rw [c2.1,c2.2];simp
   refine zI<|zK<|A O<|zH O zFo<|zM one3 (zD 1 O) O<|yJ O<|G O<|rL0 O (fun g6_3=>zE O zFo O) O<|rL1 35 O (fun g6_3=>zJ O one3 O (zD 1 O) O) O<|rL1 36 O (fun g6_3=>yA O O O) O<|r_or O (fun h=>(lzf h))<|G O<|rL0 O (fun g6_8=>zE O zIs O) O<|rL1 40 O (fun g6_8=>zJ O one3 O (zD 1 O) O) O<|rL1 41 O (fun g6_8=>zCh O O O) O<|r_or O (fun h=>(lzf h))<|G O<|rL0 O (fun g6_13=>zE O zIs O) O<|rL1 45 O (fun g6_13=>zJ O one3 O (zD 1 O) O) O<|rL1 46 O (fun g6_13=>yA O O O) O<|r_or O (fun h=>(lzf h))<|R<|zC O (fun c3=>?_) (fun c3=>?_)
   ·try simp only [sx] at c3
    refine A O<|G O<|R<|zX _ (Weak.mem [false,false,true,true,true,true] O)<|zF<|zQ O ?_
    exact ⟨by rw [loopE_1 c1 h8 (by omega)],O⟩
   ·try simp only [sx] at c3
    refine zI<|A O<|G O<|R<|zX _ (Weak.mem [false,false,true,true,true,true] O)<|zF<|zQ O ?_
    exact ⟨by rw [loopE_0 c1 h8 (by omega)],O⟩
theorem zSi (e:Ex) (he:e.wt<=4294967296):
    Pur cfg 253 [vE e] (vB (emptyE e)):=by
 refine zS Tryz.func253 O Tryz.ntmps253 Tryz.results253 O ?_
 intro z hz
 refine A O<|zU O O (qN O O) ?_
 rintro _ _ ⟨b1,rfl,rfl⟩
 refine G O<|R<|A O<|zO qX (zD 0 O) O<|zT O (wG [none,none,none,none,none,none,none,none,none,none,some 2,some 4,some 13] O zDx zRn O O)<|qK O ok311 (expr_Same e zEx he (by decide)) ⟨Y,O,Y,O,T⟩<|G O<|R<|zF<|zQ O ?_
 exact O
theorem zSh (s:St) (hs:s.wt<=900000000):
    Pur cfg 190 [vSt s] (vB (synSt s)):=by
 refine zS Tryz.func190 O Tryz.ntmps190 Tryz.results190 O ?_
 intro z hz
 obtain ⟨hE,hI,hIw,hB,hBw⟩:=St.parts hs
 refine A O<|zU O O (qN O O) ?_
 rintro _ _ ⟨b1,rfl,rfl⟩
 refine G O<|R<|zK<|qU 17 mixed (by kernel_rfl) O O<|J O O (zE O zAf O)<|J O O (zJ O one3 O (zD 0 O) O)<|J O O (kB O O O)<|J O O (zE O zAf O)<|J O O (zJ O one3 O (zD 0 O) O)<|J O O (kB O O O)<|J O O (zP O O)<|qR [] O O O O gv1 T (fun g1_6=>zE O zAf O) O<|qR [(13,_)] O O O O gv1 ⟨O,O,T⟩ (fun g1_6=>zJ O one3 O (zD 0 O) O) O<|qR [(14,_)] O O O O gv1 ⟨O,O,T⟩ (fun g1_6=>kB O O O) O<|J O O (zBk O O O O (fun h=>(lzf h)))<|J O O (zE O zAf O)<|J O O (zJ O one3 O (zD 0 O) O)<|J O O (kB O O O)<|J O O (qV O O)<|J O O (qV O O)<|J O O (qV O O)<|yO<|R<|zK<|zR<|A O<|G O<|wA O<|G O<|rL0 O (fun g2_2=>zP O O) O<|rL1 24 O (fun g2_2=>wL O O) O<|yZ O (fun h=>h)<|G O<|rL0 O (fun g2_6=>zP O O) O<|rL1 28 O (fun g2_6=>wL O O) O<|yZ O (fun h=>h)<|G O<|R<|zC O (fun c1=>?_) (fun c1=>?_)
 ·refine A O<|G O<|R<|zF<|zQ O ?_
  exact congrArg vB (syn_1 c1)
 ·refine A O<|G O<|G O<|rL0 O (fun g4_1=>zE O wZ O) O<|rL1 34 O (fun g4_1=>zJ O one9 O (zD 0 O) O) O<|rL1 35 O (fun g4_1=>zAz O O O) O<|yZ O (fun h=>h)<|G O<|R<|zC O (fun c2=>?_) (fun c2=>?_)
  ·refine A O<|G O<|R<|zF<|zQ O ?_
   exact congrArg vB (syn_2 c2)
  ·refine A O<|G O<|wA O<|G O<|rL0 O (fun g6_2=>zE O zFo O) O<|rL1 42 O (fun g6_2=>zJ O one3 O (zD 0 O) O) O<|rL1 43 O (fun g6_2=>wU O O O) O<|rL1 44 O (fun g6_2=>zP O O) O<|rLz [] O N T (fun g6_6=>zE O zIs O) O<|rLz [(46,_)] O N ⟨O,O,T⟩ (fun g6_6=>zJ O one3 O (zD 0 O) O) O<|rLz [(47,_)] O N ⟨O,O,T⟩ (fun g6_6=>wU O O O) O<|rL1 45 O (fun g6_2=>zBk O O O O (fun h=>kI (by assumption) (lzf h))) O<|yZ O (fun h=>h)<|G O<|R<|zC O (fun c3=>?_) (fun c3=>?_)
   ·refine A O<|G O<|R<|zF<|zQ O ?_
    exact congrArg vB (syn_3 c3)
   ·refine A O<|zH O zAf<|zM one3 (zD 0 O) O<|kP O<|G O<|rL0 O (fun g8_3=>zE O zIr O) O<|rL1 56 O (fun g8_3=>zJ O one3 O (zD 0 O) O) O<|rL1 57 O (fun g8_3=>wU O O O) O<|yZ O (fun h=>h)<|G O<|R<|zC O (fun c4=>?_) (fun c4=>?_)
    ·refine A O<|G O<|R<|zF<|zQ O ?_
     exact congrArg vB (syn_4 c4)
    ·refine A O<|G O<|wA O<|G O<|rL0 O (fun g10_2=>zE O zDl O) O<|rL1 64 O (fun g10_2=>zJ O kF O (zD 0 O) O) O<|rL1 65 O (fun g10_2=>yG O kO O) O<|rL1 66 O (fun g10_2=>yA O O O) O<|yZ O (fun h=>h)<|G O<|R<|zC O (fun c5=>?_) (fun c5=>?_)
     ·refine A O<|G O<|R<|zF<|zQ O ?_
      exact congrArg vB (syn_5 c5)
     ·refine A O<|G O<|G O<|rL0 O (fun g12_1=>zE O zAv O) O<|rL1 72 O (fun g12_1=>zV O qX O (zD 0 O) O) O<|rL1 73 O (fun g12_1=>qC O ok253 (zSi s.E (by omega)) ⟨Y,O,T⟩) O<|rL1 74 O (fun g12_1=>wL O O) O<|yZ O (fun h=>h)<|G O<|R<|zC O (fun c6=>?_) (fun c6=>?_)
      ·refine A O<|G O<|R<|zF<|zQ O ?_
       exact congrArg vB (syn_6 c6)
      ·refine zI<|A O<|G O<|wA O<|G O<|rL0 O (fun g14_2=>zE O zAu O) O<|rL1 80 O (fun g14_2=>zJ O zCg O (zD 0 O) O) O<|rL1 81 O (fun g14_2=>yG O el51 O) O<|rL1 82 O (fun g14_2=>kB O O O) O<|r_or O (fun h=>(lzf h))<|G O<|R<|zF<|zQ O ?_
       exact congrArg vB (syn_7 c1 c2 c3 c4 c5 c6)
theorem ck_statement (b:Nat) (svL svS svP:Value) (n:Ns) (U S:List ByteArray) (W:List Int) (s:St) (hn:n.Ok) (hS:S.length<=1000000) (hU:U.length<=1000000) (hs:s.wt<=900000000):
    Con cfg 133 [vP b,vSt s] (ckN b svL svS svP n U S W) fun r μ'=>r=vI (stE n.Bufs U S s)/\μ'=ckN b svL svS svP n U S W:=by
 refine zS Tryz.func133 O Tryz.ntmps133 Tryz.results133 O ?_
 intro z hz
 obtain ⟨hE,hI,hIw,hB,hBw⟩:=St.parts hs
 refine A O<|zU O O (qN O O) ?_
 rintro _ _ ⟨b1,rfl,rfl⟩
 refine G O<|R<|zK<|A O<|zO zDe (zD 0 O) O<|qK O ok190 (zSh s hs) ⟨Y,O,T⟩<|wA O<|R<|zC O (fun c1=>?_) (fun c1=>?_)
 ·try simp only [sx] at c1
  refine A O<|G O<|R<|zX _ (Weak.mem [false,true,true,true,true] O)<|zF<|zQ O ?_
  exact ⟨by rw [stE_5 c1],O⟩
 ·try simp only [sx] at c1
  refine zI<|zK<|A O<|zH O zAf<|zM one3 (zD 0 O) O<|R<|zR<|A O<|L O<|G O<|R<|zC O (fun c2=>?_) (fun c2=>?_)
  ·try simp only [sx] at c2
   refine A O<|G O<|zO zDe (zD 0 O) O<|zT O (kH [1,1,1,1] O ok191 (ck_loop b svL svS svP n U S W s hn hU) ⟨Y,O,Y,O,T⟩ O)<|G O<|R<|zX _ (Weak.mem [false,true,true,true,true] O)<|zF<|zQ O ?_
   exact ⟨by rw [stE_l c1 c2],O⟩
  ·try simp only [sx] at c2
   refine A O<|L O<|G O<|R<|zC O (fun c3=>?_) (fun c3=>?_)
   ·try simp only [sx] at c3
    refine zK<|A O<|G O<|zH O zAv<|zO qX (zD 0 O) O<|zT O (kH [1,1,1,1] O ok192 (zHe b svL svS svP n U S W s.E hn hS (by omega)) ⟨Y,O,Y,O,T⟩ O)<|zT O (yH O O)<|zT O (yW O O O)<|zT O (kC O O O)<|zU O O (yL O zr65) ?_
    rintro _ _ ⟨b2,rfl,rfl⟩
    refine rStR 0 sz65 O<|G O<|R<|A O<|G O<|kP O<|R<|zC O (fun c4=>?_) (fun c4=>?_)
    ·try simp only [sx] at c4
     refine A O<|G O<|G O<|R<|zX _ (Weak.mem [false,false,true,true,true,true] O)<|zF<|zQ O ?_
     exact ⟨by rw [stE_i c1 c3,ifE_x c4],O⟩
    ·try simp only [sx] at c4
     refine zI<|zK<|A O<|zH O zAv<|zO qX (zD 1 O) O<|qK O ok193 (wD s.E) ⟨Y,O,T⟩<|wA O<|R<|zC O (fun c5=>?_) (fun c5=>?_)
     ·try simp only [sx] at c5
      refine A O<|G O<|R<|zX _ (Weak.mem [false,false,true,true,true,true] O)<|zF<|zQ O ?_
      exact ⟨by rw [stE_i c1 c3,ifE_10 c4 c5],O⟩
     ·try simp only [sx] at c5
      refine zI<|A O<|G O<|R<|zX _ (Weak.mem [false,false,true,true,true,true] O)<|zF<|zQ O ?_
      exact ⟨by rw [stE_i c1 c3,ifE_0 c4 c5],O⟩
   ·try simp only [sx] at c3
    refine zI<|A O<|G O<|zO zDe (zD 0 O) O<|zT O (kH [1,1,1,1] O ok194 (ck_store b svL svS svP n U S W s hn hS hs) ⟨Y,O,Y,O,T⟩ O)<|G O<|R<|zX _ (Weak.mem [false,true,true,true,true] O)<|zF<|zQ O ?_
    exact ⟨by rw [stE_s c1 c2 c3],O⟩
set_option maxHeartbeats 2000000 in
theorem zFj (b:Nat) (svL svS svP:Value) (n:Ns) (U S:List ByteArray) (W:List Int) (l:List St) (hn:n.Ok) (hU:U.length+stsN l<=1000000) (hS:S.length+stsN l<=1000000) (hW:W.length+stsN l<=1000000) (hl:stsWt l<=536870912) (ih:∀s,s∈l->∀(svL svS svP:Value) (U S:List ByteArray) (W:List Int),U.length+stsN s.Body<=1000000->S.length+stsN s.Body<=1000000->W.length+stsN s.Body<=1000000->Con cfg 85 [vP b,vSts s.Body] (ckN b svL svS svP n U S W) fun r μ'=>∃svL' svS' svP' U' S' W',r=vI (chkL n.Bufs U S W 0 s.Body).E/\((chkL n.Bufs U S W 0 s.Body).E=0->U'=(chkL n.Bufs U S W 0 s.Body).U/\S'=S/\W'=W)/\(¬(chkL n.Bufs U S W 0 s.Body).E=0->W'=(chkL n.Bufs U S W 0 s.Body).W)/\μ'=ckN b svL' svS' svP' n U' S' W'):
    Con cfg 85 [vP b,vSts l] (ckN b svL svS svP n U S W) fun r μ'=>∃svL' svS' svP' U' S' W',r=vI (chkL n.Bufs U S W 0 l).E/\((chkL n.Bufs U S W 0 l).E=0->U'=(chkL n.Bufs U S W 0 l).U/\S'=S/\W'=W)/\(¬(chkL n.Bufs U S W 0 l).E=0->W'=(chkL n.Bufs U S W 0 l).W)/\μ'=ckN b svL' svS' svP' n U' S' W':=by
 refine zS Tryz.func85 O Tryz.ntmps85 Tryz.results85 O ?_
 intro z hz
 have hll:=zAe l
 have hlN:=zDp l
 refine A O<|G O<|R<|zK<|A O<|G O<|zZ O el51<|G O<|R<|zR<|zX ⟨[(12,.c _),(0,.c _),(1,.c _),(11,.c _)],[_,_,_,_]⟩ (Weak.mk [true,true,true,true] ⟨Y,Y,Y,Y,T⟩ O)<|qG 1 4 O O (Nat×Value×Value×Value×List ByteArray) (fun ⟨k,vL,vS,vP_,u⟩=>[(12,vI k)]) (fun ⟨k,vL,vS,vP_,u⟩=>[E.row b 167 [.sl 8 (n.Bufs.map Bf.cells),.sl 20 (n.Body.map St.cells),.lit vL,.lit vS,.lit vP_],E.vec vL 9 1 (u.map fun s=>[cS s]),E.vec vS 9 1 (S.map fun s=>[cS s]),E.vec vP_ 3 1 (W.map fun i=>[cI i])]) (fun ⟨k,vL,vS,vP_,u⟩=>k<=l.length/\(u.length+stsN (l.drop k)<=1000000)/\((chkL n.Bufs U S W 0 l)=chkL n.Bufs u S W k (l.drop k))) (fun ⟨k,vL,vS,vP_,u⟩=>l.length-k) ⟨⟨0,svL,svS,svP,U⟩,⟨by omega,by simpa using hU,O⟩,Weak.mk [true,true,true,true] ⟨Y,Y,Y,Y,T⟩ O⟩ ?_
 rintro ⟨k,vL,vS,vP_,u⟩ ⟨hk,hub,hp⟩
 show AWP _ _ _ _ _ ⟨[(12,vI k)]++_,[E.row b 167 [.sl 8 (n.Bufs.map Bf.cells),.sl 20 (n.Body.map St.cells),.lit vL,.lit vS,.lit vP_],E.vec vL 9 1 (u.map fun s=>[cS s]),E.vec vS 9 1 (S.map fun s=>[cS s]),E.vec vP_ 3 1 (W.map fun i=>[cI i])]++_⟩
 refine A O<|yJ O<|R<|zK<|zC O (fun c1=>?_) (fun c1=>?_)
 ·try simp only [sx] at c1
  obtain ⟨s,hs⟩:=qY l k (by omega)
  have hsw:=kK (zY hs)
  have hsb:=St.body_wt s
  have hsn:=stsN_drop hs
  have hse:=zKb s
  have hsm:=zLj (zY hs)
  have hcl:=chkS_len n.Bufs s u S (W++[(k:Int)])
  refine zI<|zK<|zR<|A O<|G O<|G O<|R<|A O<|G O<|G O<|qE O el51 (by omega) (zDc (by assumption))<|zO zDe qA O<|zU O O (qT [none,none,none,none,none,some 4,none,none,none,none,none,none,none,none,none,none,some 2,some 4,some 13,some 20] O zQb O) ?_
  rintro _ _ ⟨b1,rfl,rfl⟩
  refine rStR 0 sz110 O<|R<|A O<|G O<|G O<|zT O (qB O O)<|zH O zGv<|zM zEh (zD 1 O) O<|G O<|zT O (yK O el55 zr3 O O O O)<|zU O O (kG 4 O el55 O O O (by simp only [List.length_map,List.length_append,List.length_cons,List.length_nil];omega) (by simp only [List.length_map,List.length_append,List.length_cons,List.length_nil];omega)) ?_
  rintro _ _ ⟨sv2,rfl,rfl⟩
  refine zT O (qB O O)<|zH O zGv<|rStR 1 sz55 O<|R<|zK<|zK<|zX _ (Weak.vecEq 4 O (rows':=(W++[(k:Int)]).map fun i=>[cI i]) (by first|rfl|simp|rw [List.take_of_length_le (by simp)]))<|zN O<|G O<|zO zDe (zD 0 O) O<|zT O (kH [1,1,1,1] O ok133 (ck_statement b vL vS _ n u S (W++[(k:Int)]) s hn (by omega) (by omega) (by omega)) ⟨Y,O,Y,O,T⟩ O)<|G O<|R<|A O<|G O<|kP O<|R<|zC O (fun c2=>?_) (fun c2=>?_)
  ·try simp only [sx] at c2
   have hx0:=chkS_no (here:=W++[(k:Int)]) (B:=n.Bufs) (U:=u) (sc:=S) (s:=s) c2
   refine A O<|G O<|G O<|R<|zX _ (Weak.mem [false,true,true,true,true] O)<|zF<|zQ O ?_
   refine ⟨_,_,_,_,_,_,?_,fun h0=>?_,fun _=>?_,O⟩
   · rw [zDz hs hp (by rw [hx0];exact c2),hx0]
   · rw [zDz hs hp (by rw [hx0];exact c2),hx0] at h0;exact absurd h0 c2
   · rw [zDz hs hp (by rw [hx0];exact c2),hx0]
  ·try simp only [sx] at c2
   have hin:=chkS_in (here:=W++[(k:Int)]) (B:=n.Bufs) (U:=u) (sc:=S) (s:=s) c2
   refine zI<|A O<|G O<|zT O (qB O O)<|zH O zIp<|zM zId (zD 1 O) O<|zT O (yQ 3 O zBz O O)<|G O<|R<|zK<|A O<|zH O zAf<|zM one3 (zD 0 O) O<|L O<|R<|zC O (fun c3=>?_) (fun c3=>?_)
   ·try simp only [sx] at c3
    rw [zLr c3,zLr c3] at hin
    refine zK<|kN 9 0 [⟨0,.q []⟩,⟨1,.q []⟩,⟨2,.q []⟩,⟨3,.q []⟩,⟨4,.q [1]⟩,⟨5,.q []⟩,⟨6,.q [0]⟩,⟨7,.q []⟩,⟨8,.e 2 []⟩] mixed (by kernel_rfl) (by kernel_rfl) O O O<|zW O<|zW O<|zW O<|zW O<|zW O<|zW O<|zW O<|zW O<|zW O<|zCc<|qF O (by decide) O O (zP O O)<|qF O (by decide) O O (zP O O)<|qF O (by decide) O O (qB O O)<|qF O (by decide) O O (zE O fd167_1 O)<|qF O (by decide) O O (zJ O zId O (zD 0 O) O)<|qF O (by decide) O O (zE O wZ O)<|qF O (by decide) O O (zJ O one9 O (zD 0 O) O)<|qF O (by decide) O O (yK O zBz zr9 O O O O)<|zJw O O (by decide) O O (kG 0 O zBz O O O (by simp only [List.length_map,List.length_append,List.length_cons,List.length_nil];omega) (by simp only [List.length_map,List.length_append,List.length_cons,List.length_nil];omega)) ?_
    rintro _ _ ⟨sv3,rfl,rfl⟩
    refine ⟨_,O,?_⟩
    refine zCb O<|zT O (qB O O)<|zH O fd167_1<|rStR 1 sz123 O<|R<|zX _ (Weak.vecEq 2 O (rows':=(u++[s.Name]).map fun s=>[cS s]) (by first|rfl|simp|rw [List.take_of_length_le (by simp)]))<|kN 9 0 [⟨0,.q []⟩,⟨1,.q []⟩,⟨2,.q []⟩,⟨3,.q []⟩,⟨4,.q [1]⟩,⟨5,.q []⟩,⟨6,.q [0]⟩,⟨7,.q []⟩,⟨8,.e 3 []⟩] mixed (by kernel_rfl) (by kernel_rfl) O O O<|zW O<|zW O<|zW O<|zW O<|zW O<|zW O<|zW O<|zW O<|zW O<|zCc<|qF O (by decide) O O (zP O O)<|qF O (by decide) O O (zP O O)<|qF O (by decide) O O (qB O O)<|qF O (by decide) O O (zE O zIp O)<|qF O (by decide) O O (zJ O zId O (zD 0 O) O)<|qF O (by decide) O O (zE O wZ O)<|qF O (by decide) O O (zJ O one9 O (zD 0 O) O)<|qF O (by decide) O O (yK O zBz zr9 O O O O)<|zJw O O (by decide) O O (kG 0 O zBz O O O (by simp only [List.length_map,List.length_append,List.length_cons,List.length_nil];omega) (by simp only [List.length_map,List.length_append,List.length_cons,List.length_nil];omega)) ?_
    rintro _ _ ⟨sv4,rfl,rfl⟩
    refine ⟨_,O,?_⟩
    refine zCb O<|zT O (qB O O)<|zH O zIp<|rStR 1 sz123 O<|R<|zK<|zK<|zX _ (Weak.vecEq 3 O (rows':=(S++[s.Name]).map fun s=>[cS s]) (by first|rfl|simp|rw [List.take_of_length_le (by simp)]))<|zX ⟨_,E.row _ _ _::ckN b _ _ _ n (u++[s.Name]) (S++[s.Name]) (W++[(k:Int)])⟩ (Weak.mem [true,true,true,true,true] O)<|zN O<|G O<|zH O zAu<|zM zCg (zD 0 O) O<|zU O O (qH [1,1,1,1] O ok85 (ih s (zY hs) _ _ _ (u++[s.Name]) (S++[s.Name]) (W++[(k:Int)]) (by first|omega|(simp;omega)) (by first|omega|(simp;omega)) (by simp;omega)) ⟨Y,O,Y,O,T⟩ O) ?_
    rintro _ _ ⟨_,⟨svL1,svS1,svP1,U1,S1,W1,rfl,hok,hno,rfl⟩,rfl⟩
    refine G O<|R<|A O<|G O<|kP O<|R<|zC O (fun c4=>?_) (fun c4=>?_)
    ·try simp only [sx] at c4
     rw [←hin] at c4 hno
     refine A O<|G O<|G O<|R<|zX _ (Weak.mem [false,true,true,true,true] O)<|zF<|zQ O ?_
     refine ⟨_,_,_,_,_,_,?_,fun h0=>?_,fun _=>?_,O⟩
     · rw [zDz hs hp c4,hin]
     · rw [zDz hs hp c4] at h0;exact absurd h0 c4
     · rw [zDz hs hp c4];exact hno c4
    ·try simp only [sx] at c4
     rw [←hin] at c4 hok
     obtain ⟨hU1,hS1,hW1⟩:=hok c4
     have hS2:=hS1.symm
     subst hU1 hS2 hW1
     refine zI<|A O<|G O<|G O<|zT O (qB O O)<|zH O zIp<|zM zId (zD 1 O) O<|G O<|zU O O (zGk (k:=S.length) 3 O zBz O O O (by simp) (by simp)) ?_
     rintro _ _ ⟨sv5,rfl,rfl⟩
     refine zT O (qB O O)<|zH O zIp<|rStR 1 sz123 O<|R<|zX _ (Weak.vecEq 3 O (rows':=S.map fun s=>[cS s]) (by first|rfl|simp|rw [List.take_of_length_le (by simp)]))<|kN 12 0 [⟨0,.q []⟩,⟨1,.q []⟩,⟨2,.q []⟩,⟨3,.q []⟩,⟨4,.q [1]⟩,⟨5,.q []⟩,⟨6,.q []⟩,⟨7,.q []⟩,⟨8,.q [1]⟩,⟨9,.q [4]⟩,⟨10,.q []⟩,⟨11,.e 4 []⟩] mixed (by kernel_rfl) (by kernel_rfl) O O O<|zW O<|zW O<|zW O<|zW O<|zW O<|zW O<|zW O<|zW O<|zW O<|zW O<|zW O<|zW O<|zCc<|qF O (by decide) O O (zP O O)<|qF O (by decide) O O (zP O O)<|qF O (by decide) O O (qB O O)<|qF O (by decide) O O (zE O zGv O)<|qF O (by decide) O O (zJ O zEh O (zD 0 O) O)<|qF O (by decide) O O (zP O O)<|qF O (by decide) O O (qB O O)<|qF O (by decide) O O (zE O zGv O)<|qF O (by decide) O O (zJ O zEh O (zD 0 O) O)<|qF O (by decide) O O (yQ 0 O el55 O O)<|qF O (by decide) O O (yD O O O (by simp only [List.length_map,List.length_append,List.length_cons,List.length_nil];exact ⟨by omega,by omega⟩))<|zJw O O (by decide) O O (zGk (k:=W.length) 0 O el55 O O O (by simp only [List.length_map,List.length_append,List.length_cons,List.length_nil];omega) (by simp)) ?_
     rintro _ _ ⟨sv6,rfl,rfl⟩
     refine ⟨_,O,?_⟩
     refine zCb O<|zT O (qB O O)<|zH O zGv<|rStR 1 sz55 O<|R<|zX _ (Weak.vecEq 4 O (rows':=W.map fun i=>[cI i]) (by first|rfl|simp|rw [List.take_of_length_le (by simp)]))<|zN O<|qI O ⟨by omega,by omega⟩<|G O<|R ?_
     refine ⟨⟨k+1,_,_,_,(chkS n.Bufs u S (W++[(k:Int)]) s).U⟩,⟨by omega,by omega,zMr hs hp c4⟩,(by show l.length-(k+1)<l.length-k;omega),Weak.mk [false,true,true,true,true] ⟨Y,Y,Y,Y,T⟩ O⟩
   ·try simp only [sx] at c3
    rw [zPj c3,zPj c3] at hin
    refine zI<|zK<|zK<|zX ⟨_,E.row _ _ _::ckN b _ _ _ n u S (W++[(k:Int)])⟩ (Weak.mem [true,true,true,true,true] O)<|zN O<|G O<|zH O zAu<|zM zCg (zD 0 O) O<|zU O O (qH [1,1,1,1] O ok85 (ih s (zY hs) _ _ _ u S (W++[(k:Int)]) (by first|omega|(simp;omega)) (by first|omega|(simp;omega)) (by simp;omega)) ⟨Y,O,Y,O,T⟩ O) ?_
    rintro _ _ ⟨_,⟨svL1,svS1,svP1,U1,S1,W1,rfl,hok,hno,rfl⟩,rfl⟩
    refine G O<|R<|A O<|G O<|kP O<|R<|zC O (fun c4=>?_) (fun c4=>?_)
    ·try simp only [sx] at c4
     rw [←hin] at c4 hno
     refine A O<|G O<|G O<|R<|zX _ (Weak.mem [false,true,true,true,true] O)<|zF<|zQ O ?_
     refine ⟨_,_,_,_,_,_,?_,fun h0=>?_,fun _=>?_,O⟩
     · rw [zDz hs hp c4,hin]
     · rw [zDz hs hp c4] at h0;exact absurd h0 c4
     · rw [zDz hs hp c4];exact hno c4
    ·try simp only [sx] at c4
     rw [←hin] at c4 hok
     obtain ⟨hU1,hS1,hW1⟩:=hok c4
     have hS2:=hS1.symm
     subst hU1 hS2 hW1
     refine zI<|A O<|G O<|G O<|zT O (qB O O)<|zH O zIp<|zM zId (zD 1 O) O<|G O<|zU O O (zGk (k:=S.length) 3 O zBz O O O (by simp) (by simp)) ?_
     rintro _ _ ⟨sv7,rfl,rfl⟩
     refine zT O (qB O O)<|zH O zIp<|rStR 1 sz123 O<|R<|zX _ (Weak.vecEq 3 O (rows':=S.map fun s=>[cS s]) (by first|rfl|simp|rw [List.take_of_length_le (by simp)]))<|kN 12 0 [⟨0,.q []⟩,⟨1,.q []⟩,⟨2,.q []⟩,⟨3,.q []⟩,⟨4,.q [1]⟩,⟨5,.q []⟩,⟨6,.q []⟩,⟨7,.q []⟩,⟨8,.q [1]⟩,⟨9,.q [4]⟩,⟨10,.q []⟩,⟨11,.e 4 []⟩] mixed (by kernel_rfl) (by kernel_rfl) O O O<|zW O<|zW O<|zW O<|zW O<|zW O<|zW O<|zW O<|zW O<|zW O<|zW O<|zW O<|zW O<|zCc<|qF O (by decide) O O (zP O O)<|qF O (by decide) O O (zP O O)<|qF O (by decide) O O (qB O O)<|qF O (by decide) O O (zE O zGv O)<|qF O (by decide) O O (zJ O zEh O (zD 0 O) O)<|qF O (by decide) O O (zP O O)<|qF O (by decide) O O (qB O O)<|qF O (by decide) O O (zE O zGv O)<|qF O (by decide) O O (zJ O zEh O (zD 0 O) O)<|qF O (by decide) O O (yQ 0 O el55 O O)<|qF O (by decide) O O (yD O O O (by simp only [List.length_map,List.length_append,List.length_cons,List.length_nil];exact ⟨by omega,by omega⟩))<|zJw O O (by decide) O O (zGk (k:=W.length) 0 O el55 O O O (by simp only [List.length_map,List.length_append,List.length_cons,List.length_nil];omega) (by simp)) ?_
     rintro _ _ ⟨sv8,rfl,rfl⟩
     refine ⟨_,O,?_⟩
     refine zCb O<|zT O (qB O O)<|zH O zGv<|rStR 1 sz55 O<|R<|zX _ (Weak.vecEq 4 O (rows':=W.map fun i=>[cI i]) (by first|rfl|simp|rw [List.take_of_length_le (by simp)]))<|zN O<|qI O ⟨by omega,by omega⟩<|G O<|R ?_
     refine ⟨⟨k+1,_,_,_,(chkS n.Bufs u S (W++[(k:Int)]) s).U⟩,⟨by omega,by omega,zMr hs hp c4⟩,(by show l.length-(k+1)<l.length-k;omega),Weak.mk [false,true,true,true,true] ⟨Y,Y,Y,Y,T⟩ O⟩
 ·try simp only [sx] at c1
  refine qP<|A O<|G O<|R<|zF<|zQ O ?_
  refine ⟨_,_,_,_,_,_,?_,fun _=>⟨?_,O,O⟩,fun h0=>?_,O⟩
  · rw [zPw hp (by omega)]
  · rw [zPw hp (by omega)]
  · rw [zPw hp (by omega)] at h0;exact absurd rfl h0
theorem zMq (b:Nat) (n:Ns) (hn:n.Ok) (s:St) (hl:stsWt s.Body<=536870912):∀(svL svS svP:Value) (U S:List ByteArray) (W:List Int),U.length+stsN s.Body<=1000000->S.length+stsN s.Body<=1000000->W.length+stsN s.Body<=1000000->Con cfg 85 [vP b,vSts s.Body] (ckN b svL svS svP n U S W) fun r μ'=>∃svL' svS' svP' U' S' W',r=vI (chkL n.Bufs U S W 0 s.Body).E/\((chkL n.Bufs U S W 0 s.Body).E=0->U'=(chkL n.Bufs U S W 0 s.Body).U/\S'=S/\W'=W)/\(¬(chkL n.Bufs U S W 0 s.Body).E=0->W'=(chkL n.Bufs U S W 0 s.Body).W)/\μ'=ckN b svL' svS' svP' n U' S' W':=by
  induction s using St.ind with
  |_ s ih=>
    intro svL svS svP U S W hU hS hW
    refine zFj b svL svS svP n U S W s.Body hn hU hS hW hl fun a ha=>ih a ha ?_
    have:=kK ha;have:=St.body_wt a;omega
theorem ck_statements (b:Nat) (svL svS svP:Value) (n:Ns) (U S:List ByteArray) (W:List Int) (l:List St) (hn:n.Ok) (hU:U.length+stsN l<=1000000) (hS:S.length+stsN l<=1000000) (hW:W.length+stsN l<=1000000) (hl:stsWt l<=536870912):Con cfg 85 [vP b,vSts l] (ckN b svL svS svP n U S W) fun r μ'=>∃svL' svS' svP' U' S' W',r=vI (chkL n.Bufs U S W 0 l).E/\((chkL n.Bufs U S W 0 l).E=0->U'=(chkL n.Bufs U S W 0 l).U/\S'=S/\W'=W)/\(¬(chkL n.Bufs U S W 0 l).E=0->W'=(chkL n.Bufs U S W 0 l).W)/\μ'=ckN b svL' svS' svP' n U' S' W':=
  zFj b svL svS svP n U S W l hn hU hS hW hl fun s hs=>zMq b n hn s (by have:=kK hs;have:=St.body_wt s;omega)
theorem zDk (n:Ns) (hn:n.Ok):
    Pur cfg 40 [vNs n] (.tup [vIs (validN n).1,vI (validN n).2]):=by
 refine zS Tryz.func40 O Tryz.ntmps40 Tryz.results40 O ?_
 intro z hz
 have hnb:=hn.body
 refine A O<|zU O O (qN O O) ?_
 rintro _ _ ⟨b1,rfl,rfl⟩
 refine zT O (kE 1 O O)<|G O<|R<|zK<|A O<|zH O zFf<|zM zCg (zD 0 O) O<|qK O ok82 (zSg 40 n.Body 40 (by omega) (by omega) O) ⟨Y,O,Y,O,T⟩<|wA O<|R<|zC O (fun c1=>?_) (fun c1=>?_)
 ·try simp only [sx] at c1
  refine A O<|zT O (kE 1 O O)<|G O<|R<|zF<|D (B O) (B O) ?_
  rw [zQn c1];rfl
 ·try simp only [sx] at c1
  refine zI<|zK<|A O<|zH O zFf<|zM zCg (zD 0 O) O<|qK O ok83 (zLu n.Body 2000 2000 (by omega) (by omega) O) ⟨Y,O,Y,O,T⟩<|zT O (yA O O O)<|G O<|rL0 O (fun g3_4=>zE O zAt O) O<|rL1 16 O (fun g3_4=>zJ O zDv O (zD 0 O) O) O<|rL1 17 O (fun g3_4=>yG O el50 O) O<|rL1 18 O (fun g3_4=>yA O O O) O<|r_or O (fun h=>(lzf h))<|R<|zC O (fun c2=>?_) (fun c2=>?_)
  ·try simp only [sx] at c2
   refine A O<|zT O (kE 1 O O)<|G O<|R<|zF<|D (B O) (B O) ?_
   rw [validN_2 c1 (by omega)];rfl
  ·try simp only [sx] at c2
   have hnum:=numB_ok (l:=n.Body) (m:=2000) (by omega)
   refine zI<|zK<|A O<|zH O zAt<|zM zDv (zD 0 O) O<|qK O ok84 (zIk n.Bufs hn.bufs hn.dims) ⟨Y,O,T⟩<|G O<|R<|A O<|G O<|kP O<|R<|zC O (fun c3=>?_) (fun c3=>?_)
   ·try simp only [sx] at c3
    refine A O<|G O<|zT O (kE 1 O O)<|G O<|R<|zF<|D (B O) (B O) ?_
    rw [validN_b c1 (by omega) c3];rfl
   ·try simp only [sx] at c3
    refine zI<|A O<|zO zBb (zD 0 O) O<|yU O zr167 pl167<|zU O O (qN O O) ?_
    rintro _ _ ⟨b2,rfl,rfl⟩
    refine yX _ (wI 9 1)<|yX _ (wI 9 1)<|yX _ (wI 3 1)<|G O<|R<|zK<|A O<|G O<|zH O zFf<|zM zCg (zD 4 O) O<|zU O O (qH [3,2,1,0] O ok85 (ck_statements b2 _ _ _ n [] [] [] n.Body hn (by simp;omega) (by simp;omega) (by simp;omega) hnb) ⟨Y,O,Y,O,T⟩ O) ?_
    rintro _ _ ⟨_,⟨svL1,svS1,svP1,U1,S1,W1,rfl,hok,hno,rfl⟩,rfl⟩
    refine G O<|R<|A O<|G O<|kP O<|R<|zC O (fun c4=>?_) (fun c4=>?_)
    ·try simp only [sx] at c4
     have hW1:=hno c4
     subst hW1
     refine zX _ (kQ 0 O (regs':=[]) (μ':=[_,_,_,_]) T ⟨EFle.refl _,EFle.refl _,EFle.row (ds:=[_,_,_,_,_]) ⟨.inl O,.inl O,.inl O,.inl O,.inr ⟨O,O⟩,T⟩,EFle.refl _,T⟩)<|A O<|G O<|zT O (qB O O)<|zH O zGv<|zM zEh (zD 2 O) O<|G O<|G O<|G O<|R<|zF<|D (B O) (B O) ?_
     rw [zPa c1 (by omega) c3]
    ·try simp only [sx] at c4
     refine zI<|A O<|zT O (kE 1 O O)<|G O<|R<|zF<|D (B O) (B O) ?_
     rw [zPa c1 (by omega) c3,chkL_ok c4,c4];rfl
end Go.W
