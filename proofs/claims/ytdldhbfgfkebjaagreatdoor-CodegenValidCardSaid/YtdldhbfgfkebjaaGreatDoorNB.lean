/-
  What functions compute.
  Conditions: none.
-/
import Derived.Test.YtdldhbfgfkebjaaGreatDoorNA
set_option linter.unusedSimpArgs false
set_option linter.unusedVariables false
set_option maxRecDepth 10000
namespace Go.W
open Go Go.Eng Go.Proofs Go.L41 Go.Br
attribute [local irreducible] AWP RWP TD fY
abbrev ckN (b:Nat) (svL svS svP:Value) (n:Ns) (U S:List ByteArray) (W:List Int):List E:=
  [.row b 159 [.sl 8 (n.Bufs.map Bf.cells),.sl 20 (n.Body.map St.cells),.lit svL,.lit svS,.lit svP],.vec svL 9 1 (U.map fun s=>[cS s]),.vec svS 9 1 (S.map fun s=>[cS s]),.vec svP 3 1 (W.map fun i=>[cI i])]
abbrev vP (b:Nat):V:=.c (.lit (.pointer (some ⟨b,0,none⟩)))
theorem zBi:lI Tryz.prog 25=some 2:=by kernel_rfl
theorem zFo:lI Tryz.prog 59=some 20:=by kernel_rfl
theorem el28:fA Tryz.prog 28=some (31,5,40):=by kernel_rfl
theorem zEn:bD Tryz.prog 25 1=some (1,23):=by kernel_rfl
theorem zBu:bD Tryz.prog 59 0=some (0,3):=by kernel_rfl
theorem zCp:bD Tryz.prog 59 1=some (1,9):=by kernel_rfl
theorem zMi:bD Tryz.prog 59 2=some (2,3):=by kernel_rfl
theorem zSv:bD Tryz.prog 59 3=some (3,3):=by kernel_rfl
theorem zSu:bD Tryz.prog 59 4=some (4,3):=by kernel_rfl
theorem zKa:bD Tryz.prog 59 5=some (5,51):=by kernel_rfl
theorem zDf:bD Tryz.prog 59 6=some (6,57):=by kernel_rfl
theorem zNw:bD Tryz.prog 159 0=some (0,25):=by kernel_rfl
theorem fd159_1:bD Tryz.prog 159 1=some (2,78):=by kernel_rfl
theorem zIr:bD Tryz.prog 159 2=some (3,78):=by kernel_rfl
theorem zGw:bD Tryz.prog 159 3=some (4,67):=by kernel_rfl
theorem ok100:bA Tryz.prog 100=true:=by kernel_rfl
theorem ok101:bA Tryz.prog 101=true:=by kernel_rfl
theorem ok108:bA Tryz.prog 108=true:=by kernel_rfl
theorem ok112:bA Tryz.prog 112=true:=by kernel_rfl
theorem ok143:bA Tryz.prog 143=true:=by kernel_rfl
theorem ok149:bA Tryz.prog 149=true:=by kernel_rfl
theorem ok151:bA Tryz.prog 151=true:=by kernel_rfl
theorem ok168:bA Tryz.prog 168=true:=by kernel_rfl
theorem ok169:bA Tryz.prog 169=true:=by kernel_rfl
theorem ok170:bA Tryz.prog 170=true:=by kernel_rfl
theorem ok172:bA Tryz.prog 172=true:=by kernel_rfl
theorem ok192:bA Tryz.prog 192=true:=by kernel_rfl
theorem ok193:bA Tryz.prog 193=true:=by kernel_rfl
theorem ok194:bA Tryz.prog 194=true:=by kernel_rfl
theorem ok195:bA Tryz.prog 195=true:=by kernel_rfl
theorem ok210:bA Tryz.prog 210=true:=by kernel_rfl
theorem ok214:bA Tryz.prog 214=true:=by kernel_rfl
theorem ok215:bA Tryz.prog 215=true:=by kernel_rfl
theorem ok248:bA Tryz.prog 248=true:=by kernel_rfl
theorem zOp:jQ Tryz.prog 157=true:=by kernel_rfl
theorem pl57:fL Tryz.prog 57=some [(0,1),(1,1),(2,2),(4,5),(9,2),(11,1),(12,1)]:=by kernel_rfl
theorem pl159:fL Tryz.prog 159=some [(0,2),(2,1),(3,1),(4,1)]:=by kernel_rfl
theorem sz31:(Tryz.prog.info? 31).map (·.size)=some 5:=by kernel_rfl
theorem sz59:(Tryz.prog.info? 59).map (·.size)=some 20:=by kernel_rfl
theorem zr59:dS Tryz.prog 59=some [(Value.int IntKind.i64 0),(Value.string (ByteArray.mk #[])),(Value.int IntKind.i64 0),(Value.int IntKind.i64 0),(Value.int IntKind.i64 0),(Value.slice none 0 0),(Value.int IntKind.i64 0),(Value.string (ByteArray.mk #[])),(Value.int IntKind.i64 0),(Value.int IntKind.i64 0),(Value.int IntKind.i64 0),(Value.int IntKind.i64 0),(Value.int IntKind.i64 0),(Value.int IntKind.i64 0),(Value.int IntKind.i64 0),(Value.int IntKind.i64 0),(Value.slice none 0 0),(Value.slice none 0 0),(Value.slice none 0 0),(Value.slice none 0 0)]:=by kernel_rfl
theorem zr159:dS Tryz.prog 159=some [(Value.slice none 0 0),(Value.slice none 0 0),(Value.slice none 0 0),(Value.slice none 0 0),(Value.slice none 0 0)]:=by kernel_rfl
theorem zHl (l:List Mono) (c:C) (p:Mono->Bool) (μ:List E) (hl:l.length<=4294967296) (hc:∀x,x∈l->FnCon cfg c [nM x] μ fun r μ'=>r=vB (p x)/\μ'=μ):
    Con cfg 180 [sK l,.c c] μ fun r μ'=>r=vI (fX p l)/\μ'=μ:=by
 refine zU Tryz.func180 O Tryz.ntmps180 Tryz.results180 O ?_
 intro z hz
 refine R O<|G O<|zA<|zI<|R O<|G O<|zZ O el52<|G O<|zA<|zP<|zT ⟨[(8,.c _),(0,.c _),(1,.c _),(7,.c _)],_⟩ (Weak.regs ⟨zB,zB,zB,zB,T⟩)<|zBe 1 O (Nat) (fun k=>[(8,vI k)]) (fun k=>μ) (fun k=>k<=l.length/\((l.take k).any p=false)) (fun k=>l.length-k) ⟨0,⟨by omega,O⟩,Weak.regs ⟨zB,zB,zB,zB,T⟩⟩ ?_
 rintro k ⟨hk,hp⟩
 refine R O<|yB O<|zA<|zI<|zC O (fun c1=>?_) (fun c1=>?_)
 ·try simp only [sx] at c1
  obtain ⟨x,hx⟩:=qU l k (by omega)
  refine zJ<|zI<|zP<|R O<|G O<|G O<|zA<|R O<|G O<|G O<|G O<|qD O el52 (by omega) (B (by assumption))<|zO zKf zQ O<|zV O O (wR O O (hc _ (qA hx)) ⟨zB,O,T⟩) ?_
  exact j9
 ·try simp only [sx] at c1
  refine qH<|R O<|G O<|zA<|zK<|zR O ?_
  exact ⟨by rw [zBb (by rw [yA (by omega)] at hp;exact hp)],O⟩
theorem zFi (l:List Mono) (c:C) (p:Mono->Bool) (μ:List E) (hl:l.length<=4294967296) (hc:∀x,x∈l->FnCon cfg c [nM x] μ fun r μ'=>r=vB (p x)/\μ'=μ):
    Con cfg 149 [sK l,.c c] μ fun r μ'=>r=vB (l.any p)/\μ'=μ:=by
 refine zU Tryz.func149 O Tryz.ntmps149 Tryz.results149 O ?_
 intro z hz
 refine R O<|G O<|zA<|R O<|G O<|G O<|zV O O (qQ O ok180 (zHl l c p μ hl hc) ⟨zB,O,zB,O,T⟩) ?_
 rintro _ _ ⟨rfl,rfl⟩
 refine zW O (kN O O O)<|G O<|zA<|zK<|zR O ?_
 exact ⟨by rw [zCb],O⟩
theorem zJq (l:List Lf) (c:C) (p:Lf->Bool) (μ:List E) (hl:l.length<=4294967296) (hc:∀x,x∈l->FnCon cfg c [mD x] μ fun r μ'=>r=vB (p x)/\μ'=μ):
    Con cfg 151 [pB l,.c c] μ fun r μ'=>r=vI (fX p l)/\μ'=μ:=by
 refine zU Tryz.func151 O Tryz.ntmps151 Tryz.results151 O ?_
 intro z hz
 refine R O<|G O<|zA<|zI<|R O<|G O<|zZ O zAv<|G O<|zA<|zP<|zT ⟨[(8,.c _),(0,.c _),(1,.c _),(7,.c _)],_⟩ (Weak.regs ⟨zB,zB,zB,zB,T⟩)<|zBe 1 O (Nat) (fun k=>[(8,vI k)]) (fun k=>μ) (fun k=>k<=l.length/\((l.take k).any p=false)) (fun k=>l.length-k) ⟨0,⟨by omega,O⟩,Weak.regs ⟨zB,zB,zB,zB,T⟩⟩ ?_
 rintro k ⟨hk,hp⟩
 refine R O<|yB O<|zA<|zI<|zC O (fun c1=>?_) (fun c1=>?_)
 ·try simp only [sx] at c1
  obtain ⟨x,hx⟩:=qU l k (by omega)
  refine zJ<|zI<|zP<|R O<|G O<|G O<|zA<|R O<|G O<|G O<|G O<|qD O zAv (by omega) (B (by assumption))<|zO zBa zQ O<|zV O O (wR O O (hc _ (qA hx)) ⟨zB,O,T⟩) ?_
  exact j9
 ·try simp only [sx] at c1
  refine qH<|R O<|G O<|zA<|zK<|zR O ?_
  exact ⟨by rw [zBb (by rw [yA (by omega)] at hp;exact hp)],O⟩
theorem zGl (l:List Lf) (c:C) (p:Lf->Bool) (μ:List E) (hl:l.length<=4294967296) (hc:∀x,x∈l->FnCon cfg c [mD x] μ fun r μ'=>r=vB (p x)/\μ'=μ):
    Con cfg 108 [pB l,.c c] μ fun r μ'=>r=vB (l.any p)/\μ'=μ:=by
 refine zU Tryz.func108 O Tryz.ntmps108 Tryz.results108 O ?_
 intro z hz
 refine R O<|G O<|zA<|R O<|G O<|G O<|zV O O (qQ O ok151 (zJq l c p μ hl hc) ⟨zB,O,zB,O,T⟩) ?_
 rintro _ _ ⟨rfl,rfl⟩
 refine zW O (kN O O O)<|G O<|zA<|zK<|zR O ?_
 exact ⟨by rw [zCb],O⟩
theorem inScope_1 (b:Nat) (svL svS svP:Value) (n:Ns) (U S:List ByteArray) (W:List Int) (m:Mono) (hS:S.length<=1000000):
    Con cfg 248 [nM m,.c (.iptr [.lit (.pointer (some ⟨b,0,none⟩))])] (ckN b svL svS svP n U S W) fun r μ'=>r=vB (!bS S m.Name)/\μ'=ckN b svL svS svP n U S W:=by
 refine zU Tryz.func248 O Tryz.ntmps248 Tryz.results248 O ?_
 intro z hz
 refine R O<|zV O O (qO O O) ?_
 rintro _ _ ⟨b1,rfl,rfl⟩
 refine G O<|zA<|zI<|qW 6 mixed (by kernel_rfl) O O<|zL O O (zF O zOp O zQ O)<|zL O O (qI O O)<|zL O O (zD O zIr O)<|zL O O (zF O zIh O (Y 1 O) O)<|zL O O (zD O zDl O)<|zL O O (zF O one9 O (Y 0 O) O)<|yJ<|zW O (zDb 3 O ok165 O (zCj S m.Name (by omega)) O ⟨.inl ⟨O,O⟩,.inr ⟨zB,O⟩,T⟩)<|kP O<|G O<|zA<|zT _ (Weak.mem [false,true,true,true,true] O)<|zK<|zR O ?_
 exact ⟨O,O⟩
theorem zOe (b:Nat) (svL svS svP:Value) (n:Ns) (U S:List ByteArray) (W:List Int) (l:Lf) (hS:S.length<=1000000) (hl:l.L.length<=4294967296):
    Con cfg 214 [vP b,mD l] (ckN b svL svS svP n U S W) fun r μ'=>r=vB (jS S l)/\μ'=ckN b svL svS svP n U S W:=by
 refine zU Tryz.func214 O Tryz.ntmps214 Tryz.results214 O ?_
 intro z hz
 refine R O<|zV O O (qO O O) ?_
 rintro _ _ ⟨b1,rfl,rfl⟩
 refine qX _ (qK 0 O 2 _ PLe.ptr)<|zV O O (qO O O) ?_
 rintro _ _ ⟨b2,rfl,rfl⟩
 refine G O<|zA<|R O<|zG O zAy<|zH zDz (Y 0 O) O<|zW O (zFe O O O O O)<|zW O (yI [1,1,1,1] O ok149 (zFi l.L _ (fun m=> !bS S m.Name) (ckN b svL svS svP n U S W) hl (fun m _=>FnCon.of_con (first:=[]) (cap:=[.iptr [.lit (.pointer (some ⟨b,0,none⟩))]]) ok248 (inScope_1 b svL svS svP n U S W m hS))) ⟨zB,O,zB,O,T⟩ O)<|kP O<|G O<|zA<|zT _ (Weak.mem [false,true,true,true,true] O)<|zK<|zR O ?_
 exact ⟨by rw [zBz];rfl,O⟩
theorem node_1 (b:Nat) (svL svS svP:Value) (n:Ns) (U S:List ByteArray) (W:List Int) (l:Lf) (hS:S.length<=1000000) (hl:l.L.length<=4294967296):
    Con cfg 215 [mD l,.c (.iptr [.lit (.pointer (some ⟨b,0,none⟩))])] (ckN b svL svS svP n U S W) fun r μ'=>r=vB (!jS S l)/\μ'=ckN b svL svS svP n U S W:=by
 refine zU Tryz.func215 O Tryz.ntmps215 Tryz.results215 O ?_
 intro z hz
 refine R O<|zV O O (qO O O) ?_
 rintro _ _ ⟨b1,rfl,rfl⟩
 refine G O<|zA<|R O<|zH zOp zQ O<|zO zBa (Y 0 O) O<|zW O (yI [1,1,1,1] O ok214 (zOe b svL svS svP n U S W l hS hl) ⟨zB,O,zB,O,T⟩ O)<|kP O<|G O<|zA<|zT _ (Weak.mem [false,true,true,true,true] O)<|zK<|zR O ?_
 exact ⟨O,O⟩
theorem ck_node (b:Nat) (svL svS svP:Value) (n:Ns) (U S:List ByteArray) (W:List Int) (e:Ex) (hn:n.Ok) (hS:S.length<=1000000) (he:e.wt<=1073741824):
    Con cfg 194 [vP b,vE e] (ckN b svL svS svP n U S W) fun r μ'=>r=vI (gL n.Bufs S e)/\μ'=ckN b svL svS svP n U S W:=by
 refine zU Tryz.func194 O Tryz.ntmps194 Tryz.results194 O ?_
 intro z hz
 obtain ⟨hL,hI,hA⟩:=e.parts he
 have hwt:=Ex.wt_eq e
 refine R O<|zV O O (qO O O) ?_
 rintro _ _ ⟨b1,rfl,rfl⟩
 refine qX _ (qK 0 O 2 _ PLe.ptr)<|zV O O (qO O O) ?_
 rintro _ _ ⟨b2,rfl,rfl⟩
 refine G O<|zA<|R O<|zH zOp zQ O<|zG O zFc<|zO zBa (Y 0 O) O<|zW O (yI [1,1,1,1] O ok214 (zOe b svL svS svP n U S W e.Lin hS (by omega)) ⟨zB,O,zB,O,T⟩ O)<|G O<|zA<|zI<|R O<|zG O kR<|zH wJ (Y 0 O) O<|zZ O el51<|G O<|zA<|zP<|zT ⟨[(20,.c _),(5,.c _),(2,.c _),(3,.c _),(18,.c _),(19,.c _)],[_,_,_,_,_]⟩ (Weak.mk [true,true,true,true,true] ⟨zB,zB,zB,zB,zB,zB,T⟩ O) ?_
 refine qG 2 0 O O (Nat) (fun k=>[(20,vI k),(5,vB (jS S e.Lin&&(e.Idx.take k).all (vO S)))]) (fun k=>[]) (fun k=>k<=e.Idx.length) (fun k=>e.Idx.length-k) ⟨0,(by omega),Weak.mk [true,true,true,true,true] ⟨zB,VLe.of_eq (congrArg vB (by simp)),zB,zB,zB,zB,T⟩ O⟩ ?_
 rintro k hk
 refine R O<|yB O<|zA<|zI<|zC O (fun c1=>?_) (fun c1=>?_)
 ·try simp only [sx] at c1
  obtain ⟨x,hx⟩:=qU e.Idx k (by omega)
  refine zJ<|zI<|zP<|R O<|qD O el51 (by omega) (B (by assumption))<|zO zDc zQ O<|zV O O (qR [none,some 2,none,some 2] O zPb O) ?_
  rintro _ _ ⟨b3,rfl,rfl⟩
  refine D 0 zPc O<|zA<|zM O<|G O<|G O<|rL0 O (fun g5_1=>zF O zOp O zQ O) O<|rL0 O (fun g5_1=>zD O zCy O) O<|A 27 O (fun g5_1=>qC O zBa O (Y 0 O) O) O<|rLz [(26,_),(28,_)] O J ⟨O,O,O,O,T⟩ (fun g5_1=>yI [2,2,2,2] O ok214 (zOe b svL svS svP n U S W x.Lin hS (by have:=Ex.idx_wt (qA hx);omega)) ⟨zB,O,zB,O,T⟩ O) O<|yK O (fun h=>h)<|G O<|rL0 O (fun g5_7=>zD O zAr O) O<|A 32 O (fun g5_7=>zF O zCl O (Y 0 O) O) O<|rL0 O (fun g5_7=>zFe O O O O O) O<|rLz [(33,_),(34,_)] O J ⟨O,O,O,O,T⟩ (fun g5_7=>yI [2,2,2,2] O ok108 (zGl x.At _ (fun l=> !jS S l) (ckN b svL svS svP n U S W) (by have:=Ex.idx_wt (qA hx);omega) (fun l hl=>FnCon.of_con (first:=[]) (cap:=[.iptr [.lit (.pointer (some ⟨b,0,none⟩))]]) ok215 (node_1 b svL svS svP n U S W l hS (by have:=Ex.idx_wt (qA hx);have:=zCn hl;omega)))) ⟨zB,O,zB,O,T⟩ O) O<|A 35 O (fun g5_7=>wA O O) O<|yK O (fun h=>h)<|G O<|zA<|zM O<|qB O ⟨by omega,by omega⟩<|G O<|zA ?_
  refine ⟨k+1,(by omega),(by omega),Weak.mk [false,true,true,true,true,true] ⟨zB,VLe.of_eq (congrArg vB (by rw [zBz];exact scAll_next hx)),zB,zB,zB,zB,T⟩ O⟩
 ·try simp only [sx] at c1
  rw [yA (l:=e.Idx) (k:=k) (by omega)]
  refine qH<|zI<|R O<|G O<|kP O<|zA<|zC O (fun c2=>?_) (fun c2=>?_)
  ·have h9:gP S e=false:=(Bool.not_eq_true' _).mp c2
   refine R O<|G O<|zA<|zT _ (Weak.mem [false,true,true,true,true] O)<|zK<|zR O ?_
   exact ⟨by rw [nodeN_9 h9],O⟩
  ·have h9:gP S e=true:=(Bool.not_eq_false' _).mp c2
   refine zJ<|zI<|R O<|zG O kS<|zH one3 (Y 0 O) O<|kU O<|zA<|zC O (fun c3=>?_) (fun c3=>?_)
   ·try simp only [sx] at c3
    refine R O<|G O<|zA<|zT _ (Weak.mem [false,true,true,true,true] O)<|zK<|zR O ?_
    exact ⟨by rw [nodeN_o h9 c3],O⟩
   ·try simp only [sx] at c3
    refine zJ<|zI<|yS 12 1 [⟨0,.q []⟩,⟨1,.q []⟩,⟨2,.q []⟩,⟨3,.q [2]⟩,⟨4,.q []⟩,⟨5,.q [1]⟩,⟨6,.q []⟩,⟨7,.q []⟩,⟨8,.q []⟩,⟨9,.q []⟩,⟨10,.e 0 []⟩,⟨11,.e 0 []⟩] mixed (by kernel_rfl) (by kernel_rfl) O O O<|v O<|v O<|v O<|v O<|v O<|v O<|v O<|v O<|v O<|v O<|v O<|v O<|zAg<|zY O (by decide) O O (zF O zOp O zQ O)<|zY O (by decide) O O (qI O O)<|zY O (by decide) O O (zD O zNw O)<|zY O (by decide) O O (qC O zBi O (Y 0 O) O)<|zY O (by decide) O O (zD O zDg O)<|zY O (by decide) O O (zF O one9 O (Y 0 O) O)<|zY O (by decide) O O (qS O ok112 (wS n e.Name hn) ⟨zB,O,zB,O,T⟩)<|zY O (by decide) O O (yD O O)<|zY O (by decide) O O (kD O O O)<|zY O (by decide) O O (yR O O O)<|zHk O O (by decide) O O (qR [none,none,none,none,none,none,some 1,none] O zr69 O) ?_
    rintro _ _ ⟨b4,rfl,rfl⟩
    refine ⟨_,O,?_⟩
    refine zEs O O (by decide) O O (kX O sz69 O O O (zHt 0 O O)) ?_
    rintro _ _ ⟨rfl,rfl⟩
    refine ⟨_,O,?_⟩
    refine zAe O<|G O<|zA<|zI<|R O<|G O<|kP O<|zA<|zC O (fun c4=>?_) (fun c4=>?_)
    ·try simp only [sx] at c4
     refine R O<|G O<|zA<|zT _ (Weak.mem [false,false,true,true,true,true] O)<|zK<|zR O ?_
     exact ⟨by rw [nodeN_n h9 (by omega) c4],O⟩
    ·try simp only [sx] at c4
     refine zJ<|zI<|R O<|zG O zDe<|zH zCt (Y 0 O) O<|zZ O el67<|zG O kR<|zH wJ (Y 1 O) O<|zZ O el51<|kU O<|zA<|zC O (fun c5=>?_) (fun c5=>?_)
     ·try simp only [sx] at c5
      refine R O<|G O<|zA<|zT _ (Weak.mem [false,false,true,true,true,true] O)<|zK<|zR O ?_
      exact ⟨by rw [nodeN_r h9 (by omega) c4 (by omega)],O⟩
     ·try simp only [sx] at c5
      refine zJ<|zI<|R O<|zG O kR<|zH wJ (Y 1 O) O<|zZ O el51<|G O<|zA<|zP<|zT ⟨[(66,.c _),(2,.c _),(64,.c _),(65,.c _)],[_,_,_,_]⟩ (Weak.mk [false,false,true,true,true,true] ⟨zB,zB,zB,zB,T⟩ O)<|qG 1 0 O O (Nat) (fun j=>[(66,vI j)]) (fun j=>[]) (fun j=>j<=e.Idx.length/\(mB n.Bufs e.Idx=mB n.Bufs (e.Idx.drop j))) (fun j=>e.Idx.length-j) ⟨0,⟨by omega,O⟩,Weak.mk [true,true,true,true] ⟨zB,zB,zB,zB,T⟩ O⟩ ?_
      rintro j ⟨hk,hq⟩
      refine R O<|yB O<|zA<|zI<|zC O (fun c6=>?_) (fun c6=>?_)
      ·try simp only [sx] at c6
       obtain ⟨y,hy⟩:=qU e.Idx j (by omega)
       refine zJ<|zI<|zP<|R O<|qD O el51 (by omega) (B (by assumption))<|zO zDc zQ O<|zV O O (qR [none,some 2,none,some 2] O zPb O) ?_
       rintro _ _ ⟨b5,rfl,rfl⟩
       refine D 0 zPc O<|zA<|zI<|R O<|zG O wG<|zH one9 (Y 0 O) O<|zW O (kE O O O)<|zA<|zC O (fun c7=>?_) (fun c7=>?_)
       ·try simp only [sx] at c7
        refine qH<|zM O<|qB O ⟨by omega,by omega⟩<|G O<|zA ?_
        refine ⟨j+1,⟨by omega,hq.trans (zJh hy (by first|exact gathE_0 c7|exact zQd c7 c8 (by omega) (by omega)))⟩,(by omega),Weak.mk [false,true,true,true,true] ⟨zB,zB,zB,zB,T⟩ O⟩
       ·try simp only [sx] at c7
        refine zJ<|zI<|yS 12 1 [⟨0,.q []⟩,⟨1,.q []⟩,⟨2,.q []⟩,⟨3,.q [2]⟩,⟨4,.q []⟩,⟨5,.q [1]⟩,⟨6,.q []⟩,⟨7,.q []⟩,⟨8,.q []⟩,⟨9,.q []⟩,⟨10,.e 0 []⟩,⟨11,.e 0 []⟩] mixed (by kernel_rfl) (by kernel_rfl) O O O<|v O<|v O<|v O<|v O<|v O<|v O<|v O<|v O<|v O<|v O<|v O<|v O<|zAg<|zY O (by decide) O O (zF O zOp O zQ O)<|zY O (by decide) O O (qI O O)<|zY O (by decide) O O (zD O zNw O)<|zY O (by decide) O O (qC O zBi O (Y 0 O) O)<|zY O (by decide) O O (zD O wG O)<|zY O (by decide) O O (zF O one9 O (Y 0 O) O)<|zY O (by decide) O O (qS O ok112 (wS n y.From hn) ⟨zB,O,zB,O,T⟩)<|zY O (by decide) O O (yD O O)<|zY O (by decide) O O (kD O O O)<|zY O (by decide) O O (yR O O O)<|zHk O O (by decide) O O (qR [none,none,none,none,none,none,some 1,none] O zr69 O) ?_
        rintro _ _ ⟨b6,rfl,rfl⟩
        refine ⟨_,O,?_⟩
        refine zEs O O (by decide) O O (kX O sz69 O O O (zHt 0 O O)) ?_
        rintro _ _ ⟨rfl,rfl⟩
        refine ⟨_,O,?_⟩
        refine zAe O<|G O<|zA<|zP<|R O<|G O<|kP O<|G O<|zA<|zC O (fun c8=>?_) (fun c8=>?_)
        ·try simp only [sx] at c8
         refine R O<|G O<|zA<|zT _ (Weak.mem [false,false,true,true,true,true] O)<|zK<|zR O ?_
         exact ⟨by rw [zGq h9 (by omega) c4 (by omega),hq,zJg hy (by rw [zSp c7 c8];decide),zSp c7 c8],O⟩
        ·try simp only [sx] at c8
         refine R O<|zG O zHg<|zG O zGa<|zH one3 (Y 0 O) O<|kU O<|G O<|zA<|zC O (fun c9=>?_) (fun c9=>?_)
         ·try simp only [sx] at c9
          refine R O<|G O<|zA<|zT _ (Weak.mem [false,false,true,true,true,true] O)<|zK<|zR O ?_
          exact ⟨by rw [zGq h9 (by omega) c4 (by omega),hq,zJg hy (by rw [zMh c7 c8 c9];decide),zMh c7 c8 c9],O⟩
         ·try simp only [sx] at c9
          refine R O<|zG O zDe<|zH zCt (Y 0 O) O<|zZ O el67<|zG O zAr<|zH zCl (Y 1 O) O<|zZ O zAv<|kU O<|G O<|zA<|zC O (fun c10=>?_) (fun c10=>?_)
          ·try simp only [sx] at c10
           refine R O<|G O<|zA<|zT _ (Weak.mem [false,false,true,true,true,true] O)<|zK<|zR O ?_
           exact ⟨by rw [zGq h9 (by omega) c4 (by omega),hq,zJg hy (by rw [zMg c7 c8 c9 (by omega)];decide),zMg c7 c8 c9 (by omega)],O⟩
          ·try simp only [sx] at c10
           refine zJ<|zM O<|qB O ⟨by omega,by omega⟩<|G O<|zA ?_
           refine ⟨j+1,⟨by omega,hq.trans (zJh hy (by first|exact gathE_0 c7|exact zQd c7 c8 (by omega) (by omega)))⟩,(by omega),Weak.mk [false,false,true,true,true,true] ⟨zB,zB,zB,zB,T⟩ O⟩
      ·try simp only [sx] at c6
       refine qH<|R O<|G O<|zA<|zK<|zR O ?_
       exact ⟨by rw [zGq h9 (by omega) c4 (by omega),hq,kV (by omega)];rfl,O⟩
theorem ck_typeOf_step (b:Nat) (svL svS svP:Value) (n:Ns) (U S:List ByteArray) (W:List Int) (hn:n.Ok) (e:Ex) (ih:∀a,a∈e.Args->fN a=0->a.wt<=1073741824->Con cfg 195 [vP b,vE a] (ckN b svL svS svP n U S W) fun r μ'=>r=.tup [vTy (dP (tyF n.Bufs) a).1,vI (dP (tyF n.Bufs) a).2]/\μ'=ckN b svL svS svP n U S W) (hpart:fN e=0) (he:e.wt<=1073741824):
    Con cfg 195 [vP b,vE e] (ckN b svL svS svP n U S W) fun r μ'=>r=.tup [vTy (dP (tyF n.Bufs) e).1,vI (dP (tyF n.Bufs) e).2]/\μ'=ckN b svL svS svP n U S W:=by
 refine Con.drop<|zU Tryz.func195 O Tryz.ntmps195 Tryz.results195 O ?_
 intro z hz
 obtain ⟨hLl,hIl,hAl⟩:=e.parts he
 have hwt:=Ex.wt_eq e
 refine R O<|zV O O (qO O O) ?_
 rintro _ _ ⟨b1,rfl,rfl⟩
 refine zV O O (yN O zr31) ?_
 rintro _ _ ⟨b2,rfl,rfl⟩
 refine G O<|zA<|R O<|G O<|qX _ (wV 31 5)<|zA<|zI<|R O<|zG O kO<|zH wZ (Y 2 O) O<|zZ O el55<|G O<|zA<|zP<|zT ⟨[(16,.c _),(6,.c _),(0,.c _),(3,.c _),(4,.c _),(14,.c _),(15,.c _)],[_,_,_,_,_,_,_]⟩ (Weak.mk [true,true,true,true,true,true,true] ⟨zB,zB,zB,zB,zB,zB,zB,T⟩ O)<|qG 2 1 O O (Nat×Value) (fun ⟨k,sv⟩=>[(16,vI k),(6,.c (.lit sv))]) (fun ⟨k,sv⟩=>[E.vec sv 31 5 ((bM (tyF n.Bufs) (e.Args.take k)).1.map tyC)]) (fun ⟨k,sv⟩=>k<=e.Args.length/\((bM (tyF n.Bufs) (e.Args.take k)).2=0)) (fun ⟨k,sv⟩=>e.Args.length-k) ⟨⟨0,(.slice none 0 0)⟩,⟨by omega,O⟩,Weak.mk [true,true,true,true,true,true,true] ⟨zB,zB,zB,zB,zB,zB,zB,T⟩ O⟩ ?_
 rintro ⟨k,sv⟩ ⟨hk,hp⟩
 show AWP _ _ _ _ _ ⟨[(16,vI k),(6,.c (.lit sv))]++_,[E.vec sv 31 5 ((bM (tyF n.Bufs) (e.Args.take k)).1.map tyC)]++_⟩
 refine R O<|yB O<|zA<|zI<|zC O (fun c1=>?_) (fun c1=>?_)
 ·try simp only [sx] at c1
  obtain ⟨x,hx⟩:=qU e.Args k (by omega)
  have hll:=zFv _ _ hp
  refine zJ<|zI<|zP<|R O<|qD O el55 (by omega) (zAa (by assumption))<|zO yP zQ O<|zV O O (qR [none,none,none,none,none,none,none,none,none,none,some 2,some 4,some 13] O zr57 O) ?_
  rintro _ _ ⟨b4,rfl,rfl⟩
  refine D 0 sz57 O<|zA<|R O<|G O<|zO yP (Y 0 O) O<|zW O (yI [4,4,4,4] O ok195 (ih x (qA hx) (zLs hpart (qA hx)) (by have:=Ex.arg_wt (qA hx);omega)) ⟨zB,O,zB,O,T⟩ O)<|zW O (yD O O)<|zW O (kD O O O)<|zW O (yR O O O)<|zV O O (yN O zr31) ?_
  rintro _ _ ⟨b5,rfl,rfl⟩
  refine D 0 sz31 O<|G O<|zA<|zI<|R O<|G O<|kU O<|zA<|zC O (fun c2=>?_) (fun c2=>?_)
  ·try simp only [sx] at c2
   refine R O<|zO yH (Y 0 O) O<|G O<|D 3 sz31 O<|G O<|zA<|zT _ (Weak.mem [false,false,false,true,false,true,true,true,true] O)<|zK<|fin2 (qM yH O (Y 0 O) O) (L O) ?_
   exact ⟨by rw [nodeT_no hx hp c2,nodeT_zero c2];rfl,[_],O⟩
  ·try simp only [sx] at c2
   refine zJ<|zM O<|G O<|zO yH (Y 0 O) O<|zW O (yM O el28 zr31 O O O O)<|zV O O (yQ 2 O el28 O O O (by simp only [List.length_map,List.length_cons,List.length_nil,hll,List.length_take];omega) (by simp only [List.length_map,List.length_cons,List.length_nil,hll,List.length_take];omega)) ?_
   rintro _ _ ⟨sv6,rfl,rfl⟩
   refine G O<|zA<|zM O<|qB O ⟨by omega,by omega⟩<|G O<|zA ?_
   refine ⟨⟨k+1,sv6⟩,⟨by omega,by rw [zEe hx hp c2]⟩,(by show e.Args.length-(k+1)<e.Args.length-k;omega),Weak.mk [false,false,true,true,true,true,true,true,true] ⟨zB,zB,zB,zB,zB,zB,zB,T⟩ (by show _=[E.vec sv6 _ 5 ((bM (tyF n.Bufs) (e.Args.take (k+1))).1.map tyC)]++_;rw [zEe hx hp c2];simp only [List.map_append];rfl)⟩
 ·try simp only [sx] at c1
  have hll:=zFv _ _ hp
  have hta:e.Args.take k=e.Args:=yA (by omega)
  rw [hta] at hll
  have hg:∀i,i<e.Args.length->((bM (tyF n.Bufs) (e.Args.take k)).1.map tyC)[i]? =some (tyC (dH (bM (tyF n.Bufs) (e.Args.take k)).1 i)):=fun i hi=>zJb (by rw [hta];omega)
  have hgn:∀i:Nat,1<=i->i<=e.Args.length->∀j:Int,j=(((bM (tyF n.Bufs) (e.Args.take k)).1.length:Int)-i)->((bM (tyF n.Bufs) (e.Args.take k)).1.map tyC)[j.toNat]? =some (tyC (dH (bM (tyF n.Bufs) (e.Args.take k)).1 ((bM (tyF n.Bufs) (e.Args.take k)).1.length-i))):=fun i h1 h2 j hj=>by rw [hta] at *;rw [show j.toNat=(bM (tyF n.Bufs) e.Args).1.length-i by omega];exact zJb (by omega)
  have hT:dP (tyF n.Bufs) e=tyF n.Bufs e (bM (tyF n.Bufs) (e.Args.take k)).1:=nodeT_ok hta hp
  have hlk:(bM (tyF n.Bufs) (e.Args.take k)).1.length=e.Args.length:=by rw [hta];exact hll
  refine qH<|zI<|R O<|zG O kS<|zH one3 (Y 2 O) O<|zA<|zP<|zI<|R O<|qZ O<|G O<|zA<|zC O (fun c3=>?_) (fun c3=>?_)
  ·try simp only [sx] at c3
   refine zJ<|zC O (fun c4=>?_) (fun c4=>?_)
   ·exact v35
   ·try simp only [sx] at c4
    refine R O<|qZ O<|G O<|zA<|zC O (fun c5=>?_) (fun c5=>?_)
    ·try simp only [sx] at c5
     exact r7
    ·try simp only [sx] at c5
     refine R O<|qZ O<|G O<|zA<|zC O (fun c6=>?_) (fun c6=>?_)
     ·try simp only [sx] at c6
      refine zI<|yS 12 1 [⟨0,.q []⟩,⟨1,.q []⟩,⟨2,.q []⟩,⟨3,.q [4]⟩,⟨4,.q []⟩,⟨5,.q [3]⟩,⟨6,.q []⟩,⟨7,.q []⟩,⟨8,.q []⟩,⟨9,.q []⟩,⟨10,.e 0 []⟩,⟨11,.e 0 []⟩] mixed (by kernel_rfl) (by kernel_rfl) O O O<|v O<|v O<|v O<|v O<|v O<|v O<|v O<|v O<|v O<|v O<|v O<|v O<|zAg<|zY O (by decide) O O (zN O O)<|zY O (by decide) O O (qI O O)<|zY O (by decide) O O (zD O zNw O)<|zY O (by decide) O O (qC O zBi O (Y 0 O) O)<|zY O (by decide) O O (zD O zDg O)<|zY O (by decide) O O (zF O one9 O (Y 0 O) O)<|zY O (by decide) O O (qS O ok112 (wS n e.Name hn) ⟨zB,O,zB,O,T⟩)<|zY O (by decide) O O (yD O O)<|zY O (by decide) O O (kD O O O)<|zY O (by decide) O O (yR O O O)<|zHk O O (by decide) O O (qR [none,none,none,none,none,none,some 1,none] O zr69 O) ?_
      rintro _ _ ⟨b7,rfl,rfl⟩
      exact v12
     ·exact s5
  ·try simp only [sx] at c3
   refine zM O<|qZ O<|G O<|zA<|zC O (fun c4=>?_) (fun c4=>?_)
   ·exact v35
   ·try simp only [sx] at c4
    refine R O<|qZ O<|G O<|zA<|zC O (fun c5=>?_) (fun c5=>?_)
    ·try simp only [sx] at c5
     exact r7
    ·try simp only [sx] at c5
     refine R O<|qZ O<|G O<|zA<|zC O (fun c6=>?_) (fun c6=>?_)
     ·try simp only [sx] at c6
      refine zI<|yS 12 1 [⟨0,.q []⟩,⟨1,.q []⟩,⟨2,.q []⟩,⟨3,.q [4]⟩,⟨4,.q []⟩,⟨5,.q [3]⟩,⟨6,.q []⟩,⟨7,.q []⟩,⟨8,.q []⟩,⟨9,.q []⟩,⟨10,.e 0 []⟩,⟨11,.e 0 []⟩] mixed (by kernel_rfl) (by kernel_rfl) O O O<|v O<|v O<|v O<|v O<|v O<|v O<|v O<|v O<|v O<|v O<|v O<|v O<|zAg<|zY O (by decide) O O (zN O O)<|zY O (by decide) O O (qI O O)<|zY O (by decide) O O (zD O zNw O)<|zY O (by decide) O O (qC O zBi O (Y 0 O) O)<|zY O (by decide) O O (zD O zDg O)<|zY O (by decide) O O (zF O one9 O (Y 0 O) O)<|zY O (by decide) O O (qS O ok112 (wS n e.Name hn) ⟨zB,O,zB,O,T⟩)<|zY O (by decide) O O (yD O O)<|zY O (by decide) O O (kD O O O)<|zY O (by decide) O O (yR O O O)<|zHk O O (by decide) O O (qR [none,none,none,none,none,none,some 1,none] O zr69 O) ?_
      rintro _ _ ⟨b8,rfl,rfl⟩
      exact v12
     ·exact s5
theorem ck_typeOf (b:Nat) (svL svS svP:Value) (n:Ns) (U S:List ByteArray) (W:List Int)  (e:Ex) (hn:n.Ok) (hpart:fN e=0) (he:e.wt<=1073741824):Con cfg 195 [vP b,vE e] (ckN b svL svS svP n U S W) fun r μ'=>r=.tup [vTy (dP (tyF n.Bufs) e).1,vI (dP (tyF n.Bufs) e).2]/\μ'=ckN b svL svS svP n U S W:=by
  induction e using Ex.ind with
  |_ e ih=>exact ck_typeOf_step b svL svS svP n U S W hn e (fun a ha h1 h2=>ih a ha h1 h2) hpart he
theorem zGy (b:Nat) (svL svS svP:Value) (n:Ns) (U S:List ByteArray) (W:List Int) (e:Ex) (hn:n.Ok) (hS:S.length<=1000000) (he:e.wt<=1000000000):
    Con cfg 170 [vP b,vE e] (ckN b svL svS svP n U S W) fun r μ'=>r=.tup [vTy (bW n.Bufs S e).1,vI (bW n.Bufs S e).2]/\μ'=ckN b svL svS svP n U S W:=by
 refine Con.drop<|zU Tryz.func170 O Tryz.ntmps170 Tryz.results170 O ?_
 intro z hz
 refine R O<|zV O O (qO O O) ?_
 rintro _ _ ⟨b1,rfl,rfl⟩
 refine qX _ (qK 0 O 2 _ PLe.ptr)<|zV O O (qO O O) ?_
 rintro _ _ ⟨b2,rfl,rfl⟩
 refine zV O O (yN O zr31) ?_
 rintro _ _ ⟨b3,rfl,rfl⟩
 refine zV O O (yN O zr36) ?_
 rintro _ _ ⟨b4,rfl,rfl⟩
 refine zA<|zI<|R O<|zO yP (Y 2 O) O<|qN O ok193 (expr_Validate e (by omega)) ⟨zB,O,T⟩<|G O<|zA<|R O<|G O<|kU O<|zA<|zC O (fun c1=>?_) (fun c1=>?_)
 ·try simp only [sx] at c1
  refine R O<|yZ O zr31 pl31<|G O<|D 1 sz31 O<|D 0 sz36 O<|zA<|zT _ (Weak.mem [true,true,false,true,true,true,true] O)<|zK<|fin2 (qM yH O (Y 1 O) O) (wF zIi O (Y 0 O) O) ?_
  exact ⟨by rw [exprT_1 c1];rfl,[_,_],O⟩
 ·try simp only [sx] at c1
  refine zJ<|zI<|R O<|zO yP (Y 2 O) O<|qN O ok144 (zMl _) ⟨zB,O,T⟩<|zA<|zP<|zHa (ps:=[17]) hz 2 O O ok173 (zLb e (by omega)) (fun _ _=>O) O (fun pre=>dD n.Bufs S pre=0) (fun pre=>[E.row b4 36 [cI 0],E.row b3 31 [cI 0,cI 0,cI 0,cI 0,cI 0]]) (fun c pre=>(c=.ret/\¬dD n.Bufs S pre=0)) (fun c pre=>[E.row b4 36 [cI (dD n.Bufs S pre)],E.row b3 31 [cI 0,cI 0,cI 0,cI 0,cI 0]]) ⟨O,O⟩ ?_ ?_ ?_ ?_
  ·intro pre x suf hxs hi z hz
   have hxw:x.wt<=e.wt:=zEj e x (by rw [hxs];simp)
   refine zM O<|zV O O (qR [none,none,none,none,none,none,none,none,none,none,some 2,some 4,some 13] O zr57 O) ?_
   rintro _ _ ⟨b5,rfl,rfl⟩
   refine D 0 sz57 O<|zA ?_
   intro z hz
   refine zP<|R O<|zH zOp zQ O<|zO yP (Y 0 O) O<|zW O (yI [4,4,4,4] O ok194 (ck_node b svL svS svP n U S W x hn hS (by omega)) ⟨zB,O,zB,O,T⟩ O)<|G O<|zA<|R O<|G O<|kU O<|zA<|zC O (fun c2=>?_) (fun c2=>?_)
   ·try simp only [sx] at c2
    refine R O<|yZ O zr31 pl31<|G O<|D 2 sz31 O<|D 1 sz36 O<|zA<|zK ?_
    exact zBy (τ:=⟨[],_⟩) (Weak.mk [false,true,true,true,true,true,true,true] T O) ⟨⟨O,by rw [zNq hi];exact c2⟩,(by dsimp only;rw [zNq hi];rfl)⟩
   ·try simp only [sx] at c2
    refine zJ ?_
    exact zBy (τ:=⟨[],_⟩) (Weak.mk [false,true,true,true,true,true,true,true] T O) ⟨(by dsimp only;rw [zNq hi];exact c2),O⟩
  ·intro hd
   refine R O<|zH zOp zQ O<|zO yP (Y 2 O) O<|zW O (yI [3,3,3,3] O ok195 (ck_typeOf b svL svS svP n U S W e hn (zFq c1) (by omega)) ⟨zB,O,zB,O,T⟩ O)<|zW O (kD O O O)<|zW O (yR O O O)<|D 1 sz31 O<|D 0 sz36 O<|zA<|zT _ (Weak.mem [true,true,false,true,true,true,true] O)<|zK<|fin2 (qM yH O (Y 1 O) O) (wF zIi O (Y 0 O) O) ?_
   exact ⟨by rw [exprT_3 c1 hd];rfl,[_,_],O⟩
  ·rintro pre x suf hxs hx
   rcases hx with ⟨hc,hx⟩
   clear hc
   repeat (first|refine zRb ?_|refine zOk ?_)
   refine fin2 (qM yH O (Y 1 O) O) (wF zIi O (Y 0 O) O) ?_
   exact ⟨by rw [exprT_2 c1 (by rw [hxs,nodesN_pre hx];exact hx),hxs,nodesN_pre (suf:=suf) hx];rfl,[_,_,_],O⟩
  ·rintro i pre x suf hxs hx
   rcases hx with ⟨hc,hx⟩
   cases hc
theorem ck_store (b:Nat) (svL svS svP:Value) (n:Ns) (U S:List ByteArray) (W:List Int) (s:St) (hn:n.Ok) (hS:S.length<=1000000) (hs:s.wt<=900000000):
    Con cfg 172 [vP b,vSt s] (ckN b svL svS svP n U S W) fun r μ'=>r=vI (gO n.Bufs S s)/\μ'=ckN b svL svS svP n U S W:=by
 refine zU Tryz.func172 O Tryz.ntmps172 Tryz.results172 O ?_
 intro z hz
 obtain ⟨hE,hI,hIw,hB,hBw⟩:=St.parts hs
 have hrd:=rdE_wt s
 refine R O<|zV O O (qO O O) ?_
 rintro _ _ ⟨b1,rfl,rfl⟩
 refine G O<|zA<|R O<|G O<|zG O zCp<|zH one9 (Y 0 O) O<|zG O zKa<|zH wJ (Y 0 O) O<|zW O (kY [none,none,none,none,none,none,none,none,none,none,some 2,none,some 13] O zr57 pl57 O O)<|zW O (yI [1,1,1,1] O ok170 (zGy b svL svS svP n U S W (rdE s) hn hS (by omega)) ⟨zB,O,zB,O,T⟩ O)<|zW O (yD O O)<|zW O (kD O O O)<|zW O (yR O O O)<|zV O O (yN O zr31) ?_
 rintro _ _ ⟨b2,rfl,rfl⟩
 refine D 0 sz31 O<|G O<|zA<|zI<|R O<|G O<|kU O<|zA<|zC O (fun c1=>?_) (fun c1=>?_)
 ·try simp only [sx] at c1
  refine R O<|G O<|G O<|zA<|zT _ (Weak.mem [false,false,true,true,true,true] O)<|zK<|zR O ?_
  exact ⟨by rw [storeE_1 c1],O⟩
 ·try simp only [sx] at c1
  have hT:=exprT_rd c1
  refine zJ<|zI<|zI<|yS 12 1 [⟨0,.q []⟩,⟨1,.q []⟩,⟨2,.q []⟩,⟨3,.q [3]⟩,⟨4,.q []⟩,⟨5,.q [2]⟩,⟨6,.q []⟩,⟨7,.q []⟩,⟨8,.q []⟩,⟨9,.q []⟩,⟨10,.e 0 []⟩,⟨11,.e 0 []⟩] mixed (by kernel_rfl) (by kernel_rfl) O O O<|v O<|v O<|v O<|v O<|v O<|v O<|v O<|v O<|v O<|v O<|v O<|v O<|zAg<|zY O (by decide) O O (zN O O)<|zY O (by decide) O O (qI O O)<|zY O (by decide) O O (zD O zNw O)<|zY O (by decide) O O (qC O zBi O (Y 0 O) O)<|zY O (by decide) O O (zD O zCp O)<|zY O (by decide) O O (zF O one9 O (Y 0 O) O)<|zY O (by decide) O O (qS O ok112 (wS n s.Name hn) ⟨zB,O,zB,O,T⟩)<|zY O (by decide) O O (yD O O)<|zY O (by decide) O O (kD O O O)<|zY O (by decide) O O (yR O O O)<|zHk O O (by decide) O O (qR [none,none,none,none,none,none,some 1,none] O zr69 O) ?_
  rintro _ _ ⟨b3,rfl,rfl⟩
  refine ⟨_,O,?_⟩
  refine zEs O O (by decide) O O (kX O sz69 O O O (zHt 0 O O)) ?_
  rintro _ _ ⟨rfl,rfl⟩
  refine ⟨_,O,?_⟩
  refine zAe O<|G O<|zA<|R O<|zG O zIo<|zH one3 (Y 0 O) O<|qZ O<|zA<|zC O (fun c2=>?_) (fun c2=>?_)
  ·try simp only [sx] at c2
   refine R O<|G O<|zA<|zT _ (Weak.mem [false,false,false,true,true,true,true] O)<|zK<|zR O ?_
   exact ⟨by rw [storeE_u c1 (.inl c2)],O⟩
  ·try simp only [sx] at c2
   refine zJ<|zI<|R O<|zG O zBu<|zH one3 (Y 2 O) O<|qZ O<|G O<|rL0 O (fun g7_3=>zD O zSu O) O<|A 40 O (fun g7_3=>zF O one3 O (Y 2 O) O) O<|A 41 O (fun g7_3=>kM O O O) O<|A 42 O (fun g7_3=>zN O O) O<|rLz [] O N T (fun g7_7=>zD O zSu O) O<|rLz [(44,_)] O N ⟨O,O,T⟩ (fun g7_7=>zF O one3 O (Y 2 O) O) O<|rLz [(45,_)] O N ⟨O,O,T⟩ (fun g7_7=>yG O O O) O<|A 43 O (fun g7_3=>zAz O O O O (fun h=>kH (by assumption) (lzf h))) O<|yK O (fun h=>h)<|zA<|zC O (fun c3=>?_) (fun c3=>?_)
   ·try simp only [sx] at c3
    refine R O<|G O<|zA<|zT _ (Weak.mem [false,false,false,true,true,true,true] O)<|zK<|zR O ?_
    exact ⟨by rw [storeE_u c1 (.inr c3)],O⟩
   ·try simp only [sx] at c3
    refine zJ<|R O<|G O<|zG O zDf<|zO yP (Y 2 O) O<|zW O (yI [3,3,3,3] O ok170 (zGy b svL svS svP n U S W s.E hn hS (by omega)) ⟨zB,O,zB,O,T⟩ O)<|zW O (yD O O)<|zW O (kD O O O)<|zW O (yR O O O)<|zV O O (yN O zr31) ?_
    rintro _ _ ⟨b4,rfl,rfl⟩
    refine D 0 sz31 O<|G O<|zA<|zI<|R O<|G O<|kU O<|zA<|zC O (fun c4=>?_) (fun c4=>?_)
    ·try simp only [sx] at c4
     refine R O<|G O<|G O<|zA<|zT _ (Weak.mem [false,false,false,false,true,true,true,true] O)<|zK<|zR O ?_
     exact ⟨by rw [storeE_2 c1 (by omega) c4],O⟩
    ·try simp only [sx] at c4
     refine zJ<|zI<|R O<|zG O zDf<|zO yP (Y 3 O) O<|qN O ok171 (wC s.E) ⟨zB,O,T⟩<|G O<|rL0 O (fun g12_3=>qC O yH O (Y 0 O) O) O<|rL0 O (fun g12_3=>qC O yH O (Y 2 O) O) O<|rLz [(63,_),(64,_)] O J ⟨O,O,O,O,T⟩ (fun g12_3=>zBk O fl31 O O O) O<|r_or O (fun h=>(lzf h))<|zA<|zC O (fun c5=>?_) (fun c5=>?_)
     ·have h10:=st10_t c5
      rw [hT] at h10
      refine R O<|G O<|zA<|zT _ (Weak.mem [false,false,false,false,true,true,true,true] O)<|zK<|zR O ?_
      exact ⟨by rw [storeE_10 c1 (by omega) c4 h10],O⟩
     ·have h10:=st10_f c5
      rw [hT] at h10
      refine zJ<|R O<|G O<|zA<|zT _ (Weak.mem [false,false,false,false,true,true,true,true] O)<|zK<|zR O ?_
      exact ⟨by rw [storeE_0 c1 (by omega) c4 h10],O⟩
theorem ck_loop (b:Nat) (svL svS svP:Value) (n:Ns) (U S:List ByteArray) (W:List Int) (s:St) (hn:n.Ok) (hU:U.length<=1000000):
    Con cfg 169 [vP b,vSt s] (ckN b svL svS svP n U S W) fun r μ'=>r=vI (nA n.Bufs U s)/\μ'=ckN b svL svS svP n U S W:=by
 refine zU Tryz.func169 O Tryz.ntmps169 Tryz.results169 O ?_
 intro z hz
 refine R O<|zV O O (qO O O) ?_
 rintro _ _ ⟨b1,rfl,rfl⟩
 refine G O<|zA<|zI<|R O<|zG O zCp<|zH one9 (Y 0 O) O<|qN O ok96 (zDt _) ⟨zB,O,T⟩<|kP O<|zA<|zC O (fun c1=>?_) (fun c1=>?_)
 ·try simp only [sx] at c1
  refine R O<|G O<|zA<|zT _ (Weak.mem [false,true,true,true,true] O)<|zK<|zR O ?_
  exact ⟨by rw [loopE_7 c1],O⟩
 ·try simp only [sx] at c1
  refine zJ<|zI<|zI<|yS 12 1 [⟨0,.q []⟩,⟨1,.q []⟩,⟨2,.q []⟩,⟨3,.q [2]⟩,⟨4,.q []⟩,⟨5,.q [1]⟩,⟨6,.q []⟩,⟨7,.q []⟩,⟨8,.q []⟩,⟨9,.q []⟩,⟨10,.e 0 []⟩,⟨11,.e 0 []⟩] mixed (by kernel_rfl) (by kernel_rfl) O O O<|v O<|v O<|v O<|v O<|v O<|v O<|v O<|v O<|v O<|v O<|v O<|v O<|zAg<|zY O (by decide) O O (zN O O)<|zY O (by decide) O O (qI O O)<|zY O (by decide) O O (zD O zNw O)<|zY O (by decide) O O (qC O zBi O (Y 0 O) O)<|zY O (by decide) O O (zD O zCp O)<|zY O (by decide) O O (zF O one9 O (Y 0 O) O)<|zY O (by decide) O O (qS O ok112 (wS n s.Name hn) ⟨zB,O,zB,O,T⟩)<|zY O (by decide) O O (yD O O)<|zY O (by decide) O O (kD O O O)<|zY O (by decide) O O (yR O O O)<|zHk O O (by decide) O O (qR [none,none,none,none,none,none,some 1,none] O zr69 O) ?_
  rintro _ _ ⟨b2,rfl,rfl⟩
  refine ⟨_,O,?_⟩
  refine zEs O O (by decide) O O (kX O sz69 O O O (zHt 0 O O)) ?_
  rintro _ _ ⟨rfl,rfl⟩
  refine ⟨_,O,?_⟩
  refine zAe O<|G O<|zA<|zI<|qW 10 mixed (by kernel_rfl) O O<|zL O O (zN O O)<|zL O O (zN O O)<|qJ [] O O O O J T (fun g4_1=>zN O O) O<|qJ [(23,_)] O O O O J ⟨O,O,T⟩ (fun g4_1=>qI O O) O<|qJ [(24,_)] O O O O J ⟨O,O,T⟩ (fun g4_1=>zD O fd159_1 O) O<|qJ [(25,_)] O O O O J ⟨O,O,T⟩ (fun g4_1=>zF O zIh O (Y 2 O) O) O<|qJ [] O O O O J T (fun g4_1=>zD O zCp O) O<|qJ [(27,_)] O O O O J ⟨O,O,T⟩ (fun g4_1=>zF O one9 O (Y 1 O) O) O<|qJ [(26,_),(28,_)] O O O O J ⟨O,O,O,O,T⟩ (fun g4_1=>zDb 3 O ok165 O (zCj U s.Name (by omega)) O ⟨.inl ⟨O,O⟩,.inr ⟨zB,O⟩,T⟩) O<|zL O O (zAz O O O O (fun h=>(lzf h)))<|yJ<|zA<|zC O (fun c2=>?_) (fun c2=>?_)
  ·try simp only [sx] at c2
   refine R O<|G O<|zA<|zT _ (Weak.mem [false,false,true,true,true,true] O)<|zK<|zR O ?_
   exact ⟨by rw [loopE_8 c1 c2],O⟩
  ·try simp only [sx] at c2
   have h8:¬(bP n.Bufs s.Name=true∨bS U s.Name=true):=by rw [c2.1,c2.2];simp
   refine zJ<|zI<|R O<|zG O zMi<|zH one3 (Y 1 O) O<|yB O<|G O<|rL0 O (fun g6_3=>zD O zMi O) O<|A 35 O (fun g6_3=>zF O one3 O (Y 1 O) O) O<|A 36 O (fun g6_3=>yG O O O) O<|r_or O (fun h=>(lzf h))<|G O<|rL0 O (fun g6_8=>zD O zSv O) O<|A 40 O (fun g6_8=>zF O one3 O (Y 1 O) O) O<|A 41 O (fun g6_8=>kM O O O) O<|r_or O (fun h=>(lzf h))<|G O<|rL0 O (fun g6_13=>zD O zSv O) O<|A 45 O (fun g6_13=>zF O one3 O (Y 1 O) O) O<|A 46 O (fun g6_13=>yG O O O) O<|r_or O (fun h=>(lzf h))<|zA<|zC O (fun c3=>?_) (fun c3=>?_)
   ·try simp only [sx] at c3
    refine R O<|G O<|zA<|zT _ (Weak.mem [false,false,true,true,true,true] O)<|zK<|zR O ?_
    exact ⟨by rw [loopE_1 c1 h8 (by omega)],O⟩
   ·try simp only [sx] at c3
    refine zJ<|R O<|G O<|zA<|zT _ (Weak.mem [false,false,true,true,true,true] O)<|zK<|zR O ?_
    exact ⟨by rw [loopE_0 c1 h8 (by omega)],O⟩
theorem zSf (e:Ex) (he:e.wt<=4294967296):
    Pur cfg 192 [vE e] (vB (rQ e)):=by
 refine zU Tryz.func192 O Tryz.ntmps192 Tryz.results192 O ?_
 intro z hz
 refine R O<|zV O O (qO O O) ?_
 rintro _ _ ⟨b1,rfl,rfl⟩
 refine G O<|zA<|R O<|zO yP (Y 0 O) O<|zW O (kY [none,none,none,none,none,none,none,none,none,none,some 2,some 4,some 13] O zr57 pl57 O O)<|qN O ok210 (expr_Same e zEx he (by decide)) ⟨zB,O,zB,O,T⟩<|G O<|zA<|zK<|zR O ?_
 exact O
theorem zSe (s:St) (hs:s.wt<=900000000):
    Pur cfg 168 [vSt s] (vB (fE s)):=by
 refine zU Tryz.func168 O Tryz.ntmps168 Tryz.results168 O ?_
 intro z hz
 obtain ⟨hE,hI,hIw,hB,hBw⟩:=St.parts hs
 refine R O<|zV O O (qO O O) ?_
 rintro _ _ ⟨b1,rfl,rfl⟩
 refine G O<|zA<|zI<|qW 17 mixed (by kernel_rfl) O O<|zL O O (zD O zBu O)<|zL O O (zF O one3 O (Y 0 O) O)<|zL O O (yO O O O)<|zL O O (zD O zBu O)<|zL O O (zF O one3 O (Y 0 O) O)<|zL O O (yO O O O)<|zL O O (zN O O)<|qJ [] O O O O J T (fun g1_6=>zD O zBu O) O<|qJ [(13,_)] O O O O J ⟨O,O,T⟩ (fun g1_6=>zF O one3 O (Y 0 O) O) O<|qJ [(14,_)] O O O O J ⟨O,O,T⟩ (fun g1_6=>yO O O O) O<|zL O O (zAz O O O O (fun h=>(lzf h)))<|zL O O (zD O zBu O)<|zL O O (zF O one3 O (Y 0 O) O)<|zL O O (yO O O O)<|zL O O (yU O O)<|zL O O (yU O O)<|zL O O (yU O O)<|yJ<|zA<|zI<|zP<|R O<|G O<|kP O<|G O<|rL0 O (fun g2_2=>zN O O) O<|A 24 O (fun g2_2=>wA O O) O<|yK O (fun h=>h)<|G O<|rL0 O (fun g2_6=>zN O O) O<|A 28 O (fun g2_6=>wA O O) O<|yK O (fun h=>h)<|G O<|zA<|zC O (fun c1=>?_) (fun c1=>?_)
 ·refine R O<|G O<|zA<|zK<|zR O ?_
  exact congrArg vB (syn_1 c1)
 ·refine R O<|G O<|G O<|rL0 O (fun g4_1=>zD O zCp O) O<|A 34 O (fun g4_1=>zF O one9 O (Y 0 O) O) O<|A 35 O (fun g4_1=>zAl O O O) O<|yK O (fun h=>h)<|G O<|zA<|zC O (fun c2=>?_) (fun c2=>?_)
  ·refine R O<|G O<|zA<|zK<|zR O ?_
   exact congrArg vB (syn_2 c2)
  ·refine R O<|G O<|kP O<|G O<|rL0 O (fun g6_2=>zD O zMi O) O<|A 42 O (fun g6_2=>zF O one3 O (Y 0 O) O) O<|A 43 O (fun g6_2=>zAn O O O) O<|A 44 O (fun g6_2=>zN O O) O<|rLz [] O N T (fun g6_6=>zD O zSv O) O<|rLz [(46,_)] O N ⟨O,O,T⟩ (fun g6_6=>zF O one3 O (Y 0 O) O) O<|rLz [(47,_)] O N ⟨O,O,T⟩ (fun g6_6=>zAn O O O) O<|A 45 O (fun g6_2=>zAz O O O O (fun h=>kH (by assumption) (lzf h))) O<|yK O (fun h=>h)<|G O<|zA<|zC O (fun c3=>?_) (fun c3=>?_)
   ·refine R O<|G O<|zA<|zK<|zR O ?_
    exact congrArg vB (syn_3 c3)
   ·refine R O<|zG O zBu<|zH one3 (Y 0 O) O<|kU O<|G O<|rL0 O (fun g8_3=>zD O zSu O) O<|A 56 O (fun g8_3=>zF O one3 O (Y 0 O) O) O<|A 57 O (fun g8_3=>zAn O O O) O<|yK O (fun h=>h)<|G O<|zA<|zC O (fun c4=>?_) (fun c4=>?_)
    ·refine R O<|G O<|zA<|zK<|zR O ?_
     exact congrArg vB (syn_4 c4)
    ·refine R O<|G O<|kP O<|G O<|rL0 O (fun g10_2=>zD O zKa O) O<|A 64 O (fun g10_2=>zF O wJ O (Y 0 O) O) O<|A 65 O (fun g10_2=>yW O el51 O) O<|A 66 O (fun g10_2=>yG O O O) O<|yK O (fun h=>h)<|G O<|zA<|zC O (fun c5=>?_) (fun c5=>?_)
     ·refine R O<|G O<|zA<|zK<|zR O ?_
      exact congrArg vB (syn_5 c5)
     ·refine R O<|G O<|G O<|rL0 O (fun g12_1=>zD O zDf O) O<|A 72 O (fun g12_1=>qC O yP O (Y 0 O) O) O<|A 73 O (fun g12_1=>qS O ok192 (zSf s.E (by omega)) ⟨zB,O,T⟩) O<|A 74 O (fun g12_1=>wA O O) O<|yK O (fun h=>h)<|G O<|zA<|zC O (fun c6=>?_) (fun c6=>?_)
      ·refine R O<|G O<|zA<|zK<|zR O ?_
       exact congrArg vB (syn_6 c6)
      ·refine zJ<|R O<|G O<|kP O<|G O<|rL0 O (fun g14_2=>zD O zCo O) O<|A 80 O (fun g14_2=>zF O zBm O (Y 0 O) O) O<|A 81 O (fun g14_2=>yW O el23 O) O<|A 82 O (fun g14_2=>yO O O O) O<|r_or O (fun h=>(lzf h))<|G O<|zA<|zK<|zR O ?_
       exact congrArg vB (syn_7 c1 c2 c3 c4 c5 c6)
theorem ck_statement (b:Nat) (svL svS svP:Value) (n:Ns) (U S:List ByteArray) (W:List Int) (s:St) (hn:n.Ok) (hS:S.length<=1000000) (hU:U.length<=1000000) (hs:s.wt<=900000000):
    Con cfg 143 [vP b,vSt s] (ckN b svL svS svP n U S W) fun r μ'=>r=vI (stE n.Bufs U S s)/\μ'=ckN b svL svS svP n U S W:=by
 refine zU Tryz.func143 O Tryz.ntmps143 Tryz.results143 O ?_
 intro z hz
 obtain ⟨hE,hI,hIw,hB,hBw⟩:=St.parts hs
 refine R O<|zV O O (qO O O) ?_
 rintro _ _ ⟨b1,rfl,rfl⟩
 refine G O<|zA<|zI<|R O<|zO zFo (Y 0 O) O<|qN O ok168 (zSe s hs) ⟨zB,O,T⟩<|kP O<|zA<|zC O (fun c1=>?_) (fun c1=>?_)
 ·try simp only [sx] at c1
  refine R O<|G O<|zA<|zT _ (Weak.mem [false,true,true,true,true] O)<|zK<|zR O ?_
  exact ⟨by rw [stE_5 c1],O⟩
 ·try simp only [sx] at c1
  refine zJ<|zI<|R O<|zG O zBu<|zH one3 (Y 0 O) O<|zA<|zP<|R O<|qZ O<|G O<|zA<|zC O (fun c2=>?_) (fun c2=>?_)
  ·try simp only [sx] at c2
   refine R O<|G O<|zO zFo (Y 0 O) O<|zW O (yI [1,1,1,1] O ok169 (ck_loop b svL svS svP n U S W s hn hU) ⟨zB,O,zB,O,T⟩ O)<|G O<|zA<|zT _ (Weak.mem [false,true,true,true,true] O)<|zK<|zR O ?_
   exact ⟨by rw [stE_l c1 c2],O⟩
  ·try simp only [sx] at c2
   refine R O<|qZ O<|G O<|zA<|zC O (fun c3=>?_) (fun c3=>?_)
   ·try simp only [sx] at c3
    refine zI<|R O<|G O<|zG O zDf<|zO yP (Y 0 O) O<|zW O (yI [1,1,1,1] O ok170 (zGy b svL svS svP n U S W s.E hn hS (by omega)) ⟨zB,O,zB,O,T⟩ O)<|zW O (yD O O)<|zW O (kD O O O)<|zW O (yR O O O)<|zV O O (yN O zr31) ?_
    rintro _ _ ⟨b2,rfl,rfl⟩
    refine D 0 sz31 O<|G O<|zA<|R O<|G O<|kU O<|zA<|zC O (fun c4=>?_) (fun c4=>?_)
    ·try simp only [sx] at c4
     refine R O<|G O<|G O<|zA<|zT _ (Weak.mem [false,false,true,true,true,true] O)<|zK<|zR O ?_
     exact ⟨by rw [stE_i c1 c3,ifE_x c4],O⟩
    ·try simp only [sx] at c4
     refine zJ<|zI<|R O<|zG O zDf<|zO yP (Y 1 O) O<|qN O ok171 (wC s.E) ⟨zB,O,T⟩<|kP O<|zA<|zC O (fun c5=>?_) (fun c5=>?_)
     ·try simp only [sx] at c5
      refine R O<|G O<|zA<|zT _ (Weak.mem [false,false,true,true,true,true] O)<|zK<|zR O ?_
      exact ⟨by rw [stE_i c1 c3,ifE_10 c4 c5],O⟩
     ·try simp only [sx] at c5
      refine zJ<|R O<|G O<|zA<|zT _ (Weak.mem [false,false,true,true,true,true] O)<|zK<|zR O ?_
      exact ⟨by rw [stE_i c1 c3,ifE_0 c4 c5],O⟩
   ·try simp only [sx] at c3
    refine zJ<|R O<|G O<|zO zFo (Y 0 O) O<|zW O (yI [1,1,1,1] O ok172 (ck_store b svL svS svP n U S W s hn hS hs) ⟨zB,O,zB,O,T⟩ O)<|G O<|zA<|zT _ (Weak.mem [false,true,true,true,true] O)<|zK<|zR O ?_
    exact ⟨by rw [stE_s c1 c2 c3],O⟩
set_option maxHeartbeats 2000000 in
theorem zFg (b:Nat) (svL svS svP:Value) (n:Ns) (U S:List ByteArray) (W:List Int) (l:List St) (hn:n.Ok) (hU:U.length+dK l<=1000000) (hS:S.length+dK l<=1000000) (hW:W.length+dK l<=1000000) (hl:bL l<=536870912) (ih:∀s,s∈l->∀(svL svS svP:Value) (U S:List ByteArray) (W:List Int),U.length+dK s.Body<=1000000->S.length+dK s.Body<=1000000->W.length+dK s.Body<=1000000->Con cfg 101 [vP b,fV s.Body] (ckN b svL svS svP n U S W) fun r μ'=>∃svL' svS' svP' U' S' W',r=vI (dR n.Bufs U S W 0 s.Body).E/\((dR n.Bufs U S W 0 s.Body).E=0->U'=(dR n.Bufs U S W 0 s.Body).U/\S'=S/\W'=W)/\(¬(dR n.Bufs U S W 0 s.Body).E=0->W'=(dR n.Bufs U S W 0 s.Body).W)/\μ'=ckN b svL' svS' svP' n U' S' W'):
    Con cfg 101 [vP b,fV l] (ckN b svL svS svP n U S W) fun r μ'=>∃svL' svS' svP' U' S' W',r=vI (dR n.Bufs U S W 0 l).E/\((dR n.Bufs U S W 0 l).E=0->U'=(dR n.Bufs U S W 0 l).U/\S'=S/\W'=W)/\(¬(dR n.Bufs U S W 0 l).E=0->W'=(dR n.Bufs U S W 0 l).W)/\μ'=ckN b svL' svS' svP' n U' S' W':=by
 refine zU Tryz.func101 O Tryz.ntmps101 Tryz.results101 O ?_
 intro z hz
 have hll:=wL l
 have hlN:=zEc l
 refine R O<|G O<|zA<|zI<|R O<|G O<|zZ O el23<|G O<|zA<|zP<|zT ⟨[(12,.c _),(0,.c _),(1,.c _),(11,.c _)],[_,_,_,_]⟩ (Weak.mk [true,true,true,true] ⟨zB,zB,zB,zB,T⟩ O)<|qG 1 4 O O (Nat×Value×Value×Value×List ByteArray) (fun ⟨k,vL,vS,vP_,u⟩=>[(12,vI k)]) (fun ⟨k,vL,vS,vP_,u⟩=>[E.row b 159 [.sl 8 (n.Bufs.map Bf.cells),.sl 20 (n.Body.map St.cells),.lit vL,.lit vS,.lit vP_],E.vec vL 9 1 (u.map fun s=>[cS s]),E.vec vS 9 1 (S.map fun s=>[cS s]),E.vec vP_ 3 1 (W.map fun i=>[cI i])]) (fun ⟨k,vL,vS,vP_,u⟩=>k<=l.length/\(u.length+dK (l.drop k)<=1000000)/\((dR n.Bufs U S W 0 l)=dR n.Bufs u S W k (l.drop k))) (fun ⟨k,vL,vS,vP_,u⟩=>l.length-k) ⟨⟨0,svL,svS,svP,U⟩,⟨by omega,by simpa using hU,O⟩,Weak.mk [true,true,true,true] ⟨zB,zB,zB,zB,T⟩ O⟩ ?_
 rintro ⟨k,vL,vS,vP_,u⟩ ⟨hk,hub,hp⟩
 show AWP _ _ _ _ _ ⟨[(12,vI k)]++_,[E.row b 159 [.sl 8 (n.Bufs.map Bf.cells),.sl 20 (n.Body.map St.cells),.lit vL,.lit vS,.lit vP_],E.vec vL 9 1 (u.map fun s=>[cS s]),E.vec vS 9 1 (S.map fun s=>[cS s]),E.vec vP_ 3 1 (W.map fun i=>[cI i])]++_⟩
 refine R O<|yB O<|zA<|zI<|zC O (fun c1=>?_) (fun c1=>?_)
 ·try simp only [sx] at c1
  obtain ⟨s,hs⟩:=qU l k (by omega)
  have hsw:=kL (qA hs)
  have hsb:=St.body_wt s
  have hsn:=stsN_drop hs
  have hse:=zOn s
  have hsm:=zPn (qA hs)
  have hcl:=chkS_len n.Bufs s u S (W++[(k:Int)])
  refine zJ<|zI<|zP<|R O<|G O<|G O<|zA<|R O<|G O<|G O<|qD O el23 (by omega) (zEl (by assumption))<|zO zFo zQ O<|zV O O (qR [none,none,none,none,none,some 4,none,none,none,none,none,none,none,none,none,none,some 2,some 4,some 13,some 20] O zr59 O) ?_
  rintro _ _ ⟨b1,rfl,rfl⟩
  refine D 0 sz59 O<|zA<|R O<|G O<|G O<|qE O<|zG O zGw<|zH zCt (Y 1 O) O<|G O<|zW O (yM O el67 zr3 O O O O)<|zV O O (yQ 4 O el67 O O O (by simp only [List.length_map,List.length_append,List.length_cons,List.length_nil];omega) (by simp only [List.length_map,List.length_append,List.length_cons,List.length_nil];omega)) ?_
  rintro _ _ ⟨sv2,rfl,rfl⟩
  refine qE O<|zG O zGw<|D 1 sz67 O<|zA<|zI<|zI<|zT _ (Weak.vecEq 4 O (rows':=(W++[(k:Int)]).map fun i=>[cI i]) (by first|rfl|simp|rw [List.take_of_length_le (by simp)]))<|zM O<|G O<|zO zFo (Y 0 O) O<|zW O (yI [1,1,1,1] O ok143 (ck_statement b vL vS _ n u S (W++[(k:Int)]) s hn (by omega) (by omega) (by omega)) ⟨zB,O,zB,O,T⟩ O)<|G O<|zA<|R O<|G O<|kU O<|zA<|zC O (fun c2=>?_) (fun c2=>?_)
  ·try simp only [sx] at c2
   have hx0:=chkS_no (here:=W++[(k:Int)]) (B:=n.Bufs) (U:=u) (sc:=S) (s:=s) c2
   refine R O<|G O<|G O<|zA<|zT _ (Weak.mem [false,true,true,true,true] O)<|zK<|zR O ?_
   refine ⟨_,_,_,_,_,_,?_,fun h0=>?_,fun _=>?_,O⟩
   · rw [zEa hs hp (by rw [hx0];exact c2),hx0]
   · rw [zEa hs hp (by rw [hx0];exact c2),hx0] at h0;exact absurd h0 c2
   · rw [zEa hs hp (by rw [hx0];exact c2),hx0]
  ·try simp only [sx] at c2
   have hin:=chkS_in (here:=W++[(k:Int)]) (B:=n.Bufs) (U:=u) (sc:=S) (s:=s) c2
   refine zJ<|R O<|G O<|qE O<|zG O zIr<|zH zIh (Y 1 O) O<|zW O (yL 3 O el78 O O)<|G O<|zA<|zI<|R O<|zG O zBu<|zH one3 (Y 0 O) O<|qZ O<|zA<|zC O (fun c3=>?_) (fun c3=>?_)
   ·try simp only [sx] at c3
    rw [zIk c3,zIk c3] at hin
    refine zI<|yS 9 0 [⟨0,.q []⟩,⟨1,.q []⟩,⟨2,.q []⟩,⟨3,.q []⟩,⟨4,.q [1]⟩,⟨5,.q []⟩,⟨6,.q [0]⟩,⟨7,.q []⟩,⟨8,.e 2 []⟩] mixed (by kernel_rfl) (by kernel_rfl) O O O<|v O<|v O<|v O<|v O<|v O<|v O<|v O<|v O<|v O<|zAg<|zY O (by decide) O O (zN O O)<|zY O (by decide) O O (zN O O)<|zY O (by decide) O O (qI O O)<|zY O (by decide) O O (zD O fd159_1 O)<|zY O (by decide) O O (zF O zIh O (Y 0 O) O)<|zY O (by decide) O O (zD O zCp O)<|zY O (by decide) O O (zF O one9 O (Y 0 O) O)<|zY O (by decide) O O (yM O el78 zr9 O O O O)<|zHk O O (by decide) O O (yQ 0 O el78 O O O (by simp only [List.length_map,List.length_append,List.length_cons,List.length_nil];omega) (by simp only [List.length_map,List.length_append,List.length_cons,List.length_nil];omega)) ?_
    rintro _ _ ⟨sv3,rfl,rfl⟩
    refine ⟨_,O,?_⟩
    refine zAe O<|qE O<|zG O fd159_1<|D 1 sz78 O<|zA<|zT _ (Weak.vecEq 2 O (rows':=(u++[s.Name]).map fun s=>[cS s]) (by first|rfl|simp|rw [List.take_of_length_le (by simp)]))<|yS 9 0 [⟨0,.q []⟩,⟨1,.q []⟩,⟨2,.q []⟩,⟨3,.q []⟩,⟨4,.q [1]⟩,⟨5,.q []⟩,⟨6,.q [0]⟩,⟨7,.q []⟩,⟨8,.e 3 []⟩] mixed (by kernel_rfl) (by kernel_rfl) O O O<|v O<|v O<|v O<|v O<|v O<|v O<|v O<|v O<|v O<|zAg<|zY O (by decide) O O (zN O O)<|zY O (by decide) O O (zN O O)<|zY O (by decide) O O (qI O O)<|zY O (by decide) O O (zD O zIr O)<|zY O (by decide) O O (zF O zIh O (Y 0 O) O)<|zY O (by decide) O O (zD O zCp O)<|zY O (by decide) O O (zF O one9 O (Y 0 O) O)<|zY O (by decide) O O (yM O el78 zr9 O O O O)<|zHk O O (by decide) O O (yQ 0 O el78 O O O (by simp only [List.length_map,List.length_append,List.length_cons,List.length_nil];omega) (by simp only [List.length_map,List.length_append,List.length_cons,List.length_nil];omega)) ?_
    rintro _ _ ⟨sv4,rfl,rfl⟩
    refine ⟨_,O,?_⟩
    refine zAe O<|qE O<|zG O zIr<|D 1 sz78 O<|zA<|zI<|zI<|zT _ (Weak.vecEq 3 O (rows':=(S++[s.Name]).map fun s=>[cS s]) (by first|rfl|simp|rw [List.take_of_length_le (by simp)]))<|zT ⟨_,E.row _ _ _::ckN b _ _ _ n (u++[s.Name]) (S++[s.Name]) (W++[(k:Int)])⟩ (Weak.mem [true,true,true,true,true] O)<|zM O<|G O<|zG O zCo<|zH zBm (Y 0 O) O<|zV O O (yE [1,1,1,1] O ok101 (ih s (qA hs) _ _ _ (u++[s.Name]) (S++[s.Name]) (W++[(k:Int)]) (by first|omega|(simp;omega)) (by first|omega|(simp;omega)) (by simp;omega)) ⟨zB,O,zB,O,T⟩ O) ?_
    rintro _ _ ⟨_,⟨svL1,svS1,svP1,U1,S1,W1,rfl,hok,hno,rfl⟩,rfl⟩
    refine G O<|zA<|R O<|G O<|kU O<|zA<|zC O (fun c4=>?_) (fun c4=>?_)
    ·exact v14
    ·try simp only [sx] at c4
     rw [←hin] at c4 hok
     obtain ⟨hU1,hS1,hW1⟩:=hok c4
     have hS2:=hS1.symm
     subst hU1 hS2 hW1
     refine zJ<|R O<|G O<|G O<|qE O<|zG O zIr<|zH zIh (Y 1 O) O<|G O<|zV O O (zEi (k:=S.length) 3 O el78 O O O (by simp) (by simp)) ?_
     rintro _ _ ⟨sv5,rfl,rfl⟩
     refine qE O<|zG O zIr<|D 1 sz78 O<|zA<|zT _ (Weak.vecEq 3 O (rows':=S.map fun s=>[cS s]) (by first|rfl|simp|rw [List.take_of_length_le (by simp)]))<|yS 12 0 [⟨0,.q []⟩,⟨1,.q []⟩,⟨2,.q []⟩,⟨3,.q []⟩,⟨4,.q [1]⟩,⟨5,.q []⟩,⟨6,.q []⟩,⟨7,.q []⟩,⟨8,.q [1]⟩,⟨9,.q [4]⟩,⟨10,.q []⟩,⟨11,.e 4 []⟩] mixed (by kernel_rfl) (by kernel_rfl) O O O<|v O<|v O<|v O<|v O<|v O<|v O<|v O<|v O<|v O<|v O<|v O<|v O<|zAg<|zY O (by decide) O O (zN O O)<|zY O (by decide) O O (zN O O)<|zY O (by decide) O O (qI O O)<|zY O (by decide) O O (zD O zGw O)<|zY O (by decide) O O (zF O zCt O (Y 0 O) O)<|zY O (by decide) O O (zN O O)<|zY O (by decide) O O (qI O O)<|zY O (by decide) O O (zD O zGw O)<|zY O (by decide) O O (zF O zCt O (Y 0 O) O)<|zY O (by decide) O O (yL 0 O el67 O O)<|zY O (by decide) O O (kA O O O (by simp only [List.length_map,List.length_append,List.length_cons,List.length_nil];exact ⟨by omega,by omega⟩))<|zHk O O (by decide) O O (zEi (k:=W.length) 0 O el67 O O O (by simp only [List.length_map,List.length_append,List.length_cons,List.length_nil];omega) (by simp)) ?_
     rintro _ _ ⟨sv6,rfl,rfl⟩
     exact j0
   ·try simp only [sx] at c3
    rw [zLv c3,zLv c3] at hin
    refine zJ<|zI<|zI<|zT ⟨_,E.row _ _ _::ckN b _ _ _ n u S (W++[(k:Int)])⟩ (Weak.mem [true,true,true,true,true] O)<|zM O<|G O<|zG O zCo<|zH zBm (Y 0 O) O<|zV O O (yE [1,1,1,1] O ok101 (ih s (qA hs) _ _ _ u S (W++[(k:Int)]) (by first|omega|(simp;omega)) (by first|omega|(simp;omega)) (by simp;omega)) ⟨zB,O,zB,O,T⟩ O) ?_
    rintro _ _ ⟨_,⟨svL1,svS1,svP1,U1,S1,W1,rfl,hok,hno,rfl⟩,rfl⟩
    refine G O<|zA<|R O<|G O<|kU O<|zA<|zC O (fun c4=>?_) (fun c4=>?_)
    ·exact v14
    ·try simp only [sx] at c4
     rw [←hin] at c4 hok
     obtain ⟨hU1,hS1,hW1⟩:=hok c4
     have hS2:=hS1.symm
     subst hU1 hS2 hW1
     refine zJ<|R O<|G O<|G O<|qE O<|zG O zIr<|zH zIh (Y 1 O) O<|G O<|zV O O (zEi (k:=S.length) 3 O el78 O O O (by simp) (by simp)) ?_
     rintro _ _ ⟨sv7,rfl,rfl⟩
     refine qE O<|zG O zIr<|D 1 sz78 O<|zA<|zT _ (Weak.vecEq 3 O (rows':=S.map fun s=>[cS s]) (by first|rfl|simp|rw [List.take_of_length_le (by simp)]))<|yS 12 0 [⟨0,.q []⟩,⟨1,.q []⟩,⟨2,.q []⟩,⟨3,.q []⟩,⟨4,.q [1]⟩,⟨5,.q []⟩,⟨6,.q []⟩,⟨7,.q []⟩,⟨8,.q [1]⟩,⟨9,.q [4]⟩,⟨10,.q []⟩,⟨11,.e 4 []⟩] mixed (by kernel_rfl) (by kernel_rfl) O O O<|v O<|v O<|v O<|v O<|v O<|v O<|v O<|v O<|v O<|v O<|v O<|v O<|zAg<|zY O (by decide) O O (zN O O)<|zY O (by decide) O O (zN O O)<|zY O (by decide) O O (qI O O)<|zY O (by decide) O O (zD O zGw O)<|zY O (by decide) O O (zF O zCt O (Y 0 O) O)<|zY O (by decide) O O (zN O O)<|zY O (by decide) O O (qI O O)<|zY O (by decide) O O (zD O zGw O)<|zY O (by decide) O O (zF O zCt O (Y 0 O) O)<|zY O (by decide) O O (yL 0 O el67 O O)<|zY O (by decide) O O (kA O O O (by simp only [List.length_map,List.length_append,List.length_cons,List.length_nil];exact ⟨by omega,by omega⟩))<|zHk O O (by decide) O O (zEi (k:=W.length) 0 O el67 O O O (by simp only [List.length_map,List.length_append,List.length_cons,List.length_nil];omega) (by simp)) ?_
     rintro _ _ ⟨sv8,rfl,rfl⟩
     exact j0
 ·try simp only [sx] at c1
  refine qH<|R O<|G O<|zA<|zK<|zR O ?_
  refine ⟨_,_,_,_,_,_,?_,fun _=>⟨?_,O,O⟩,fun h0=>?_,O⟩
  · rw [zQl hp (by omega)]
  · rw [zQl hp (by omega)]
  · rw [zQl hp (by omega)] at h0;exact absurd rfl h0
theorem zMw (b:Nat) (n:Ns) (hn:n.Ok) (s:St) (hl:bL s.Body<=536870912):∀(svL svS svP:Value) (U S:List ByteArray) (W:List Int),U.length+dK s.Body<=1000000->S.length+dK s.Body<=1000000->W.length+dK s.Body<=1000000->Con cfg 101 [vP b,fV s.Body] (ckN b svL svS svP n U S W) fun r μ'=>∃svL' svS' svP' U' S' W',r=vI (dR n.Bufs U S W 0 s.Body).E/\((dR n.Bufs U S W 0 s.Body).E=0->U'=(dR n.Bufs U S W 0 s.Body).U/\S'=S/\W'=W)/\(¬(dR n.Bufs U S W 0 s.Body).E=0->W'=(dR n.Bufs U S W 0 s.Body).W)/\μ'=ckN b svL' svS' svP' n U' S' W':=by
  induction s using St.ind with
  |_ s ih=>
    intro svL svS svP U S W hU hS hW
    refine zFg b svL svS svP n U S W s.Body hn hU hS hW hl fun a ha=>ih a ha ?_
    have:=kL ha;have:=St.body_wt a;omega
theorem ck_statements (b:Nat) (svL svS svP:Value) (n:Ns) (U S:List ByteArray) (W:List Int) (l:List St) (hn:n.Ok) (hU:U.length+dK l<=1000000) (hS:S.length+dK l<=1000000) (hW:W.length+dK l<=1000000) (hl:bL l<=536870912):Con cfg 101 [vP b,fV l] (ckN b svL svS svP n U S W) fun r μ'=>∃svL' svS' svP' U' S' W',r=vI (dR n.Bufs U S W 0 l).E/\((dR n.Bufs U S W 0 l).E=0->U'=(dR n.Bufs U S W 0 l).U/\S'=S/\W'=W)/\(¬(dR n.Bufs U S W 0 l).E=0->W'=(dR n.Bufs U S W 0 l).W)/\μ'=ckN b svL' svS' svP' n U' S' W':=
  zFg b svL svS svP n U S W l hn hU hS hW hl fun s hs=>zMw b n hn s (by have:=kL hs;have:=St.body_wt s;omega)
theorem zNs (n:Ns) (hn:n.Ok):
    Pur cfg 50 [vNs n] (.tup [vIs (bZ n).1,vI (bZ n).2]):=by
 refine zU Tryz.func50 O Tryz.ntmps50 Tryz.results50 O ?_
 intro z hz
 have hnb:=hn.body
 refine R O<|zV O O (qO O O) ?_
 rintro _ _ ⟨b1,rfl,rfl⟩
 refine zW O (yX 1 O O)<|G O<|zA<|zI<|R O<|zG O zEn<|zH zBm (Y 0 O) O<|qN O ok98 (zSd 40 n.Body 40 (by omega) (by omega) O) ⟨zB,O,zB,O,T⟩<|kP O<|zA<|zC O (fun c1=>?_) (fun c1=>?_)
 ·try simp only [sx] at c1
  refine R O<|zW O (yX 1 O O)<|G O<|zA<|zK<|fin2 (L O) (L O) ?_
  rw [zQz c1];rfl
 ·try simp only [sx] at c1
  refine zJ<|zI<|R O<|zG O zEn<|zH zBm (Y 0 O) O<|qN O ok99 (zLy n.Body 2000 2000 (by omega) (by omega) O) ⟨zB,O,zB,O,T⟩<|zW O (yG O O O)<|G O<|rL0 O (fun g3_4=>zD O zDh O) O<|A 16 O (fun g3_4=>zF O zHq O (Y 0 O) O) O<|A 17 O (fun g3_4=>yW O el22 O) O<|A 18 O (fun g3_4=>yG O O O) O<|r_or O (fun h=>(lzf h))<|zA<|zC O (fun c2=>?_) (fun c2=>?_)
  ·try simp only [sx] at c2
   refine R O<|zW O (yX 1 O O)<|G O<|zA<|zK<|fin2 (L O) (L O) ?_
   rw [validN_2 c1 (by omega)];rfl
  ·try simp only [sx] at c2
   have hnum:=numB_ok (l:=n.Body) (m:=2000) (by omega)
   refine zJ<|zI<|R O<|zG O zDh<|zH zHq (Y 0 O) O<|qN O ok100 (zIm n.Bufs hn.bufs hn.dims) ⟨zB,O,T⟩<|G O<|zA<|R O<|G O<|kU O<|zA<|zC O (fun c3=>?_) (fun c3=>?_)
   ·try simp only [sx] at c3
    refine R O<|G O<|zW O (yX 1 O O)<|G O<|zA<|zK<|fin2 (L O) (L O) ?_
    rw [validN_b c1 (by omega) c3];rfl
   ·try simp only [sx] at c3
    refine zJ<|R O<|zO zBi (Y 0 O) O<|yZ O zr159 pl159<|zV O O (qO O O) ?_
    rintro _ _ ⟨b2,rfl,rfl⟩
    refine qX _ (wV 9 1)<|qX _ (wV 9 1)<|qX _ (wV 3 1)<|G O<|zA<|zI<|R O<|G O<|zG O zEn<|zH zBm (Y 4 O) O<|zV O O (yE [3,2,1,0] O ok101 (ck_statements b2 _ _ _ n [] [] [] n.Body hn (by simp;omega) (by simp;omega) (by simp;omega) hnb) ⟨zB,O,zB,O,T⟩ O) ?_
    rintro _ _ ⟨_,⟨svL1,svS1,svP1,U1,S1,W1,rfl,hok,hno,rfl⟩,rfl⟩
    refine G O<|zA<|R O<|G O<|kU O<|zA<|zC O (fun c4=>?_) (fun c4=>?_)
    ·try simp only [sx] at c4
     have hW1:=hno c4
     subst hW1
     refine zT _ (wD 0 O (regs':=[]) (μ':=[_,_,_,_]) T ⟨EFle.refl _,EFle.refl _,EFle.row (ds:=[_,_,_,_,_]) ⟨.inl O,.inl O,.inl O,.inl O,.inr ⟨O,O⟩,T⟩,EFle.refl _,T⟩)<|R O<|G O<|qE O<|zG O zGw<|zH zCt (Y 2 O) O<|G O<|G O<|G O<|zA<|zK<|fin2 (L O) (L O) ?_
     rw [zPj c1 (by omega) c3]
    ·try simp only [sx] at c4
     refine zJ<|R O<|zW O (yX 1 O O)<|G O<|zA<|zK<|fin2 (L O) (L O) ?_
     rw [zPj c1 (by omega) c3,chkL_ok c4,c4];rfl
end Go.W
