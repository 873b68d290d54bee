/-
  What functions compute.
  Conditions: none.
-/
import Derived.Test.YtdldhbfgfkebjaaGreatDoorNA
set_option linter.unusedSimpArgs false
set_option linter.unusedVariables false
set_option maxRecDepth 10000
namespace Go.W
open Go Go.Eng Go.Proofs Go.L41 Go.Br
attribute [local irreducible] AWP RWP TD fP
abbrev ckN (b:Nat) (svL svS svP:Value) (n:Ns) (U S:List ByteArray) (W:List Int):List E:=
  [.row b 159 [.sl 8 (n.Bufs.map Bf.cells),.sl 20 (n.Body.map St.cells),.lit svL,.lit svS,.lit svP],.vec svL 9 1 (U.map fun s=>[cS s]),.vec svS 9 1 (S.map fun s=>[cS s]),.vec svP 3 1 (W.map fun i=>[cI i])]
abbrev vP (b:Nat):V:=.c (.lit (.pointer (some ⟨b,0,none⟩)))
theorem zAm:lK Tryz.prog 25=some 2:=by kernel_rfl
theorem zEi:lK Tryz.prog 59=some 20:=by kernel_rfl
theorem el28:dZ Tryz.prog 28=some (31,5,40):=by kernel_rfl
theorem zBs:bD Tryz.prog 25 1=some (1,23):=by kernel_rfl
theorem zBr:bD Tryz.prog 59 0=some (0,3):=by kernel_rfl
theorem zBq:bD Tryz.prog 59 1=some (1,9):=by kernel_rfl
theorem zIc:bD Tryz.prog 59 2=some (2,3):=by kernel_rfl
theorem zNg:bD Tryz.prog 59 3=some (3,3):=by kernel_rfl
theorem zPt:bD Tryz.prog 59 4=some (4,3):=by kernel_rfl
theorem zEz:bD Tryz.prog 59 5=some (5,51):=by kernel_rfl
theorem zBi:bD Tryz.prog 59 6=some (6,57):=by kernel_rfl
theorem zOu:bD Tryz.prog 159 0=some (0,25):=by kernel_rfl
theorem fd159_1:bD Tryz.prog 159 1=some (2,78):=by kernel_rfl
theorem zJh:bD Tryz.prog 159 2=some (3,78):=by kernel_rfl
theorem zHr:bD Tryz.prog 159 3=some (4,67):=by kernel_rfl
theorem ok100:bA Tryz.prog 100=true:=by kernel_rfl
theorem ok101:bA Tryz.prog 101=true:=by kernel_rfl
theorem ok108:bA Tryz.prog 108=true:=by kernel_rfl
theorem ok112:bA Tryz.prog 112=true:=by kernel_rfl
theorem ok143:bA Tryz.prog 143=true:=by kernel_rfl
theorem ok149:bA Tryz.prog 149=true:=by kernel_rfl
theorem ok151:bA Tryz.prog 151=true:=by kernel_rfl
theorem ok168:bA Tryz.prog 168=true:=by kernel_rfl
theorem ok169:bA Tryz.prog 169=true:=by kernel_rfl
theorem ok170:bA Tryz.prog 170=true:=by kernel_rfl
theorem ok172:bA Tryz.prog 172=true:=by kernel_rfl
theorem ok192:bA Tryz.prog 192=true:=by kernel_rfl
theorem ok193:bA Tryz.prog 193=true:=by kernel_rfl
theorem ok194:bA Tryz.prog 194=true:=by kernel_rfl
theorem ok195:bA Tryz.prog 195=true:=by kernel_rfl
theorem ok210:bA Tryz.prog 210=true:=by kernel_rfl
theorem ok214:bA Tryz.prog 214=true:=by kernel_rfl
theorem ok215:bA Tryz.prog 215=true:=by kernel_rfl
theorem ok248:bA Tryz.prog 248=true:=by kernel_rfl
theorem zPm:jK Tryz.prog 157=true:=by kernel_rfl
theorem pl57:dN Tryz.prog 57=some [(0,1),(1,1),(2,2),(4,5),(9,2),(11,1),(12,1)]:=by kernel_rfl
theorem pl159:dN Tryz.prog 159=some [(0,2),(2,1),(3,1),(4,1)]:=by kernel_rfl
theorem sz31:(Tryz.prog.info? 31).map (·.size)=some 5:=by kernel_rfl
theorem sz59:(Tryz.prog.info? 59).map (·.size)=some 20:=by kernel_rfl
theorem zr59:dL Tryz.prog 59=some [(Value.int IntKind.i64 0),(Value.string (ByteArray.mk #[])),(Value.int IntKind.i64 0),(Value.int IntKind.i64 0),(Value.int IntKind.i64 0),(Value.slice none 0 0),(Value.int IntKind.i64 0),(Value.string (ByteArray.mk #[])),(Value.int IntKind.i64 0),(Value.int IntKind.i64 0),(Value.int IntKind.i64 0),(Value.int IntKind.i64 0),(Value.int IntKind.i64 0),(Value.int IntKind.i64 0),(Value.int IntKind.i64 0),(Value.int IntKind.i64 0),(Value.slice none 0 0),(Value.slice none 0 0),(Value.slice none 0 0),(Value.slice none 0 0)]:=by kernel_rfl
theorem zr159:dL Tryz.prog 159=some [(Value.slice none 0 0),(Value.slice none 0 0),(Value.slice none 0 0),(Value.slice none 0 0),(Value.slice none 0 0)]:=by kernel_rfl
theorem zIf (l:List Mono) (c:C) (p:Mono->Bool) (μ:List E) (hl:l.length<=4294967296) (hc:∀x,x∈l->FnCon cfg c [mZ x] μ fun r μ'=>r=vB (p x)/\μ'=μ):
    Con cfg 180 [rW l,.c c] μ fun r μ'=>r=vI (gE p l)/\μ'=μ:=by
 refine zW Tryz.func180 O Tryz.ntmps180 Tryz.results180 O ?_
 intro z hz
 refine R O<|G O<|zA<|zF<|R O<|G O<|qD O el52<|G O<|zA<|zP<|zU ⟨[(8,.c _),(0,.c _),(1,.c _),(7,.c _)],_⟩ (Weak.regs ⟨zB,zB,zB,zB,T⟩)<|zBm 1 O (Nat) (fun k=>[(8,vI k)]) (fun k=>μ) (fun k=>k<=l.length/\((l.take k).any p=false)) (fun k=>l.length-k) ⟨0,⟨by omega,O⟩,Weak.regs ⟨zB,zB,zB,zB,T⟩⟩ ?_
 rintro k ⟨hk,hp⟩
 refine R O<|yC O<|zA<|zF<|zD O (fun c1=>?_) (fun c1=>?_)
 ·try simp only [sx] at c1
  obtain ⟨x,hx⟩:=qU l k (by omega)
  refine zI<|zF<|zP<|R O<|G O<|G O<|zA<|R O<|G O<|G O<|G O<|zY O el52 (by omega) (v (by assumption))<|zQ zKw zO O<|zS O O (zAa O O (hc _ (qE hx)) ⟨zB,O,T⟩) ?_
  exact j7
 ·try simp only [sx] at c1
  refine qK<|R O<|G O<|zA<|zN<|zV O ?_
  exact ⟨by rw [zCb (by rw [qX (by omega)] at hp;exact hp)],O⟩
theorem zFu (l:List Mono) (c:C) (p:Mono->Bool) (μ:List E) (hl:l.length<=4294967296) (hc:∀x,x∈l->FnCon cfg c [mZ x] μ fun r μ'=>r=vB (p x)/\μ'=μ):
    Con cfg 149 [rW l,.c c] μ fun r μ'=>r=vB (l.any p)/\μ'=μ:=by
 refine zW Tryz.func149 O Tryz.ntmps149 Tryz.results149 O ?_
 intro z hz
 refine R O<|G O<|zA<|R O<|G O<|G O<|zS O O (W O ok180 (zIf l c p μ hl hc) ⟨zB,O,zB,O,T⟩) ?_
 rintro _ _ ⟨rfl,rfl⟩
 refine zZ O (kY O O O)<|G O<|zA<|zN<|zV O ?_
 exact ⟨by rw [zDi],O⟩
theorem zKk (l:List Lf) (c:C) (p:Lf->Bool) (μ:List E) (hl:l.length<=4294967296) (hc:∀x,x∈l->FnCon cfg c [jU x] μ fun r μ'=>r=vB (p x)/\μ'=μ):
    Con cfg 151 [nQ l,.c c] μ fun r μ'=>r=vI (gE p l)/\μ'=μ:=by
 refine zW Tryz.func151 O Tryz.ntmps151 Tryz.results151 O ?_
 intro z hz
 refine R O<|G O<|zA<|zF<|R O<|G O<|qD O zAk<|G O<|zA<|zP<|zU ⟨[(8,.c _),(0,.c _),(1,.c _),(7,.c _)],_⟩ (Weak.regs ⟨zB,zB,zB,zB,T⟩)<|zBm 1 O (Nat) (fun k=>[(8,vI k)]) (fun k=>μ) (fun k=>k<=l.length/\((l.take k).any p=false)) (fun k=>l.length-k) ⟨0,⟨by omega,O⟩,Weak.regs ⟨zB,zB,zB,zB,T⟩⟩ ?_
 rintro k ⟨hk,hp⟩
 refine R O<|yC O<|zA<|zF<|zD O (fun c1=>?_) (fun c1=>?_)
 ·try simp only [sx] at c1
  obtain ⟨x,hx⟩:=qU l k (by omega)
  refine zI<|zF<|zP<|R O<|G O<|G O<|zA<|R O<|G O<|G O<|G O<|zY O zAk (by omega) (v (by assumption))<|zQ zAj zO O<|zS O O (zAa O O (hc _ (qE hx)) ⟨zB,O,T⟩) ?_
  exact j7
 ·try simp only [sx] at c1
  refine qK<|R O<|G O<|zA<|zN<|zV O ?_
  exact ⟨by rw [zCb (by rw [qX (by omega)] at hp;exact hp)],O⟩
theorem zHf (l:List Lf) (c:C) (p:Lf->Bool) (μ:List E) (hl:l.length<=4294967296) (hc:∀x,x∈l->FnCon cfg c [jU x] μ fun r μ'=>r=vB (p x)/\μ'=μ):
    Con cfg 108 [nQ l,.c c] μ fun r μ'=>r=vB (l.any p)/\μ'=μ:=by
 refine zW Tryz.func108 O Tryz.ntmps108 Tryz.results108 O ?_
 intro z hz
 refine R O<|G O<|zA<|R O<|G O<|G O<|zS O O (W O ok151 (zKk l c p μ hl hc) ⟨zB,O,zB,O,T⟩) ?_
 rintro _ _ ⟨rfl,rfl⟩
 refine zZ O (kY O O O)<|G O<|zA<|zN<|zV O ?_
 exact ⟨by rw [zDi],O⟩
theorem inScope_1 (b:Nat) (svL svS svP:Value) (n:Ns) (U S:List ByteArray) (W:List Int) (m:Mono) (hS:S.length<=1000000):
    Con cfg 248 [mZ m,.c (.iptr [.lit (.pointer (some ⟨b,0,none⟩))])] (ckN b svL svS svP n U S W) fun r μ'=>r=vB (!bR S m.Name)/\μ'=ckN b svL svS svP n U S W:=by
 refine zW Tryz.func248 O Tryz.ntmps248 Tryz.results248 O ?_
 intro z hz
 refine R O<|zS O O (qP O O) ?_
 rintro _ _ ⟨b1,rfl,rfl⟩
 refine G O<|zA<|zF<|qW 6 mixed (by kernel_rfl) O O<|zL O O (zC O zPm O zO O)<|zL O O (qL O O)<|zL O O (zH O zJh O)<|zL O O (zC O zEu O (A 1 O) O)<|zL O O (zH O zDk O)<|zL O O (zC O one9 O (A 0 O) O)<|yM<|zZ O (zCe 3 O ok165 O (zCw S m.Name (by omega)) O ⟨.inl ⟨O,O⟩,.inr ⟨zB,O⟩,T⟩)<|wE O<|G O<|zA<|zU _ (Weak.mem [false,true,true,true,true] O)<|zN<|zV O ?_
 exact ⟨O,O⟩
theorem zPe (b:Nat) (svL svS svP:Value) (n:Ns) (U S:List ByteArray) (W:List Int) (l:Lf) (hS:S.length<=1000000) (hl:l.L.length<=4294967296):
    Con cfg 214 [vP b,jU l] (ckN b svL svS svP n U S W) fun r μ'=>r=vB (jL S l)/\μ'=ckN b svL svS svP n U S W:=by
 refine zW Tryz.func214 O Tryz.ntmps214 Tryz.results214 O ?_
 intro z hz
 refine R O<|zS O O (qP O O) ?_
 rintro _ _ ⟨b1,rfl,rfl⟩
 refine qT _ (qM 0 O 2 _ PLe.ptr)<|zS O O (qP O O) ?_
 rintro _ _ ⟨b2,rfl,rfl⟩
 refine G O<|zA<|R O<|zJ O zAg<|zE zCj (A 0 O) O<|zZ O (zFr O O O O O)<|zZ O (qY [1,1,1,1] O ok149 (zFu l.L _ (fun m=> !bR S m.Name) (ckN b svL svS svP n U S W) hl (fun m _=>FnCon.of_con (first:=[]) (cap:=[.iptr [.lit (.pointer (some ⟨b,0,none⟩))]]) ok248 (inScope_1 b svL svS svP n U S W m hS))) ⟨zB,O,zB,O,T⟩ O)<|wE O<|G O<|zA<|zU _ (Weak.mem [false,true,true,true,true] O)<|zN<|zV O ?_
 exact ⟨by rw [zCl];rfl,O⟩
theorem node_1 (b:Nat) (svL svS svP:Value) (n:Ns) (U S:List ByteArray) (W:List Int) (l:Lf) (hS:S.length<=1000000) (hl:l.L.length<=4294967296):
    Con cfg 215 [jU l,.c (.iptr [.lit (.pointer (some ⟨b,0,none⟩))])] (ckN b svL svS svP n U S W) fun r μ'=>r=vB (!jL S l)/\μ'=ckN b svL svS svP n U S W:=by
 refine zW Tryz.func215 O Tryz.ntmps215 Tryz.results215 O ?_
 intro z hz
 refine R O<|zS O O (qP O O) ?_
 rintro _ _ ⟨b1,rfl,rfl⟩
 refine G O<|zA<|R O<|zE zPm zO O<|zQ zAj (A 0 O) O<|zZ O (qY [1,1,1,1] O ok214 (zPe b svL svS svP n U S W l hS hl) ⟨zB,O,zB,O,T⟩ O)<|wE O<|G O<|zA<|zU _ (Weak.mem [false,true,true,true,true] O)<|zN<|zV O ?_
 exact ⟨O,O⟩
theorem ck_node (b:Nat) (svL svS svP:Value) (n:Ns) (U S:List ByteArray) (W:List Int) (e:Ex) (hn:n.Ok) (hS:S.length<=1000000) (he:e.wt<=1073741824):
    Con cfg 194 [vP b,vE e] (ckN b svL svS svP n U S W) fun r μ'=>r=vI (gC n.Bufs S e)/\μ'=ckN b svL svS svP n U S W:=by
 refine zW Tryz.func194 O Tryz.ntmps194 Tryz.results194 O ?_
 intro z hz
 obtain ⟨hL,hI,hA⟩:=e.parts he
 have hwt:=Ex.wt_eq e
 refine R O<|zS O O (qP O O) ?_
 rintro _ _ ⟨b1,rfl,rfl⟩
 refine qT _ (qM 0 O 2 _ PLe.ptr)<|zS O O (qP O O) ?_
 rintro _ _ ⟨b2,rfl,rfl⟩
 refine G O<|zA<|R O<|zE zPm zO O<|zJ O zEd<|zQ zAj (A 0 O) O<|zZ O (qY [1,1,1,1] O ok214 (zPe b svL svS svP n U S W e.Lin hS (by omega)) ⟨zB,O,zB,O,T⟩ O)<|G O<|zA<|zF<|R O<|zJ O kQ<|zE wI (A 0 O) O<|qD O el51<|G O<|zA<|zP<|zU ⟨[(20,.c _),(5,.c _),(2,.c _),(3,.c _),(18,.c _),(19,.c _)],[_,_,_,_,_]⟩ (Weak.mk [true,true,true,true,true] ⟨zB,zB,zB,zB,zB,zB,T⟩ O) ?_
 refine qF 2 0 O O (Nat) (fun k=>[(20,vI k),(5,vB (jL S e.Lin&&(e.Idx.take k).all (vA S)))]) (fun k=>[]) (fun k=>k<=e.Idx.length) (fun k=>e.Idx.length-k) ⟨0,(by omega),Weak.mk [true,true,true,true,true] ⟨zB,VLe.of_eq (congrArg vB (by simp)),zB,zB,zB,zB,T⟩ O⟩ ?_
 rintro k hk
 refine R O<|yC O<|zA<|zF<|zD O (fun c1=>?_) (fun c1=>?_)
 ·try simp only [sx] at c1
  obtain ⟨x,hx⟩:=qU e.Idx k (by omega)
  refine zI<|zF<|zP<|R O<|zY O el51 (by omega) (v (by assumption))<|zQ zCr zO O<|zS O O (qQ [none,some 2,none,some 2] O zKx O) ?_
  rintro _ _ ⟨b3,rfl,rfl⟩
  refine Y 0 zOd O<|zA<|zK O<|G O<|G O<|rL0 O (fun g5_1=>zC O zPm O zO O) O<|rL0 O (fun g5_1=>zH O zBx O) O<|B 27 O (fun g5_1=>qC O zAj O (A 0 O) O) O<|rLz [(26,_),(28,_)] O gv1 ⟨O,O,O,O,T⟩ (fun g5_1=>qY [2,2,2,2] O ok214 (zPe b svL svS svP n U S W x.Lin hS (by have:=Ex.idx_wt (qE hx);omega)) ⟨zB,O,zB,O,T⟩ O) O<|yW O (fun h=>h)<|G O<|rL0 O (fun g5_7=>zH O wU O) O<|B 32 O (fun g5_7=>zC O zAx O (A 0 O) O) O<|rL0 O (fun g5_7=>zFr O O O O O) O<|rLz [(33,_),(34,_)] O gv1 ⟨O,O,O,O,T⟩ (fun g5_7=>qY [2,2,2,2] O ok108 (zHf x.At _ (fun l=> !jL S l) (ckN b svL svS svP n U S W) (by have:=Ex.idx_wt (qE hx);omega) (fun l hl=>FnCon.of_con (first:=[]) (cap:=[.iptr [.lit (.pointer (some ⟨b,0,none⟩))]]) ok215 (node_1 b svL svS svP n U S W l hS (by have:=Ex.idx_wt (qE hx);have:=zAy hl;omega)))) ⟨zB,O,zB,O,T⟩ O) O<|B 35 O (fun g5_7=>wJ O O) O<|yW O (fun h=>h)<|G O<|zA<|zK O<|qA O ⟨by omega,by omega⟩<|G O<|zA ?_
  refine ⟨k+1,(by omega),(by omega),Weak.mk [false,true,true,true,true,true] ⟨zB,VLe.of_eq (congrArg vB (by rw [zCl];exact scAll_next hx)),zB,zB,zB,zB,T⟩ O⟩
 ·try simp only [sx] at c1
  rw [qX (l:=e.Idx) (k:=k) (by omega)]
  refine qK<|zF<|R O<|G O<|wE O<|zA<|zD O (fun c2=>?_) (fun c2=>?_)
  ·have h9:gN S e=false:=(Bool.not_eq_true' _).mp c2
   refine R O<|G O<|zA<|zU _ (Weak.mem [false,true,true,true,true] O)<|zN<|zV O ?_
   exact ⟨by rw [nodeN_9 h9],O⟩
  ·have h9:gN S e=true:=(Bool.not_eq_false' _).mp c2
   refine zI<|zF<|R O<|zJ O kR<|zE one3 (A 0 O) O<|wA O<|zA<|zD O (fun c3=>?_) (fun c3=>?_)
   ·try simp only [sx] at c3
    refine R O<|G O<|zA<|zU _ (Weak.mem [false,true,true,true,true] O)<|zN<|zV O ?_
    exact ⟨by rw [nodeN_o h9 c3],O⟩
   ·try simp only [sx] at c3
    refine zI<|zF<|yL 12 1 [⟨0,.q []⟩,⟨1,.q []⟩,⟨2,.q []⟩,⟨3,.q [2]⟩,⟨4,.q []⟩,⟨5,.q [1]⟩,⟨6,.q []⟩,⟨7,.q []⟩,⟨8,.q []⟩,⟨9,.q []⟩,⟨10,.e 0 []⟩,⟨11,.e 0 []⟩] mixed (by kernel_rfl) (by kernel_rfl) O O O<|J O<|J O<|J O<|J O<|J O<|J O<|J O<|J O<|J O<|J O<|J O<|J O<|wQ<|zX O (by decide) O O (zC O zPm O zO O)<|zX O (by decide) O O (qL O O)<|zX O (by decide) O O (zH O zOu O)<|zX O (by decide) O O (qC O zAm O (A 0 O) O)<|zX O (by decide) O O (zH O zCo O)<|zX O (by decide) O O (zC O one9 O (A 0 O) O)<|zX O (by decide) O O (qR O ok112 (zAb n e.Name hn) ⟨zB,O,zB,O,T⟩)<|zX O (by decide) O O (yA O O)<|zX O (by decide) O O (kB O O O)<|zX O (by decide) O O (zBt O O O)<|zEs O O (by decide) O O (qQ [none,none,none,none,none,none,some 1,none] O zr69 O) ?_
    rintro _ _ ⟨b4,rfl,rfl⟩
    refine ⟨_,O,?_⟩
    refine zEj O O (by decide) O O (kN O sz69 O O O (zGd 0 O O)) ?_
    rintro _ _ ⟨rfl,rfl⟩
    refine ⟨_,O,?_⟩
    refine wP O<|G O<|zA<|zF<|R O<|G O<|wE O<|zA<|zD O (fun c4=>?_) (fun c4=>?_)
    ·try simp only [sx] at c4
     refine R O<|G O<|zA<|zU _ (Weak.mem [false,false,true,true,true,true] O)<|zN<|zV O ?_
     exact ⟨by rw [nodeN_n h9 (by omega) c4],O⟩
    ·try simp only [sx] at c4
     refine zI<|zF<|R O<|zJ O zCn<|zE zCy (A 0 O) O<|qD O el67<|zJ O kQ<|zE wI (A 1 O) O<|qD O el51<|wA O<|zA<|zD O (fun c5=>?_) (fun c5=>?_)
     ·try simp only [sx] at c5
      refine R O<|G O<|zA<|zU _ (Weak.mem [false,false,true,true,true,true] O)<|zN<|zV O ?_
      exact ⟨by rw [nodeN_r h9 (by omega) c4 (by omega)],O⟩
     ·try simp only [sx] at c5
      refine zI<|zF<|R O<|zJ O kQ<|zE wI (A 1 O) O<|qD O el51<|G O<|zA<|zP<|zU ⟨[(66,.c _),(2,.c _),(64,.c _),(65,.c _)],[_,_,_,_]⟩ (Weak.mk [false,false,true,true,true,true] ⟨zB,zB,zB,zB,T⟩ O)<|qF 1 0 O O (Nat) (fun j=>[(66,vI j)]) (fun j=>[]) (fun j=>j<=e.Idx.length/\(lT n.Bufs e.Idx=lT n.Bufs (e.Idx.drop j))) (fun j=>e.Idx.length-j) ⟨0,⟨by omega,O⟩,Weak.mk [true,true,true,true] ⟨zB,zB,zB,zB,T⟩ O⟩ ?_
      rintro j ⟨hk,hq⟩
      refine R O<|yC O<|zA<|zF<|zD O (fun c6=>?_) (fun c6=>?_)
      ·try simp only [sx] at c6
       obtain ⟨y,hy⟩:=qU e.Idx j (by omega)
       refine zI<|zF<|zP<|R O<|zY O el51 (by omega) (v (by assumption))<|zQ zCr zO O<|zS O O (qQ [none,some 2,none,some 2] O zKx O) ?_
       rintro _ _ ⟨b5,rfl,rfl⟩
       refine Y 0 zOd O<|zA<|zF<|R O<|zJ O wN<|zE one9 (A 0 O) O<|zZ O (kE O O O)<|zA<|zD O (fun c7=>?_) (fun c7=>?_)
       ·try simp only [sx] at c7
        refine qK<|zK O<|qA O ⟨by omega,by omega⟩<|G O<|zA ?_
        refine ⟨j+1,⟨by omega,hq.trans (zKa hy (by first|exact gathE_0 c7|exact zRa c7 c8 (by omega) (by omega)))⟩,(by omega),Weak.mk [false,true,true,true,true] ⟨zB,zB,zB,zB,T⟩ O⟩
       ·try simp only [sx] at c7
        refine zI<|zF<|yL 12 1 [⟨0,.q []⟩,⟨1,.q []⟩,⟨2,.q []⟩,⟨3,.q [2]⟩,⟨4,.q []⟩,⟨5,.q [1]⟩,⟨6,.q []⟩,⟨7,.q []⟩,⟨8,.q []⟩,⟨9,.q []⟩,⟨10,.e 0 []⟩,⟨11,.e 0 []⟩] mixed (by kernel_rfl) (by kernel_rfl) O O O<|J O<|J O<|J O<|J O<|J O<|J O<|J O<|J O<|J O<|J O<|J O<|J O<|wQ<|zX O (by decide) O O (zC O zPm O zO O)<|zX O (by decide) O O (qL O O)<|zX O (by decide) O O (zH O zOu O)<|zX O (by decide) O O (qC O zAm O (A 0 O) O)<|zX O (by decide) O O (zH O wN O)<|zX O (by decide) O O (zC O one9 O (A 0 O) O)<|zX O (by decide) O O (qR O ok112 (zAb n y.From hn) ⟨zB,O,zB,O,T⟩)<|zX O (by decide) O O (yA O O)<|zX O (by decide) O O (kB O O O)<|zX O (by decide) O O (zBt O O O)<|zEs O O (by decide) O O (qQ [none,none,none,none,none,none,some 1,none] O zr69 O) ?_
        rintro _ _ ⟨b6,rfl,rfl⟩
        refine ⟨_,O,?_⟩
        refine zEj O O (by decide) O O (kN O sz69 O O O (zGd 0 O O)) ?_
        rintro _ _ ⟨rfl,rfl⟩
        refine ⟨_,O,?_⟩
        refine wP O<|G O<|zA<|zP<|R O<|G O<|wE O<|G O<|zA<|zD O (fun c8=>?_) (fun c8=>?_)
        ·try simp only [sx] at c8
         refine R O<|G O<|zA<|zU _ (Weak.mem [false,false,true,true,true,true] O)<|zN<|zV O ?_
         exact ⟨by rw [zHl h9 (by omega) c4 (by omega),hq,zJz hy (by rw [zTl c7 c8];decide),zTl c7 c8],O⟩
        ·try simp only [sx] at c8
         refine R O<|zJ O zEy<|zJ O zGr<|zE one3 (A 0 O) O<|wA O<|G O<|zA<|zD O (fun c9=>?_) (fun c9=>?_)
         ·try simp only [sx] at c9
          refine R O<|G O<|zA<|zU _ (Weak.mem [false,false,true,true,true,true] O)<|zN<|zV O ?_
          exact ⟨by rw [zHl h9 (by omega) c4 (by omega),hq,zJz hy (by rw [zNd c7 c8 c9];decide),zNd c7 c8 c9],O⟩
         ·try simp only [sx] at c9
          refine R O<|zJ O zCn<|zE zCy (A 0 O) O<|qD O el67<|zJ O wU<|zE zAx (A 1 O) O<|qD O zAk<|wA O<|G O<|zA<|zD O (fun c10=>?_) (fun c10=>?_)
          ·try simp only [sx] at c10
           refine R O<|G O<|zA<|zU _ (Weak.mem [false,false,true,true,true,true] O)<|zN<|zV O ?_
           exact ⟨by rw [zHl h9 (by omega) c4 (by omega),hq,zJz hy (by rw [zNc c7 c8 c9 (by omega)];decide),zNc c7 c8 c9 (by omega)],O⟩
          ·try simp only [sx] at c10
           refine zI<|zK O<|qA O ⟨by omega,by omega⟩<|G O<|zA ?_
           refine ⟨j+1,⟨by omega,hq.trans (zKa hy (by first|exact gathE_0 c7|exact zRa c7 c8 (by omega) (by omega)))⟩,(by omega),Weak.mk [false,false,true,true,true,true] ⟨zB,zB,zB,zB,T⟩ O⟩
      ·try simp only [sx] at c6
       refine qK<|R O<|G O<|zA<|zN<|zV O ?_
       exact ⟨by rw [zHl h9 (by omega) c4 (by omega),hq,wG (by omega)];rfl,O⟩
theorem ck_typeOf_step (b:Nat) (svL svS svP:Value) (n:Ns) (U S:List ByteArray) (W:List Int) (hn:n.Ok) (e:Ex) (ih:∀a,a∈e.Args->fM a=0->a.wt<=1073741824->Con cfg 195 [vP b,vE a] (ckN b svL svS svP n U S W) fun r μ'=>r=.tup [vTy (dO (tyF n.Bufs) a).1,vI (dO (tyF n.Bufs) a).2]/\μ'=ckN b svL svS svP n U S W) (hpart:fM e=0) (he:e.wt<=1073741824):
    Con cfg 195 [vP b,vE e] (ckN b svL svS svP n U S W) fun r μ'=>r=.tup [vTy (dO (tyF n.Bufs) e).1,vI (dO (tyF n.Bufs) e).2]/\μ'=ckN b svL svS svP n U S W:=by
 refine Con.drop<|zW Tryz.func195 O Tryz.ntmps195 Tryz.results195 O ?_
 intro z hz
 obtain ⟨hLl,hIl,hAl⟩:=e.parts he
 have hwt:=Ex.wt_eq e
 refine R O<|zS O O (qP O O) ?_
 rintro _ _ ⟨b1,rfl,rfl⟩
 refine zS O O (yZ O zr31) ?_
 rintro _ _ ⟨b2,rfl,rfl⟩
 refine G O<|zA<|R O<|G O<|qT _ (kZ 31 5)<|zA<|zF<|R O<|zJ O yU<|zE kW (A 2 O) O<|qD O el55<|G O<|zA<|zP<|zU ⟨[(16,.c _),(6,.c _),(0,.c _),(3,.c _),(4,.c _),(14,.c _),(15,.c _)],[_,_,_,_,_,_,_]⟩ (Weak.mk [true,true,true,true,true,true,true] ⟨zB,zB,zB,zB,zB,zB,zB,T⟩ O)<|qF 2 1 O O (Nat×Value) (fun ⟨k,sv⟩=>[(16,vI k),(6,.c (.lit sv))]) (fun ⟨k,sv⟩=>[E.vec sv 31 5 ((bK (tyF n.Bufs) (e.Args.take k)).1.map tyC)]) (fun ⟨k,sv⟩=>k<=e.Args.length/\((bK (tyF n.Bufs) (e.Args.take k)).2=0)) (fun ⟨k,sv⟩=>e.Args.length-k) ⟨⟨0,(.slice none 0 0)⟩,⟨by omega,O⟩,Weak.mk [true,true,true,true,true,true,true] ⟨zB,zB,zB,zB,zB,zB,zB,T⟩ O⟩ ?_
 rintro ⟨k,sv⟩ ⟨hk,hp⟩
 show AWP _ _ _ _ _ ⟨[(16,vI k),(6,.c (.lit sv))]++_,[E.vec sv 31 5 ((bK (tyF n.Bufs) (e.Args.take k)).1.map tyC)]++_⟩
 refine R O<|yC O<|zA<|zF<|zD O (fun c1=>?_) (fun c1=>?_)
 ·try simp only [sx] at c1
  obtain ⟨x,hx⟩:=qU e.Args k (by omega)
  have hll:=zGj _ _ hp
  refine zI<|zF<|zP<|R O<|zY O el55 (by omega) (wF (by assumption))<|zQ yN zO O<|zS O O (qQ [none,none,none,none,none,none,none,none,none,none,some 2,some 4,some 13] O zr57 O) ?_
  rintro _ _ ⟨b4,rfl,rfl⟩
  refine Y 0 sz57 O<|zA<|R O<|G O<|zQ yN (A 0 O) O<|zZ O (qY [4,4,4,4] O ok195 (ih x (qE hx) (zMp hpart (qE hx)) (by have:=Ex.arg_wt (qE hx);omega)) ⟨zB,O,zB,O,T⟩ O)<|zZ O (yA O O)<|zZ O (kB O O O)<|kP O<|zS O O (yZ O zr31) ?_
  rintro _ _ ⟨b5,rfl,rfl⟩
  refine Y 0 sz31 O<|G O<|zA<|zF<|R O<|G O<|wA O<|zA<|zD O (fun c2=>?_) (fun c2=>?_)
  ·try simp only [sx] at c2
   refine R O<|zQ yG (A 0 O) O<|G O<|Y 3 sz31 O<|G O<|zA<|zU _ (Weak.mem [false,false,false,true,false,true,true,true,true] O)<|zN<|fin2 (qN yG O (A 0 O) O) (D O) ?_
   exact ⟨by rw [nodeT_no hx hp c2,nodeT_zero c2];rfl,[_],O⟩
  ·try simp only [sx] at c2
   refine zI<|zK O<|G O<|zQ yG (A 0 O) O<|zZ O (yJ O el28 zr31 O O O O)<|zS O O (yI 2 O el28 O O O (by simp only [List.length_map,List.length_cons,List.length_nil,hll,List.length_take];omega) (by simp only [List.length_map,List.length_cons,List.length_nil,hll,List.length_take];omega)) ?_
   rintro _ _ ⟨sv6,rfl,rfl⟩
   refine G O<|zA<|zK O<|qA O ⟨by omega,by omega⟩<|G O<|zA ?_
   refine ⟨⟨k+1,sv6⟩,⟨by omega,by rw [zEp hx hp c2]⟩,(by show e.Args.length-(k+1)<e.Args.length-k;omega),Weak.mk [false,false,true,true,true,true,true,true,true] ⟨zB,zB,zB,zB,zB,zB,zB,T⟩ (by show _=[E.vec sv6 _ 5 ((bK (tyF n.Bufs) (e.Args.take (k+1))).1.map tyC)]++_;rw [zEp hx hp c2];simp only [List.map_append];rfl)⟩
 ·try simp only [sx] at c1
  have hll:=zGj _ _ hp
  have hta:e.Args.take k=e.Args:=qX (by omega)
  rw [hta] at hll
  have hg:∀i,i<e.Args.length->((bK (tyF n.Bufs) (e.Args.take k)).1.map tyC)[i]? =some (tyC (dH (bK (tyF n.Bufs) (e.Args.take k)).1 i)):=fun i hi=>zJs (by rw [hta];omega)
  have hgn:∀i:Nat,1<=i->i<=e.Args.length->∀j:Int,j=(((bK (tyF n.Bufs) (e.Args.take k)).1.length:Int)-i)->((bK (tyF n.Bufs) (e.Args.take k)).1.map tyC)[j.toNat]? =some (tyC (dH (bK (tyF n.Bufs) (e.Args.take k)).1 ((bK (tyF n.Bufs) (e.Args.take k)).1.length-i))):=fun i h1 h2 j hj=>by rw [hta] at *;rw [show j.toNat=(bK (tyF n.Bufs) e.Args).1.length-i by omega];exact zJs (by omega)
  have hT:dO (tyF n.Bufs) e=tyF n.Bufs e (bK (tyF n.Bufs) (e.Args.take k)).1:=nodeT_ok hta hp
  have hlk:(bK (tyF n.Bufs) (e.Args.take k)).1.length=e.Args.length:=by rw [hta];exact hll
  refine qK<|zF<|R O<|zJ O kR<|zE one3 (A 2 O) O<|zA<|zP<|zF<|R O<|yE O<|G O<|zA<|zD O (fun c3=>?_) (fun c3=>?_)
  ·try simp only [sx] at c3
   refine zI<|zD O (fun c4=>?_) (fun c4=>?_)
   ·exact v30
   ·try simp only [sx] at c4
    refine R O<|yE O<|G O<|zA<|zD O (fun c5=>?_) (fun c5=>?_)
    ·try simp only [sx] at c5
     exact s9
    ·try simp only [sx] at c5
     refine R O<|yE O<|G O<|zA<|zD O (fun c6=>?_) (fun c6=>?_)
     ·try simp only [sx] at c6
      refine zF<|yL 12 1 [⟨0,.q []⟩,⟨1,.q []⟩,⟨2,.q []⟩,⟨3,.q [4]⟩,⟨4,.q []⟩,⟨5,.q [3]⟩,⟨6,.q []⟩,⟨7,.q []⟩,⟨8,.q []⟩,⟨9,.q []⟩,⟨10,.e 0 []⟩,⟨11,.e 0 []⟩] mixed (by kernel_rfl) (by kernel_rfl) O O O<|J O<|J O<|J O<|J O<|J O<|J O<|J O<|J O<|J O<|J O<|J O<|J O<|wQ<|zX O (by decide) O O (zM O O)<|zX O (by decide) O O (qL O O)<|zX O (by decide) O O (zH O zOu O)<|zX O (by decide) O O (qC O zAm O (A 0 O) O)<|zX O (by decide) O O (zH O zCo O)<|zX O (by decide) O O (zC O one9 O (A 0 O) O)<|zX O (by decide) O O (qR O ok112 (zAb n e.Name hn) ⟨zB,O,zB,O,T⟩)<|zX O (by decide) O O (yA O O)<|zX O (by decide) O O (kB O O O)<|zX O (by decide) O O (zBt O O O)<|zEs O O (by decide) O O (qQ [none,none,none,none,none,none,some 1,none] O zr69 O) ?_
      rintro _ _ ⟨b7,rfl,rfl⟩
      exact v10
     ·exact t7
  ·try simp only [sx] at c3
   refine zK O<|yE O<|G O<|zA<|zD O (fun c4=>?_) (fun c4=>?_)
   ·exact v30
   ·try simp only [sx] at c4
    refine R O<|yE O<|G O<|zA<|zD O (fun c5=>?_) (fun c5=>?_)
    ·try simp only [sx] at c5
     exact s9
    ·try simp only [sx] at c5
     refine R O<|yE O<|G O<|zA<|zD O (fun c6=>?_) (fun c6=>?_)
     ·try simp only [sx] at c6
      refine zF<|yL 12 1 [⟨0,.q []⟩,⟨1,.q []⟩,⟨2,.q []⟩,⟨3,.q [4]⟩,⟨4,.q []⟩,⟨5,.q [3]⟩,⟨6,.q []⟩,⟨7,.q []⟩,⟨8,.q []⟩,⟨9,.q []⟩,⟨10,.e 0 []⟩,⟨11,.e 0 []⟩] mixed (by kernel_rfl) (by kernel_rfl) O O O<|J O<|J O<|J O<|J O<|J O<|J O<|J O<|J O<|J O<|J O<|J O<|J O<|wQ<|zX O (by decide) O O (zM O O)<|zX O (by decide) O O (qL O O)<|zX O (by decide) O O (zH O zOu O)<|zX O (by decide) O O (qC O zAm O (A 0 O) O)<|zX O (by decide) O O (zH O zCo O)<|zX O (by decide) O O (zC O one9 O (A 0 O) O)<|zX O (by decide) O O (qR O ok112 (zAb n e.Name hn) ⟨zB,O,zB,O,T⟩)<|zX O (by decide) O O (yA O O)<|zX O (by decide) O O (kB O O O)<|zX O (by decide) O O (zBt O O O)<|zEs O O (by decide) O O (qQ [none,none,none,none,none,none,some 1,none] O zr69 O) ?_
      rintro _ _ ⟨b8,rfl,rfl⟩
      exact v10
     ·exact t7
theorem ck_typeOf (b:Nat) (svL svS svP:Value) (n:Ns) (U S:List ByteArray) (W:List Int)  (e:Ex) (hn:n.Ok) (hpart:fM e=0) (he:e.wt<=1073741824):Con cfg 195 [vP b,vE e] (ckN b svL svS svP n U S W) fun r μ'=>r=.tup [vTy (dO (tyF n.Bufs) e).1,vI (dO (tyF n.Bufs) e).2]/\μ'=ckN b svL svS svP n U S W:=by
  induction e using Ex.ind with
  |_ e ih=>exact ck_typeOf_step b svL svS svP n U S W hn e (fun a ha h1 h2=>ih a ha h1 h2) hpart he
theorem zHu (b:Nat) (svL svS svP:Value) (n:Ns) (U S:List ByteArray) (W:List Int) (e:Ex) (hn:n.Ok) (hS:S.length<=1000000) (he:e.wt<=1000000000):
    Con cfg 170 [vP b,vE e] (ckN b svL svS svP n U S W) fun r μ'=>r=.tup [vTy (dA n.Bufs S e).1,vI (dA n.Bufs S e).2]/\μ'=ckN b svL svS svP n U S W:=by
 refine Con.drop<|zW Tryz.func170 O Tryz.ntmps170 Tryz.results170 O ?_
 intro z hz
 refine R O<|zS O O (qP O O) ?_
 rintro _ _ ⟨b1,rfl,rfl⟩
 refine qT _ (qM 0 O 2 _ PLe.ptr)<|zS O O (qP O O) ?_
 rintro _ _ ⟨b2,rfl,rfl⟩
 refine zS O O (yZ O zr31) ?_
 rintro _ _ ⟨b3,rfl,rfl⟩
 refine zS O O (yZ O zr36) ?_
 rintro _ _ ⟨b4,rfl,rfl⟩
 refine zA<|zF<|R O<|zQ yN (A 2 O) O<|qS O ok193 (expr_Validate e (by omega)) ⟨zB,O,T⟩<|G O<|zA<|R O<|G O<|wA O<|zA<|zD O (fun c1=>?_) (fun c1=>?_)
 ·try simp only [sx] at c1
  refine R O<|yS O zr31 pl31<|G O<|Y 1 sz31 O<|Y 0 sz36 O<|zA<|zU _ (Weak.mem [true,true,false,true,true,true,true] O)<|zN<|fin2 (qN yG O (A 1 O) O) (wR zJa O (A 0 O) O) ?_
  exact ⟨by rw [exprT_1 c1];rfl,[_,_],O⟩
 ·try simp only [sx] at c1
  refine zI<|zF<|R O<|zQ yN (A 2 O) O<|qS O ok144 (zNh _) ⟨zB,O,T⟩<|zA<|zP<|zHw (ps:=[17]) hz 2 O O ok173 (zLs e (by omega)) (fun _ _=>O) O (fun pre=>bZ n.Bufs S pre=0) (fun pre=>[E.row b4 36 [cI 0],E.row b3 31 [cI 0,cI 0,cI 0,cI 0,cI 0]]) (fun c pre=>(c=.ret/\¬bZ n.Bufs S pre=0)) (fun c pre=>[E.row b4 36 [cI (bZ n.Bufs S pre)],E.row b3 31 [cI 0,cI 0,cI 0,cI 0,cI 0]]) ⟨O,O⟩ ?_ ?_ ?_ ?_
  ·intro pre x suf hxs hi z hz
   have hxw:x.wt<=e.wt:=zEv e x (by rw [hxs];simp)
   refine zK O<|zS O O (qQ [none,none,none,none,none,none,none,none,none,none,some 2,some 4,some 13] O zr57 O) ?_
   rintro _ _ ⟨b5,rfl,rfl⟩
   refine Y 0 sz57 O<|zA ?_
   intro z hz
   refine zP<|R O<|zE zPm zO O<|zQ yN (A 0 O) O<|zZ O (qY [4,4,4,4] O ok194 (ck_node b svL svS svP n U S W x hn hS (by omega)) ⟨zB,O,zB,O,T⟩ O)<|G O<|zA<|R O<|G O<|wA O<|zA<|zD O (fun c2=>?_) (fun c2=>?_)
   ·try simp only [sx] at c2
    refine R O<|yS O zr31 pl31<|G O<|Y 2 sz31 O<|Y 1 sz36 O<|zA<|zN ?_
    exact zCk (τ:=⟨[],_⟩) (Weak.mk [false,true,true,true,true,true,true,true] T O) ⟨⟨O,by rw [zOo hi];exact c2⟩,(by dsimp only;rw [zOo hi];rfl)⟩
   ·try simp only [sx] at c2
    refine zI ?_
    exact zCk (τ:=⟨[],_⟩) (Weak.mk [false,true,true,true,true,true,true,true] T O) ⟨(by dsimp only;rw [zOo hi];exact c2),O⟩
  ·intro hd
   refine R O<|zE zPm zO O<|zQ yN (A 2 O) O<|zZ O (qY [3,3,3,3] O ok195 (ck_typeOf b svL svS svP n U S W e hn (zJp c1) (by omega)) ⟨zB,O,zB,O,T⟩ O)<|zZ O (kB O O O)<|kP O<|Y 1 sz31 O<|Y 0 sz36 O<|zA<|zU _ (Weak.mem [true,true,false,true,true,true,true] O)<|zN<|fin2 (qN yG O (A 1 O) O) (wR zJa O (A 0 O) O) ?_
   exact ⟨by rw [exprT_3 c1 hd];rfl,[_,_],O⟩
  ·rintro pre x suf hxs hx
   rcases hx with ⟨hc,hx⟩
   clear hc
   repeat (first|refine zIn ?_|refine zGu ?_)
   refine fin2 (qN yG O (A 1 O) O) (wR zJa O (A 0 O) O) ?_
   exact ⟨by rw [exprT_2 c1 (by rw [hxs,nodesN_pre hx];exact hx),hxs,nodesN_pre (suf:=suf) hx];rfl,[_,_,_],O⟩
  ·rintro i pre x suf hxs hx
   rcases hx with ⟨hc,hx⟩
   cases hc
theorem ck_store (b:Nat) (svL svS svP:Value) (n:Ns) (U S:List ByteArray) (W:List Int) (s:St) (hn:n.Ok) (hS:S.length<=1000000) (hs:s.wt<=900000000):
    Con cfg 172 [vP b,vSt s] (ckN b svL svS svP n U S W) fun r μ'=>r=vI (gL n.Bufs S s)/\μ'=ckN b svL svS svP n U S W:=by
 refine zW Tryz.func172 O Tryz.ntmps172 Tryz.results172 O ?_
 intro z hz
 obtain ⟨hE,hI,hIw,hB,hBw⟩:=St.parts hs
 have hrd:=rdE_wt s
 refine R O<|zS O O (qP O O) ?_
 rintro _ _ ⟨b1,rfl,rfl⟩
 refine G O<|zA<|R O<|G O<|zJ O zBq<|zE one9 (A 0 O) O<|zJ O zEz<|zE wI (A 0 O) O<|zZ O (kT [none,none,none,none,none,none,none,none,none,none,some 2,none,some 13] O zr57 pl57 O O)<|zZ O (qY [1,1,1,1] O ok170 (zHu b svL svS svP n U S W (rdE s) hn hS (by omega)) ⟨zB,O,zB,O,T⟩ O)<|zZ O (yA O O)<|zZ O (kB O O O)<|kP O<|zS O O (yZ O zr31) ?_
 rintro _ _ ⟨b2,rfl,rfl⟩
 refine Y 0 sz31 O<|G O<|zA<|zF<|R O<|G O<|wA O<|zA<|zD O (fun c1=>?_) (fun c1=>?_)
 ·try simp only [sx] at c1
  refine R O<|G O<|G O<|zA<|zU _ (Weak.mem [false,false,true,true,true,true] O)<|zN<|zV O ?_
  exact ⟨by rw [storeE_1 c1],O⟩
 ·try simp only [sx] at c1
  have hT:=exprT_rd c1
  refine zI<|zF<|zF<|yL 12 1 [⟨0,.q []⟩,⟨1,.q []⟩,⟨2,.q []⟩,⟨3,.q [3]⟩,⟨4,.q []⟩,⟨5,.q [2]⟩,⟨6,.q []⟩,⟨7,.q []⟩,⟨8,.q []⟩,⟨9,.q []⟩,⟨10,.e 0 []⟩,⟨11,.e 0 []⟩] mixed (by kernel_rfl) (by kernel_rfl) O O O<|J O<|J O<|J O<|J O<|J O<|J O<|J O<|J O<|J O<|J O<|J O<|J O<|wQ<|zX O (by decide) O O (zM O O)<|zX O (by decide) O O (qL O O)<|zX O (by decide) O O (zH O zOu O)<|zX O (by decide) O O (qC O zAm O (A 0 O) O)<|zX O (by decide) O O (zH O zBq O)<|zX O (by decide) O O (zC O one9 O (A 0 O) O)<|zX O (by decide) O O (qR O ok112 (zAb n s.Name hn) ⟨zB,O,zB,O,T⟩)<|zX O (by decide) O O (yA O O)<|zX O (by decide) O O (kB O O O)<|zX O (by decide) O O (zBt O O O)<|zEs O O (by decide) O O (qQ [none,none,none,none,none,none,some 1,none] O zr69 O) ?_
  rintro _ _ ⟨b3,rfl,rfl⟩
  refine ⟨_,O,?_⟩
  refine zEj O O (by decide) O O (kN O sz69 O O O (zGd 0 O O)) ?_
  rintro _ _ ⟨rfl,rfl⟩
  refine ⟨_,O,?_⟩
  refine wP O<|G O<|zA<|R O<|zJ O zIb<|zE one3 (A 0 O) O<|yE O<|zA<|zD O (fun c2=>?_) (fun c2=>?_)
  ·try simp only [sx] at c2
   refine R O<|G O<|zA<|zU _ (Weak.mem [false,false,false,true,true,true,true] O)<|zN<|zV O ?_
   exact ⟨by rw [storeE_u c1 (.inl c2)],O⟩
  ·try simp only [sx] at c2
   refine zI<|zF<|R O<|zJ O zBr<|zE one3 (A 2 O) O<|yE O<|G O<|rL0 O (fun g7_3=>zH O zPt O) O<|B 40 O (fun g7_3=>zC O one3 O (A 2 O) O) O<|B 41 O (fun g7_3=>kM O O O) O<|B 42 O (fun g7_3=>zM O O) O<|rLz [] O N T (fun g7_7=>zH O zPt O) O<|rLz [(44,_)] O N ⟨O,O,T⟩ (fun g7_7=>zC O one3 O (A 2 O) O) O<|rLz [(45,_)] O N ⟨O,O,T⟩ (fun g7_7=>yH O O O) O<|B 43 O (fun g7_3=>zAq O O O O (fun h=>kO (by assumption) (lzf h))) O<|yW O (fun h=>h)<|zA<|zD O (fun c3=>?_) (fun c3=>?_)
   ·try simp only [sx] at c3
    refine R O<|G O<|zA<|zU _ (Weak.mem [false,false,false,true,true,true,true] O)<|zN<|zV O ?_
    exact ⟨by rw [storeE_u c1 (.inr c3)],O⟩
   ·try simp only [sx] at c3
    refine zI<|R O<|G O<|zJ O zBi<|zQ yN (A 2 O) O<|zZ O (qY [3,3,3,3] O ok170 (zHu b svL svS svP n U S W s.E hn hS (by omega)) ⟨zB,O,zB,O,T⟩ O)<|zZ O (yA O O)<|zZ O (kB O O O)<|kP O<|zS O O (yZ O zr31) ?_
    rintro _ _ ⟨b4,rfl,rfl⟩
    refine Y 0 sz31 O<|G O<|zA<|zF<|R O<|G O<|wA O<|zA<|zD O (fun c4=>?_) (fun c4=>?_)
    ·try simp only [sx] at c4
     refine R O<|G O<|G O<|zA<|zU _ (Weak.mem [false,false,false,false,true,true,true,true] O)<|zN<|zV O ?_
     exact ⟨by rw [storeE_2 c1 (by omega) c4],O⟩
    ·try simp only [sx] at c4
     refine zI<|zF<|R O<|zJ O zBi<|zQ yN (A 3 O) O<|qS O ok171 (wO s.E) ⟨zB,O,T⟩<|G O<|rL0 O (fun g12_3=>qC O yG O (A 0 O) O) O<|rL0 O (fun g12_3=>qC O yG O (A 2 O) O) O<|rLz [(63,_),(64,_)] O gv1 ⟨O,O,O,O,T⟩ (fun g12_3=>zAw O fl31 O O O) O<|r_or O (fun h=>(lzf h))<|zA<|zD O (fun c5=>?_) (fun c5=>?_)
     ·have h10:=st10_t c5
      rw [hT] at h10
      refine R O<|G O<|zA<|zU _ (Weak.mem [false,false,false,false,true,true,true,true] O)<|zN<|zV O ?_
      exact ⟨by rw [storeE_10 c1 (by omega) c4 h10],O⟩
     ·have h10:=st10_f c5
      rw [hT] at h10
      refine zI<|R O<|G O<|zA<|zU _ (Weak.mem [false,false,false,false,true,true,true,true] O)<|zN<|zV O ?_
      exact ⟨by rw [storeE_0 c1 (by omega) c4 h10],O⟩
theorem ck_loop (b:Nat) (svL svS svP:Value) (n:Ns) (U S:List ByteArray) (W:List Int) (s:St) (hn:n.Ok) (hU:U.length<=1000000):
    Con cfg 169 [vP b,vSt s] (ckN b svL svS svP n U S W) fun r μ'=>r=vI (mO n.Bufs U s)/\μ'=ckN b svL svS svP n U S W:=by
 refine zW Tryz.func169 O Tryz.ntmps169 Tryz.results169 O ?_
 intro z hz
 refine R O<|zS O O (qP O O) ?_
 rintro _ _ ⟨b1,rfl,rfl⟩
 refine G O<|zA<|zF<|R O<|zJ O zBq<|zE one9 (A 0 O) O<|qS O ok96 (zEb _) ⟨zB,O,T⟩<|wE O<|zA<|zD O (fun c1=>?_) (fun c1=>?_)
 ·try simp only [sx] at c1
  refine R O<|G O<|zA<|zU _ (Weak.mem [false,true,true,true,true] O)<|zN<|zV O ?_
  exact ⟨by rw [loopE_7 c1],O⟩
 ·try simp only [sx] at c1
  refine zI<|zF<|zF<|yL 12 1 [⟨0,.q []⟩,⟨1,.q []⟩,⟨2,.q []⟩,⟨3,.q [2]⟩,⟨4,.q []⟩,⟨5,.q [1]⟩,⟨6,.q []⟩,⟨7,.q []⟩,⟨8,.q []⟩,⟨9,.q []⟩,⟨10,.e 0 []⟩,⟨11,.e 0 []⟩] mixed (by kernel_rfl) (by kernel_rfl) O O O<|J O<|J O<|J O<|J O<|J O<|J O<|J O<|J O<|J O<|J O<|J O<|J O<|wQ<|zX O (by decide) O O (zM O O)<|zX O (by decide) O O (qL O O)<|zX O (by decide) O O (zH O zOu O)<|zX O (by decide) O O (qC O zAm O (A 0 O) O)<|zX O (by decide) O O (zH O zBq O)<|zX O (by decide) O O (zC O one9 O (A 0 O) O)<|zX O (by decide) O O (qR O ok112 (zAb n s.Name hn) ⟨zB,O,zB,O,T⟩)<|zX O (by decide) O O (yA O O)<|zX O (by decide) O O (kB O O O)<|zX O (by decide) O O (zBt O O O)<|zEs O O (by decide) O O (qQ [none,none,none,none,none,none,some 1,none] O zr69 O) ?_
  rintro _ _ ⟨b2,rfl,rfl⟩
  refine ⟨_,O,?_⟩
  refine zEj O O (by decide) O O (kN O sz69 O O O (zGd 0 O O)) ?_
  rintro _ _ ⟨rfl,rfl⟩
  refine ⟨_,O,?_⟩
  refine wP O<|G O<|zA<|zF<|qW 10 mixed (by kernel_rfl) O O<|zL O O (zM O O)<|zL O O (zM O O)<|qJ [] O O O O gv1 T (fun g4_1=>zM O O) O<|qJ [(23,_)] O O O O gv1 ⟨O,O,T⟩ (fun g4_1=>qL O O) O<|qJ [(24,_)] O O O O gv1 ⟨O,O,T⟩ (fun g4_1=>zH O fd159_1 O) O<|qJ [(25,_)] O O O O gv1 ⟨O,O,T⟩ (fun g4_1=>zC O zEu O (A 2 O) O) O<|qJ [] O O O O gv1 T (fun g4_1=>zH O zBq O) O<|qJ [(27,_)] O O O O gv1 ⟨O,O,T⟩ (fun g4_1=>zC O one9 O (A 1 O) O) O<|qJ [(26,_),(28,_)] O O O O gv1 ⟨O,O,O,O,T⟩ (fun g4_1=>zCe 3 O ok165 O (zCw U s.Name (by omega)) O ⟨.inl ⟨O,O⟩,.inr ⟨zB,O⟩,T⟩) O<|zL O O (zAq O O O O (fun h=>(lzf h)))<|yM<|zA<|zD O (fun c2=>?_) (fun c2=>?_)
  ·try simp only [sx] at c2
   refine R O<|G O<|zA<|zU _ (Weak.mem [false,false,true,true,true,true] O)<|zN<|zV O ?_
   exact ⟨by rw [loopE_8 c1 c2],O⟩
  ·try simp only [sx] at c2
   have h8:¬(bO n.Bufs s.Name=true∨bR U s.Name=true):=by rw [c2.1,c2.2];simp
   refine zI<|zF<|R O<|zJ O zIc<|zE one3 (A 1 O) O<|yC O<|G O<|rL0 O (fun g6_3=>zH O zIc O) O<|B 35 O (fun g6_3=>zC O one3 O (A 1 O) O) O<|B 36 O (fun g6_3=>yH O O O) O<|r_or O (fun h=>(lzf h))<|G O<|rL0 O (fun g6_8=>zH O zNg O) O<|B 40 O (fun g6_8=>zC O one3 O (A 1 O) O) O<|B 41 O (fun g6_8=>kM O O O) O<|r_or O (fun h=>(lzf h))<|G O<|rL0 O (fun g6_13=>zH O zNg O) O<|B 45 O (fun g6_13=>zC O one3 O (A 1 O) O) O<|B 46 O (fun g6_13=>yH O O O) O<|r_or O (fun h=>(lzf h))<|zA<|zD O (fun c3=>?_) (fun c3=>?_)
   ·try simp only [sx] at c3
    refine R O<|G O<|zA<|zU _ (Weak.mem [false,false,true,true,true,true] O)<|zN<|zV O ?_
    exact ⟨by rw [loopE_1 c1 h8 (by omega)],O⟩
   ·try simp only [sx] at c3
    refine zI<|R O<|G O<|zA<|zU _ (Weak.mem [false,false,true,true,true,true] O)<|zN<|zV O ?_
    exact ⟨by rw [loopE_0 c1 h8 (by omega)],O⟩
theorem zTc (e:Ex) (he:e.wt<=4294967296):
    Pur cfg 192 [vE e] (vB (rC e)):=by
 refine zW Tryz.func192 O Tryz.ntmps192 Tryz.results192 O ?_
 intro z hz
 refine R O<|zS O O (qP O O) ?_
 rintro _ _ ⟨b1,rfl,rfl⟩
 refine G O<|zA<|R O<|zQ yN (A 0 O) O<|zZ O (kT [none,none,none,none,none,none,none,none,none,none,some 2,some 4,some 13] O zr57 pl57 O O)<|qS O ok210 (expr_Same e zEx he (by decide)) ⟨zB,O,zB,O,T⟩<|G O<|zA<|zN<|zV O ?_
 exact O
theorem zTb (s:St) (hs:s.wt<=900000000):
    Pur cfg 168 [vSt s] (vB (fL s)):=by
 refine zW Tryz.func168 O Tryz.ntmps168 Tryz.results168 O ?_
 intro z hz
 obtain ⟨hE,hI,hIw,hB,hBw⟩:=St.parts hs
 refine R O<|zS O O (qP O O) ?_
 rintro _ _ ⟨b1,rfl,rfl⟩
 refine G O<|zA<|zF<|qW 17 mixed (by kernel_rfl) O O<|zL O O (zH O zBr O)<|zL O O (zC O one3 O (A 0 O) O)<|zL O O (kH O O O)<|zL O O (zH O zBr O)<|zL O O (zC O one3 O (A 0 O) O)<|zL O O (kH O O O)<|zL O O (zM O O)<|qJ [] O O O O gv1 T (fun g1_6=>zH O zBr O) O<|qJ [(13,_)] O O O O gv1 ⟨O,O,T⟩ (fun g1_6=>zC O one3 O (A 0 O) O) O<|qJ [(14,_)] O O O O gv1 ⟨O,O,T⟩ (fun g1_6=>kH O O O) O<|zL O O (zAq O O O O (fun h=>(lzf h)))<|zL O O (zH O zBr O)<|zL O O (zC O one3 O (A 0 O) O)<|zL O O (kH O O O)<|zL O O (yR O O)<|zL O O (yR O O)<|zL O O (yR O O)<|yM<|zA<|zF<|zP<|R O<|G O<|wE O<|G O<|rL0 O (fun g2_2=>zM O O) O<|B 24 O (fun g2_2=>wJ O O) O<|yW O (fun h=>h)<|G O<|rL0 O (fun g2_6=>zM O O) O<|B 28 O (fun g2_6=>wJ O O) O<|yW O (fun h=>h)<|G O<|zA<|zD O (fun c1=>?_) (fun c1=>?_)
 ·refine R O<|G O<|zA<|zN<|zV O ?_
  exact congrArg vB (syn_1 c1)
 ·refine R O<|G O<|G O<|rL0 O (fun g4_1=>zH O zBq O) O<|B 34 O (fun g4_1=>zC O one9 O (A 0 O) O) O<|B 35 O (fun g4_1=>zAv O O O) O<|yW O (fun h=>h)<|G O<|zA<|zD O (fun c2=>?_) (fun c2=>?_)
  ·refine R O<|G O<|zA<|zN<|zV O ?_
   exact congrArg vB (syn_2 c2)
  ·refine R O<|G O<|wE O<|G O<|rL0 O (fun g6_2=>zH O zIc O) O<|B 42 O (fun g6_2=>zC O one3 O (A 0 O) O) O<|B 43 O (fun g6_2=>zAi O O O) O<|B 44 O (fun g6_2=>zM O O) O<|rLz [] O N T (fun g6_6=>zH O zNg O) O<|rLz [(46,_)] O N ⟨O,O,T⟩ (fun g6_6=>zC O one3 O (A 0 O) O) O<|rLz [(47,_)] O N ⟨O,O,T⟩ (fun g6_6=>zAi O O O) O<|B 45 O (fun g6_2=>zAq O O O O (fun h=>kO (by assumption) (lzf h))) O<|yW O (fun h=>h)<|G O<|zA<|zD O (fun c3=>?_) (fun c3=>?_)
   ·refine R O<|G O<|zA<|zN<|zV O ?_
    exact congrArg vB (syn_3 c3)
   ·refine R O<|zJ O zBr<|zE one3 (A 0 O) O<|wA O<|G O<|rL0 O (fun g8_3=>zH O zPt O) O<|B 56 O (fun g8_3=>zC O one3 O (A 0 O) O) O<|B 57 O (fun g8_3=>zAi O O O) O<|yW O (fun h=>h)<|G O<|zA<|zD O (fun c4=>?_) (fun c4=>?_)
    ·refine R O<|G O<|zA<|zN<|zV O ?_
     exact congrArg vB (syn_4 c4)
    ·refine R O<|G O<|wE O<|G O<|rL0 O (fun g10_2=>zH O zEz O) O<|B 64 O (fun g10_2=>zC O wI O (A 0 O) O) O<|B 65 O (fun g10_2=>yV O el51 O) O<|B 66 O (fun g10_2=>yH O O O) O<|yW O (fun h=>h)<|G O<|zA<|zD O (fun c5=>?_) (fun c5=>?_)
     ·refine R O<|G O<|zA<|zN<|zV O ?_
      exact congrArg vB (syn_5 c5)
     ·refine R O<|G O<|G O<|rL0 O (fun g12_1=>zH O zBi O) O<|B 72 O (fun g12_1=>qC O yN O (A 0 O) O) O<|B 73 O (fun g12_1=>qR O ok192 (zTc s.E (by omega)) ⟨zB,O,T⟩) O<|B 74 O (fun g12_1=>wJ O O) O<|yW O (fun h=>h)<|G O<|zA<|zD O (fun c6=>?_) (fun c6=>?_)
      ·refine R O<|G O<|zA<|zN<|zV O ?_
       exact congrArg vB (syn_6 c6)
      ·refine zI<|R O<|G O<|wE O<|G O<|rL0 O (fun g14_2=>zH O zBb O) O<|B 80 O (fun g14_2=>zC O zAh O (A 0 O) O) O<|B 81 O (fun g14_2=>yV O el23 O) O<|B 82 O (fun g14_2=>kH O O O) O<|r_or O (fun h=>(lzf h))<|G O<|zA<|zN<|zV O ?_
       exact congrArg vB (syn_7 c1 c2 c3 c4 c5 c6)
theorem ck_statement (b:Nat) (svL svS svP:Value) (n:Ns) (U S:List ByteArray) (W:List Int) (s:St) (hn:n.Ok) (hS:S.length<=1000000) (hU:U.length<=1000000) (hs:s.wt<=900000000):
    Con cfg 143 [vP b,vSt s] (ckN b svL svS svP n U S W) fun r μ'=>r=vI (stE n.Bufs U S s)/\μ'=ckN b svL svS svP n U S W:=by
 refine zW Tryz.func143 O Tryz.ntmps143 Tryz.results143 O ?_
 intro z hz
 obtain ⟨hE,hI,hIw,hB,hBw⟩:=St.parts hs
 refine R O<|zS O O (qP O O) ?_
 rintro _ _ ⟨b1,rfl,rfl⟩
 refine G O<|zA<|zF<|R O<|zQ zEi (A 0 O) O<|qS O ok168 (zTb s hs) ⟨zB,O,T⟩<|wE O<|zA<|zD O (fun c1=>?_) (fun c1=>?_)
 ·try simp only [sx] at c1
  refine R O<|G O<|zA<|zU _ (Weak.mem [false,true,true,true,true] O)<|zN<|zV O ?_
  exact ⟨by rw [stE_5 c1],O⟩
 ·try simp only [sx] at c1
  refine zI<|zF<|R O<|zJ O zBr<|zE one3 (A 0 O) O<|zA<|zP<|R O<|yE O<|G O<|zA<|zD O (fun c2=>?_) (fun c2=>?_)
  ·try simp only [sx] at c2
   refine R O<|G O<|zQ zEi (A 0 O) O<|zZ O (qY [1,1,1,1] O ok169 (ck_loop b svL svS svP n U S W s hn hU) ⟨zB,O,zB,O,T⟩ O)<|G O<|zA<|zU _ (Weak.mem [false,true,true,true,true] O)<|zN<|zV O ?_
   exact ⟨by rw [stE_l c1 c2],O⟩
  ·try simp only [sx] at c2
   refine R O<|yE O<|G O<|zA<|zD O (fun c3=>?_) (fun c3=>?_)
   ·try simp only [sx] at c3
    refine zF<|R O<|G O<|zJ O zBi<|zQ yN (A 0 O) O<|zZ O (qY [1,1,1,1] O ok170 (zHu b svL svS svP n U S W s.E hn hS (by omega)) ⟨zB,O,zB,O,T⟩ O)<|zZ O (yA O O)<|zZ O (kB O O O)<|kP O<|zS O O (yZ O zr31) ?_
    rintro _ _ ⟨b2,rfl,rfl⟩
    refine Y 0 sz31 O<|G O<|zA<|R O<|G O<|wA O<|zA<|zD O (fun c4=>?_) (fun c4=>?_)
    ·try simp only [sx] at c4
     refine R O<|G O<|G O<|zA<|zU _ (Weak.mem [false,false,true,true,true,true] O)<|zN<|zV O ?_
     exact ⟨by rw [stE_i c1 c3,ifE_x c4],O⟩
    ·try simp only [sx] at c4
     refine zI<|zF<|R O<|zJ O zBi<|zQ yN (A 1 O) O<|qS O ok171 (wO s.E) ⟨zB,O,T⟩<|wE O<|zA<|zD O (fun c5=>?_) (fun c5=>?_)
     ·try simp only [sx] at c5
      refine R O<|G O<|zA<|zU _ (Weak.mem [false,false,true,true,true,true] O)<|zN<|zV O ?_
      exact ⟨by rw [stE_i c1 c3,ifE_10 c4 c5],O⟩
     ·try simp only [sx] at c5
      refine zI<|R O<|G O<|zA<|zU _ (Weak.mem [false,false,true,true,true,true] O)<|zN<|zV O ?_
      exact ⟨by rw [stE_i c1 c3,ifE_0 c4 c5],O⟩
   ·try simp only [sx] at c3
    refine zI<|R O<|G O<|zQ zEi (A 0 O) O<|zZ O (qY [1,1,1,1] O ok172 (ck_store b svL svS svP n U S W s hn hS hs) ⟨zB,O,zB,O,T⟩ O)<|G O<|zA<|zU _ (Weak.mem [false,true,true,true,true] O)<|zN<|zV O ?_
    exact ⟨by rw [stE_s c1 c2 c3],O⟩
set_option maxHeartbeats 2000000 in
theorem zFt (b:Nat) (svL svS svP:Value) (n:Ns) (U S:List ByteArray) (W:List Int) (l:List St) (hn:n.Ok) (hU:U.length+dJ l<=1000000) (hS:S.length+dJ l<=1000000) (hW:W.length+dJ l<=1000000) (hl:bE l<=536870912) (ih:∀s,s∈l->∀(svL svS svP:Value) (U S:List ByteArray) (W:List Int),U.length+dJ s.Body<=1000000->S.length+dJ s.Body<=1000000->W.length+dJ s.Body<=1000000->Con cfg 101 [vP b,dM s.Body] (ckN b svL svS svP n U S W) fun r μ'=>∃svL' svS' svP' U' S' W',r=vI (dV n.Bufs U S W 0 s.Body).E/\((dV n.Bufs U S W 0 s.Body).E=0->U'=(dV n.Bufs U S W 0 s.Body).U/\S'=S/\W'=W)/\(¬(dV n.Bufs U S W 0 s.Body).E=0->W'=(dV n.Bufs U S W 0 s.Body).W)/\μ'=ckN b svL' svS' svP' n U' S' W'):
    Con cfg 101 [vP b,dM l] (ckN b svL svS svP n U S W) fun r μ'=>∃svL' svS' svP' U' S' W',r=vI (dV n.Bufs U S W 0 l).E/\((dV n.Bufs U S W 0 l).E=0->U'=(dV n.Bufs U S W 0 l).U/\S'=S/\W'=W)/\(¬(dV n.Bufs U S W 0 l).E=0->W'=(dV n.Bufs U S W 0 l).W)/\μ'=ckN b svL' svS' svP' n U' S' W':=by
 refine zW Tryz.func101 O Tryz.ntmps101 Tryz.results101 O ?_
 intro z hz
 have hll:=wH l
 have hlN:=zEl l
 refine R O<|G O<|zA<|zF<|R O<|G O<|qD O el23<|G O<|zA<|zP<|zU ⟨[(12,.c _),(0,.c _),(1,.c _),(11,.c _)],[_,_,_,_]⟩ (Weak.mk [true,true,true,true] ⟨zB,zB,zB,zB,T⟩ O)<|qF 1 4 O O (Nat×Value×Value×Value×List ByteArray) (fun ⟨k,vL,vS,vP_,u⟩=>[(12,vI k)]) (fun ⟨k,vL,vS,vP_,u⟩=>[E.row b 159 [.sl 8 (n.Bufs.map Bf.cells),.sl 20 (n.Body.map St.cells),.lit vL,.lit vS,.lit vP_],E.vec vL 9 1 (u.map fun s=>[cS s]),E.vec vS 9 1 (S.map fun s=>[cS s]),E.vec vP_ 3 1 (W.map fun i=>[cI i])]) (fun ⟨k,vL,vS,vP_,u⟩=>k<=l.length/\(u.length+dJ (l.drop k)<=1000000)/\((dV n.Bufs U S W 0 l)=dV n.Bufs u S W k (l.drop k))) (fun ⟨k,vL,vS,vP_,u⟩=>l.length-k) ⟨⟨0,svL,svS,svP,U⟩,⟨by omega,by simpa using hU,O⟩,Weak.mk [true,true,true,true] ⟨zB,zB,zB,zB,T⟩ O⟩ ?_
 rintro ⟨k,vL,vS,vP_,u⟩ ⟨hk,hub,hp⟩
 show AWP _ _ _ _ _ ⟨[(12,vI k)]++_,[E.row b 159 [.sl 8 (n.Bufs.map Bf.cells),.sl 20 (n.Body.map St.cells),.lit vL,.lit vS,.lit vP_],E.vec vL 9 1 (u.map fun s=>[cS s]),E.vec vS 9 1 (S.map fun s=>[cS s]),E.vec vP_ 3 1 (W.map fun i=>[cI i])]++_⟩
 refine R O<|yC O<|zA<|zF<|zD O (fun c1=>?_) (fun c1=>?_)
 ·try simp only [sx] at c1
  obtain ⟨s,hs⟩:=qU l k (by omega)
  have hsw:=kC (qE hs)
  have hsb:=St.body_wt s
  have hsn:=stsN_drop hs
  have hse:=zPk s
  have hsm:=zQn (qE hs)
  have hcl:=chkS_len n.Bufs s u S (W++[(k:Int)])
  refine zI<|zF<|zP<|R O<|G O<|G O<|zA<|R O<|G O<|G O<|zY O el23 (by omega) (zCc (by assumption))<|zQ zEi zO O<|zS O O (qQ [none,none,none,none,none,some 4,none,none,none,none,none,none,none,none,none,none,some 2,some 4,some 13,some 20] O zr59 O) ?_
  rintro _ _ ⟨b1,rfl,rfl⟩
  refine Y 0 sz59 O<|zA<|R O<|G O<|G O<|qI O<|zJ O zHr<|zE zCy (A 1 O) O<|G O<|zZ O (yJ O el67 zr3 O O O O)<|zS O O (yI 4 O el67 O O O (by simp only [List.length_map,List.length_append,List.length_cons,List.length_nil];omega) (by simp only [List.length_map,List.length_append,List.length_cons,List.length_nil];omega)) ?_
  rintro _ _ ⟨sv2,rfl,rfl⟩
  refine qI O<|zJ O zHr<|Y 1 sz67 O<|zA<|zF<|zF<|zU _ (Weak.vecEq 4 O (rows':=(W++[(k:Int)]).map fun i=>[cI i]) (by first|rfl|simp|rw [List.take_of_length_le (by simp)]))<|zK O<|G O<|zQ zEi (A 0 O) O<|zZ O (qY [1,1,1,1] O ok143 (ck_statement b vL vS _ n u S (W++[(k:Int)]) s hn (by omega) (by omega) (by omega)) ⟨zB,O,zB,O,T⟩ O)<|G O<|zA<|R O<|G O<|wA O<|zA<|zD O (fun c2=>?_) (fun c2=>?_)
  ·try simp only [sx] at c2
   have hx0:=chkS_no (here:=W++[(k:Int)]) (B:=n.Bufs) (U:=u) (sc:=S) (s:=s) c2
   refine R O<|G O<|G O<|zA<|zU _ (Weak.mem [false,true,true,true,true] O)<|zN<|zV O ?_
   refine ⟨_,_,_,_,_,_,?_,fun h0=>?_,fun _=>?_,O⟩
   · rw [zEh hs hp (by rw [hx0];exact c2),hx0]
   · rw [zEh hs hp (by rw [hx0];exact c2),hx0] at h0;exact absurd h0 c2
   · rw [zEh hs hp (by rw [hx0];exact c2),hx0]
  ·try simp only [sx] at c2
   have hin:=chkS_in (here:=W++[(k:Int)]) (B:=n.Bufs) (U:=u) (sc:=S) (s:=s) c2
   refine zI<|R O<|G O<|qI O<|zJ O zJh<|zE zEu (A 1 O) O<|zZ O (yK 3 O el78 O O)<|G O<|zA<|zF<|R O<|zJ O zBr<|zE one3 (A 0 O) O<|yE O<|zA<|zD O (fun c3=>?_) (fun c3=>?_)
   ·try simp only [sx] at c3
    rw [zJc c3,zJc c3] at hin
    refine zF<|yL 9 0 [⟨0,.q []⟩,⟨1,.q []⟩,⟨2,.q []⟩,⟨3,.q []⟩,⟨4,.q [1]⟩,⟨5,.q []⟩,⟨6,.q [0]⟩,⟨7,.q []⟩,⟨8,.e 2 []⟩] mixed (by kernel_rfl) (by kernel_rfl) O O O<|J O<|J O<|J O<|J O<|J O<|J O<|J O<|J O<|J O<|wQ<|zX O (by decide) O O (zM O O)<|zX O (by decide) O O (zM O O)<|zX O (by decide) O O (qL O O)<|zX O (by decide) O O (zH O fd159_1 O)<|zX O (by decide) O O (zC O zEu O (A 0 O) O)<|zX O (by decide) O O (zH O zBq O)<|zX O (by decide) O O (zC O one9 O (A 0 O) O)<|zX O (by decide) O O (yJ O el78 zr9 O O O O)<|zEs O O (by decide) O O (yI 0 O el78 O O O (by simp only [List.length_map,List.length_append,List.length_cons,List.length_nil];omega) (by simp only [List.length_map,List.length_append,List.length_cons,List.length_nil];omega)) ?_
    rintro _ _ ⟨sv3,rfl,rfl⟩
    refine ⟨_,O,?_⟩
    refine wP O<|qI O<|zJ O fd159_1<|Y 1 sz78 O<|zA<|zU _ (Weak.vecEq 2 O (rows':=(u++[s.Name]).map fun s=>[cS s]) (by first|rfl|simp|rw [List.take_of_length_le (by simp)]))<|yL 9 0 [⟨0,.q []⟩,⟨1,.q []⟩,⟨2,.q []⟩,⟨3,.q []⟩,⟨4,.q [1]⟩,⟨5,.q []⟩,⟨6,.q [0]⟩,⟨7,.q []⟩,⟨8,.e 3 []⟩] mixed (by kernel_rfl) (by kernel_rfl) O O O<|J O<|J O<|J O<|J O<|J O<|J O<|J O<|J O<|J O<|wQ<|zX O (by decide) O O (zM O O)<|zX O (by decide) O O (zM O O)<|zX O (by decide) O O (qL O O)<|zX O (by decide) O O (zH O zJh O)<|zX O (by decide) O O (zC O zEu O (A 0 O) O)<|zX O (by decide) O O (zH O zBq O)<|zX O (by decide) O O (zC O one9 O (A 0 O) O)<|zX O (by decide) O O (yJ O el78 zr9 O O O O)<|zEs O O (by decide) O O (yI 0 O el78 O O O (by simp only [List.length_map,List.length_append,List.length_cons,List.length_nil];omega) (by simp only [List.length_map,List.length_append,List.length_cons,List.length_nil];omega)) ?_
    rintro _ _ ⟨sv4,rfl,rfl⟩
    refine ⟨_,O,?_⟩
    refine wP O<|qI O<|zJ O zJh<|Y 1 sz78 O<|zA<|zF<|zF<|zU _ (Weak.vecEq 3 O (rows':=(S++[s.Name]).map fun s=>[cS s]) (by first|rfl|simp|rw [List.take_of_length_le (by simp)]))<|zU ⟨_,E.row _ _ _::ckN b _ _ _ n (u++[s.Name]) (S++[s.Name]) (W++[(k:Int)])⟩ (Weak.mem [true,true,true,true,true] O)<|zK O<|G O<|zJ O zBb<|zE zAh (A 0 O) O<|zS O O (yF [1,1,1,1] O ok101 (ih s (qE hs) _ _ _ (u++[s.Name]) (S++[s.Name]) (W++[(k:Int)]) (by first|omega|(simp;omega)) (by first|omega|(simp;omega)) (by simp;omega)) ⟨zB,O,zB,O,T⟩ O) ?_
    rintro _ _ ⟨_,⟨svL1,svS1,svP1,U1,S1,W1,rfl,hok,hno,rfl⟩,rfl⟩
    refine G O<|zA<|R O<|G O<|wA O<|zA<|zD O (fun c4=>?_) (fun c4=>?_)
    ·exact v13
    ·try simp only [sx] at c4
     rw [←hin] at c4 hok
     obtain ⟨hU1,hS1,hW1⟩:=hok c4
     have hS2:=hS1.symm
     subst hU1 hS2 hW1
     refine zI<|R O<|G O<|G O<|qI O<|zJ O zJh<|zE zEu (A 1 O) O<|G O<|zS O O (zCx (k:=S.length) 3 O el78 O O O (by simp) (by simp)) ?_
     rintro _ _ ⟨sv5,rfl,rfl⟩
     refine qI O<|zJ O zJh<|Y 1 sz78 O<|zA<|zU _ (Weak.vecEq 3 O (rows':=S.map fun s=>[cS s]) (by first|rfl|simp|rw [List.take_of_length_le (by simp)]))<|yL 12 0 [⟨0,.q []⟩,⟨1,.q []⟩,⟨2,.q []⟩,⟨3,.q []⟩,⟨4,.q [1]⟩,⟨5,.q []⟩,⟨6,.q []⟩,⟨7,.q []⟩,⟨8,.q [1]⟩,⟨9,.q [4]⟩,⟨10,.q []⟩,⟨11,.e 4 []⟩] mixed (by kernel_rfl) (by kernel_rfl) O O O<|J O<|J O<|J O<|J O<|J O<|J O<|J O<|J O<|J O<|J O<|J O<|J O<|wQ<|zX O (by decide) O O (zM O O)<|zX O (by decide) O O (zM O O)<|zX O (by decide) O O (qL O O)<|zX O (by decide) O O (zH O zHr O)<|zX O (by decide) O O (zC O zCy O (A 0 O) O)<|zX O (by decide) O O (zM O O)<|zX O (by decide) O O (qL O O)<|zX O (by decide) O O (zH O zHr O)<|zX O (by decide) O O (zC O zCy O (A 0 O) O)<|zX O (by decide) O O (yK 0 O el67 O O)<|zX O (by decide) O O (kI O O O (by simp only [List.length_map,List.length_append,List.length_cons,List.length_nil];exact ⟨by omega,by omega⟩))<|zEs O O (by decide) O O (zCx (k:=W.length) 0 O el67 O O O (by simp only [List.length_map,List.length_append,List.length_cons,List.length_nil];omega) (by simp)) ?_
     rintro _ _ ⟨sv6,rfl,rfl⟩
     exact l9
   ·try simp only [sx] at c3
    rw [zMs c3,zMs c3] at hin
    refine zI<|zF<|zF<|zU ⟨_,E.row _ _ _::ckN b _ _ _ n u S (W++[(k:Int)])⟩ (Weak.mem [true,true,true,true,true] O)<|zK O<|G O<|zJ O zBb<|zE zAh (A 0 O) O<|zS O O (yF [1,1,1,1] O ok101 (ih s (qE hs) _ _ _ u S (W++[(k:Int)]) (by first|omega|(simp;omega)) (by first|omega|(simp;omega)) (by simp;omega)) ⟨zB,O,zB,O,T⟩ O) ?_
    rintro _ _ ⟨_,⟨svL1,svS1,svP1,U1,S1,W1,rfl,hok,hno,rfl⟩,rfl⟩
    refine G O<|zA<|R O<|G O<|wA O<|zA<|zD O (fun c4=>?_) (fun c4=>?_)
    ·exact v13
    ·try simp only [sx] at c4
     rw [←hin] at c4 hok
     obtain ⟨hU1,hS1,hW1⟩:=hok c4
     have hS2:=hS1.symm
     subst hU1 hS2 hW1
     refine zI<|R O<|G O<|G O<|qI O<|zJ O zJh<|zE zEu (A 1 O) O<|G O<|zS O O (zCx (k:=S.length) 3 O el78 O O O (by simp) (by simp)) ?_
     rintro _ _ ⟨sv7,rfl,rfl⟩
     refine qI O<|zJ O zJh<|Y 1 sz78 O<|zA<|zU _ (Weak.vecEq 3 O (rows':=S.map fun s=>[cS s]) (by first|rfl|simp|rw [List.take_of_length_le (by simp)]))<|yL 12 0 [⟨0,.q []⟩,⟨1,.q []⟩,⟨2,.q []⟩,⟨3,.q []⟩,⟨4,.q [1]⟩,⟨5,.q []⟩,⟨6,.q []⟩,⟨7,.q []⟩,⟨8,.q [1]⟩,⟨9,.q [4]⟩,⟨10,.q []⟩,⟨11,.e 4 []⟩] mixed (by kernel_rfl) (by kernel_rfl) O O O<|J O<|J O<|J O<|J O<|J O<|J O<|J O<|J O<|J O<|J O<|J O<|J O<|wQ<|zX O (by decide) O O (zM O O)<|zX O (by decide) O O (zM O O)<|zX O (by decide) O O (qL O O)<|zX O (by decide) O O (zH O zHr O)<|zX O (by decide) O O (zC O zCy O (A 0 O) O)<|zX O (by decide) O O (zM O O)<|zX O (by decide) O O (qL O O)<|zX O (by decide) O O (zH O zHr O)<|zX O (by decide) O O (zC O zCy O (A 0 O) O)<|zX O (by decide) O O (yK 0 O el67 O O)<|zX O (by decide) O O (kI O O O (by simp only [List.length_map,List.length_append,List.length_cons,List.length_nil];exact ⟨by omega,by omega⟩))<|zEs O O (by decide) O O (zCx (k:=W.length) 0 O el67 O O O (by simp only [List.length_map,List.length_append,List.length_cons,List.length_nil];omega) (by simp)) ?_
     rintro _ _ ⟨sv8,rfl,rfl⟩
     exact l9
 ·try simp only [sx] at c1
  refine qK<|R O<|G O<|zA<|zN<|zV O ?_
  refine ⟨_,_,_,_,_,_,?_,fun _=>⟨?_,O,O⟩,fun h0=>?_,O⟩
  · rw [zRh hp (by omega)]
  · rw [zRh hp (by omega)]
  · rw [zRh hp (by omega)] at h0;exact absurd rfl h0
theorem zNq (b:Nat) (n:Ns) (hn:n.Ok) (s:St) (hl:bE s.Body<=536870912):∀(svL svS svP:Value) (U S:List ByteArray) (W:List Int),U.length+dJ s.Body<=1000000->S.length+dJ s.Body<=1000000->W.length+dJ s.Body<=1000000->Con cfg 101 [vP b,dM s.Body] (ckN b svL svS svP n U S W) fun r μ'=>∃svL' svS' svP' U' S' W',r=vI (dV n.Bufs U S W 0 s.Body).E/\((dV n.Bufs U S W 0 s.Body).E=0->U'=(dV n.Bufs U S W 0 s.Body).U/\S'=S/\W'=W)/\(¬(dV n.Bufs U S W 0 s.Body).E=0->W'=(dV n.Bufs U S W 0 s.Body).W)/\μ'=ckN b svL' svS' svP' n U' S' W':=by
  induction s using St.ind with
  |_ s ih=>
    intro svL svS svP U S W hU hS hW
    refine zFt b svL svS svP n U S W s.Body hn hU hS hW hl fun a ha=>ih a ha ?_
    have:=kC ha;have:=St.body_wt a;omega
theorem ck_statements (b:Nat) (svL svS svP:Value) (n:Ns) (U S:List ByteArray) (W:List Int) (l:List St) (hn:n.Ok) (hU:U.length+dJ l<=1000000) (hS:S.length+dJ l<=1000000) (hW:W.length+dJ l<=1000000) (hl:bE l<=536870912):Con cfg 101 [vP b,dM l] (ckN b svL svS svP n U S W) fun r μ'=>∃svL' svS' svP' U' S' W',r=vI (dV n.Bufs U S W 0 l).E/\((dV n.Bufs U S W 0 l).E=0->U'=(dV n.Bufs U S W 0 l).U/\S'=S/\W'=W)/\(¬(dV n.Bufs U S W 0 l).E=0->W'=(dV n.Bufs U S W 0 l).W)/\μ'=ckN b svL' svS' svP' n U' S' W':=
  zFt b svL svS svP n U S W l hn hU hS hW hl fun s hs=>zNq b n hn s (by have:=kC hs;have:=St.body_wt s;omega)
theorem zOq (n:Ns) (hn:n.Ok):
    Pur cfg 50 [vNs n] (.tup [vIs (bY n).1,vI (bY n).2]):=by
 refine zW Tryz.func50 O Tryz.ntmps50 Tryz.results50 O ?_
 intro z hz
 have hnb:=hn.body
 refine R O<|zS O O (qP O O) ?_
 rintro _ _ ⟨b1,rfl,rfl⟩
 refine zZ O (yO 1 O O)<|G O<|zA<|zF<|R O<|zJ O zBs<|zE zAh (A 0 O) O<|qS O ok98 (zTa 40 n.Body 40 (by omega) (by omega) O) ⟨zB,O,zB,O,T⟩<|wE O<|zA<|zD O (fun c1=>?_) (fun c1=>?_)
 ·try simp only [sx] at c1
  refine R O<|zZ O (yO 1 O O)<|G O<|zA<|zN<|fin2 (D O) (D O) ?_
  rw [zRu c1];rfl
 ·try simp only [sx] at c1
  refine zI<|zF<|R O<|zJ O zBs<|zE zAh (A 0 O) O<|qS O ok99 (zMu n.Body 2000 2000 (by omega) (by omega) O) ⟨zB,O,zB,O,T⟩<|zZ O (yH O O O)<|G O<|rL0 O (fun g3_4=>zH O zAn O) O<|B 16 O (fun g3_4=>zC O zDg O (A 0 O) O) O<|B 17 O (fun g3_4=>yV O el22 O) O<|B 18 O (fun g3_4=>yH O O O) O<|r_or O (fun h=>(lzf h))<|zA<|zD O (fun c2=>?_) (fun c2=>?_)
  ·try simp only [sx] at c2
   refine R O<|zZ O (yO 1 O O)<|G O<|zA<|zN<|fin2 (D O) (D O) ?_
   rw [validN_2 c1 (by omega)];rfl
  ·try simp only [sx] at c2
   have hnum:=numB_ok (l:=n.Body) (m:=2000) (by omega)
   refine zI<|zF<|R O<|zJ O zAn<|zE zDg (A 0 O) O<|qS O ok100 (zJe n.Bufs hn.bufs hn.dims) ⟨zB,O,T⟩<|G O<|zA<|R O<|G O<|wA O<|zA<|zD O (fun c3=>?_) (fun c3=>?_)
   ·try simp only [sx] at c3
    refine R O<|G O<|zZ O (yO 1 O O)<|G O<|zA<|zN<|fin2 (D O) (D O) ?_
    rw [validN_b c1 (by omega) c3];rfl
   ·try simp only [sx] at c3
    refine zI<|R O<|zQ zAm (A 0 O) O<|yS O zr159 pl159<|zS O O (qP O O) ?_
    rintro _ _ ⟨b2,rfl,rfl⟩
    refine qT _ (kZ 9 1)<|qT _ (kZ 9 1)<|qT _ (kZ 3 1)<|G O<|zA<|zF<|R O<|G O<|zJ O zBs<|zE zAh (A 4 O) O<|zS O O (yF [3,2,1,0] O ok101 (ck_statements b2 _ _ _ n [] [] [] n.Body hn (by simp;omega) (by simp;omega) (by simp;omega) hnb) ⟨zB,O,zB,O,T⟩ O) ?_
    rintro _ _ ⟨_,⟨svL1,svS1,svP1,U1,S1,W1,rfl,hok,hno,rfl⟩,rfl⟩
    refine G O<|zA<|R O<|G O<|wA O<|zA<|zD O (fun c4=>?_) (fun c4=>?_)
    ·try simp only [sx] at c4
     have hW1:=hno c4
     subst hW1
     refine zU _ (yT 0 O (regs':=[]) (μ':=[_,_,_,_]) T ⟨EFle.refl _,EFle.refl _,EFle.row (ds:=[_,_,_,_,_]) ⟨.inl O,.inl O,.inl O,.inl O,.inr ⟨O,O⟩,T⟩,EFle.refl _,T⟩)<|R O<|G O<|qI O<|zJ O zHr<|zE zCy (A 2 O) O<|G O<|G O<|G O<|zA<|zN<|fin2 (D O) (D O) ?_
     rw [zQk c1 (by omega) c3]
    ·try simp only [sx] at c4
     refine zI<|R O<|zZ O (yO 1 O O)<|G O<|zA<|zN<|fin2 (D O) (D O) ?_
     rw [zQk c1 (by omega) c3,chkL_ok c4,c4];rfl
end Go.W
