/-
  Walks: what functions of the program compute. Printed by wip/gen/mk2.py.
  Conditions: none.
-/
import Derived.Test.YtdldhbfgfkebjaaGreatDoorNA
set_option linter.unusedSimpArgs false
set_option linter.unusedVariables false
set_option maxRecDepth 10000
namespace Go.W
open Go Go.Eng Go.Proofs Go.L41 Go.Br
attribute [local irreducible] AWP RWP TD finQ
abbrev ckN (b:Nat) (svL svS svP:Value) (n:Ns) (U S:List ByteArray) (W:List Int):List E:=
  [.row b 159 [.sl 8 (n.Bufs.map Bf.cells),.sl 20 (n.Body.map St.cells),.lit svL,.lit svS,.lit svP],.vec svL 9 1 (U.map fun s=>[cS s]),.vec svS 9 1 (S.map fun s=>[cS s]),.vec svP 3 1 (W.map fun i=>[cI i])]
abbrev vP (b:Nat):V:=.c (.lit (.pointer (some ⟨b,0,none⟩)))
theorem zFj:aggT Tryz.prog 25=some 2:=by kernel_rfl
theorem zHc:aggT Tryz.prog 59=some 20:=by kernel_rfl
theorem el28:elemT Tryz.prog 28=some (31,5,40):=by kernel_rfl
theorem zJh:fieldT Tryz.prog 25 1=some (1,23):=by kernel_rfl
theorem zEz:fieldT Tryz.prog 59 0=some (0,3):=by kernel_rfl
theorem zGa:fieldT Tryz.prog 59 1=some (1,9):=by kernel_rfl
theorem fd59_2:fieldT Tryz.prog 59 2=some (2,3):=by kernel_rfl
theorem fd59_3:fieldT Tryz.prog 59 3=some (3,3):=by kernel_rfl
theorem fd59_4:fieldT Tryz.prog 59 4=some (4,3):=by kernel_rfl
theorem zOf:fieldT Tryz.prog 59 5=some (5,51):=by kernel_rfl
theorem zEy:fieldT Tryz.prog 59 6=some (6,57):=by kernel_rfl
theorem zKl:fieldT Tryz.prog 159 0=some (0,25):=by kernel_rfl
theorem fd159_1:fieldT Tryz.prog 159 1=some (2,78):=by kernel_rfl
theorem zGc:fieldT Tryz.prog 159 2=some (3,78):=by kernel_rfl
theorem zEo:fieldT Tryz.prog 159 3=some (4,67):=by kernel_rfl
theorem ok100:callOk Tryz.prog 100=true:=by kernel_rfl
theorem ok101:callOk Tryz.prog 101=true:=by kernel_rfl
theorem ok108:callOk Tryz.prog 108=true:=by kernel_rfl
theorem ok112:callOk Tryz.prog 112=true:=by kernel_rfl
theorem ok143:callOk Tryz.prog 143=true:=by kernel_rfl
theorem ok149:callOk Tryz.prog 149=true:=by kernel_rfl
theorem ok151:callOk Tryz.prog 151=true:=by kernel_rfl
theorem ok168:callOk Tryz.prog 168=true:=by kernel_rfl
theorem ok169:callOk Tryz.prog 169=true:=by kernel_rfl
theorem ok170:callOk Tryz.prog 170=true:=by kernel_rfl
theorem ok172:callOk Tryz.prog 172=true:=by kernel_rfl
theorem ok192:callOk Tryz.prog 192=true:=by kernel_rfl
theorem ok193:callOk Tryz.prog 193=true:=by kernel_rfl
theorem ok194:callOk Tryz.prog 194=true:=by kernel_rfl
theorem ok195:callOk Tryz.prog 195=true:=by kernel_rfl
theorem ok210:callOk Tryz.prog 210=true:=by kernel_rfl
theorem ok214:callOk Tryz.prog 214=true:=by kernel_rfl
theorem ok215:callOk Tryz.prog 215=true:=by kernel_rfl
theorem ok248:callOk Tryz.prog 248=true:=by kernel_rfl
theorem zLh:oneT Tryz.prog 157=true:=by kernel_rfl
theorem pl57:placesT Tryz.prog 57=some [(0,1),(1,1),(2,2),(4,5),(9,2),(11,1),(12,1)]:=by kernel_rfl
theorem pl159:placesT Tryz.prog 159=some [(0,2),(2,1),(3,1),(4,1)]:=by kernel_rfl
theorem sz31:(Tryz.prog.info? 31).map (·.size)=some 5:=by kernel_rfl
theorem sz59:(Tryz.prog.info? 59).map (·.size)=some 20:=by kernel_rfl
theorem zr59:zeroT Tryz.prog 59=some [(Value.int IntKind.i64 0),(Value.string (ByteArray.mk #[])),(Value.int IntKind.i64 0),(Value.int IntKind.i64 0),(Value.int IntKind.i64 0),(Value.slice none 0 0),(Value.int IntKind.i64 0),(Value.string (ByteArray.mk #[])),(Value.int IntKind.i64 0),(Value.int IntKind.i64 0),(Value.int IntKind.i64 0),(Value.int IntKind.i64 0),(Value.int IntKind.i64 0),(Value.int IntKind.i64 0),(Value.int IntKind.i64 0),(Value.int IntKind.i64 0),(Value.slice none 0 0),(Value.slice none 0 0),(Value.slice none 0 0),(Value.slice none 0 0)]:=by kernel_rfl
theorem zr159:zeroT Tryz.prog 159=some [(Value.slice none 0 0),(Value.slice none 0 0),(Value.slice none 0 0),(Value.slice none 0 0),(Value.slice none 0 0)]:=by kernel_rfl
theorem zFd (l:List Mono) (c:C) (p:Mono->Bool) (μ:List E) (hl:l.length<=4294967296) (hc:∀x,x∈l->FnCon cfg c [vMono x] μ fun r μ'=>r=vB (p x)/\μ'=μ):
    Con cfg 180 [vMonos l,.c c] μ fun r μ'=>r=vI (idxOf p l)/\μ'=μ:=by
 refine zW Tryz.func180 O Tryz.ntmps180 Tryz.results180 O ?_
 intro z hz
 refine R O<|G O<|zA<|zF<|R O<|G O<|qH O el52<|G O<|zA<|zQ<|zS ⟨[(8,.c _),(0,.c _),(1,.c _),(7,.c _)],_⟩ (Weak.regs ⟨zB,zB,zB,zB,T⟩)<|zAg 1 O (Nat) (fun k=>[(8,vI k)]) (fun k=>μ) (fun k=>k<=l.length/\((l.take k).any p=false)) (fun k=>l.length-k) ⟨0,⟨by omega,O⟩,Weak.regs ⟨zB,zB,zB,zB,T⟩⟩ ?_
 rintro k ⟨hk,hp⟩
 refine R O<|yE O<|zA<|zF<|zC O (fun c1=>?_) (fun c1=>?_)
 ·try simp only [sx] at c1
  obtain ⟨x,hx⟩:=qX l k (by omega)
  refine zH<|zF<|zQ<|R O<|G O<|G O<|zA<|R O<|G O<|G O<|G O<|qI O el52 (by omega) (getm (by assumption))<|zP zLp Y O<|zU O O (wD O O (hc _ (qB hx)) ⟨zB,O,T⟩) ?_
  rintro _ _ ⟨rfl,rfl⟩
  refine zA<|zC O (fun c2=>?_) (fun c2=>?_)
  ·try simp only [sx] at c2
   refine R O<|G O<|G O<|zA<|zM<|zX O ?_
   exact ⟨by rw [zCq hx c2 hp],O⟩
  ·try simp only [sx] at c2
   refine zH<|zI O<|qD O ⟨by omega,by omega⟩<|G O<|zA ?_
   refine ⟨k+1,⟨by omega,zBz hx hp c2⟩,(by omega),Weak.regs ⟨zB,zB,zB,zB,T⟩⟩
 ·try simp only [sx] at c1
  refine qL<|R O<|G O<|zA<|zM<|zX O ?_
  exact ⟨by rw [zAx (by rw [yI (by omega)] at hp;exact hp)],O⟩
theorem zDp (l:List Mono) (c:C) (p:Mono->Bool) (μ:List E) (hl:l.length<=4294967296) (hc:∀x,x∈l->FnCon cfg c [vMono x] μ fun r μ'=>r=vB (p x)/\μ'=μ):
    Con cfg 149 [vMonos l,.c c] μ fun r μ'=>r=vB (l.any p)/\μ'=μ:=by
 refine zW Tryz.func149 O Tryz.ntmps149 Tryz.results149 O ?_
 intro z hz
 refine R O<|G O<|zA<|R O<|G O<|G O<|zU O O (zAv O ok180 (zFd l c p μ hl hc) ⟨zB,O,zB,O,T⟩) ?_
 rintro _ _ ⟨rfl,rfl⟩
 refine v O (wG O O O)<|G O<|zA<|zM<|zX O ?_
 exact ⟨by rw [zBu],O⟩
theorem zHa (l:List Lf) (c:C) (p:Lf->Bool) (μ:List E) (hl:l.length<=4294967296) (hc:∀x,x∈l->FnCon cfg c [vLin x] μ fun r μ'=>r=vB (p x)/\μ'=μ):
    Con cfg 151 [vLins l,.c c] μ fun r μ'=>r=vI (idxOf p l)/\μ'=μ:=by
 refine zW Tryz.func151 O Tryz.ntmps151 Tryz.results151 O ?_
 intro z hz
 refine R O<|G O<|zA<|zF<|R O<|G O<|qH O zDb<|G O<|zA<|zQ<|zS ⟨[(8,.c _),(0,.c _),(1,.c _),(7,.c _)],_⟩ (Weak.regs ⟨zB,zB,zB,zB,T⟩)<|zAg 1 O (Nat) (fun k=>[(8,vI k)]) (fun k=>μ) (fun k=>k<=l.length/\((l.take k).any p=false)) (fun k=>l.length-k) ⟨0,⟨by omega,O⟩,Weak.regs ⟨zB,zB,zB,zB,T⟩⟩ ?_
 rintro k ⟨hk,hp⟩
 refine R O<|yE O<|zA<|zF<|zC O (fun c1=>?_) (fun c1=>?_)
 ·try simp only [sx] at c1
  obtain ⟨x,hx⟩:=qX l k (by omega)
  refine zH<|zF<|zQ<|R O<|G O<|G O<|zA<|R O<|G O<|G O<|G O<|qI O zDb (by omega) (getm (by assumption))<|zP zCd Y O<|zU O O (wD O O (hc _ (qB hx)) ⟨zB,O,T⟩) ?_
  rintro _ _ ⟨rfl,rfl⟩
  refine zA<|zC O (fun c2=>?_) (fun c2=>?_)
  ·try simp only [sx] at c2
   refine R O<|G O<|G O<|zA<|zM<|zX O ?_
   exact ⟨by rw [zCq hx c2 hp],O⟩
  ·try simp only [sx] at c2
   refine zH<|zI O<|qD O ⟨by omega,by omega⟩<|G O<|zA ?_
   refine ⟨k+1,⟨by omega,zBz hx hp c2⟩,(by omega),Weak.regs ⟨zB,zB,zB,zB,T⟩⟩
 ·try simp only [sx] at c1
  refine qL<|R O<|G O<|zA<|zM<|zX O ?_
  exact ⟨by rw [zAx (by rw [yI (by omega)] at hp;exact hp)],O⟩
theorem zEf (l:List Lf) (c:C) (p:Lf->Bool) (μ:List E) (hl:l.length<=4294967296) (hc:∀x,x∈l->FnCon cfg c [vLin x] μ fun r μ'=>r=vB (p x)/\μ'=μ):
    Con cfg 108 [vLins l,.c c] μ fun r μ'=>r=vB (l.any p)/\μ'=μ:=by
 refine zW Tryz.func108 O Tryz.ntmps108 Tryz.results108 O ?_
 intro z hz
 refine R O<|G O<|zA<|R O<|G O<|G O<|zU O O (zAv O ok151 (zHa l c p μ hl hc) ⟨zB,O,zB,O,T⟩) ?_
 rintro _ _ ⟨rfl,rfl⟩
 refine v O (wG O O O)<|G O<|zA<|zM<|zX O ?_
 exact ⟨by rw [zBu],O⟩
theorem inScope_1 (b:Nat) (svL svS svP:Value) (n:Ns) (U S:List ByteArray) (W:List Int) (m:Mono) (hS:S.length<=1000000):
    Con cfg 248 [vMono m,.c (.iptr [.lit (.pointer (some ⟨b,0,none⟩))])] (ckN b svL svS svP n U S W) fun r μ'=>r=vB (!hasB S m.Name)/\μ'=ckN b svL svS svP n U S W:=by
 refine zW Tryz.func248 O Tryz.ntmps248 Tryz.results248 O ?_
 intro z hz
 refine R O<|zU O O (qT O O) ?_
 rintro _ _ ⟨b1,rfl,rfl⟩
 refine G O<|zA<|zF<|qU 6 mixed (by kernel_rfl) O O<|zE O O (zD O zLh O Y O)<|zE O O (qF O O)<|zE O O (zJ O zGc O)<|zE O O (zD O zHx O (A 1 O) O)<|zE O O (zJ O zEn O)<|zE O O (zD O one9 O (A 0 O) O)<|yM<|v O (zBx 3 O ok165 O (zBp S m.Name (by omega)) O ⟨.inl ⟨O,O⟩,.inr ⟨zB,O⟩,T⟩)<|wK O<|G O<|zA<|zS _ (Weak.mem [false,true,true,true,true] O)<|zM<|zX O ?_
 exact ⟨O,O⟩
theorem zKt (b:Nat) (svL svS svP:Value) (n:Ns) (U S:List ByteArray) (W:List Int) (l:Lf) (hS:S.length<=1000000) (hl:l.L.length<=4294967296):
    Con cfg 214 [vP b,vLin l] (ckN b svL svS svP n U S W) fun r μ'=>r=vB (inSc S l)/\μ'=ckN b svL svS svP n U S W:=by
 refine zW Tryz.func214 O Tryz.ntmps214 Tryz.results214 O ?_
 intro z hz
 refine R O<|zU O O (qT O O) ?_
 rintro _ _ ⟨b1,rfl,rfl⟩
 refine qS _ (qK 0 O 2 _ PLe.ptr)<|zU O O (qT O O) ?_
 rintro _ _ ⟨b2,rfl,rfl⟩
 refine G O<|zA<|R O<|zN O zGb<|zL zNk (A 0 O) O<|v O (zDk O O O O O)<|v O (yD [1,1,1,1] O ok149 (zDp l.L _ (fun m=> !hasB S m.Name) (ckN b svL svS svP n U S W) hl (fun m _=>FnCon.of_con (first:=[]) (cap:=[.iptr [.lit (.pointer (some ⟨b,0,none⟩))]]) ok248 (inScope_1 b svL svS svP n U S W m hS))) ⟨zB,O,zB,O,T⟩ O)<|wK O<|G O<|zA<|zS _ (Weak.mem [false,true,true,true,true] O)<|zM<|zX O ?_
 exact ⟨by rw [zBg];rfl,O⟩
theorem node_1 (b:Nat) (svL svS svP:Value) (n:Ns) (U S:List ByteArray) (W:List Int) (l:Lf) (hS:S.length<=1000000) (hl:l.L.length<=4294967296):
    Con cfg 215 [vLin l,.c (.iptr [.lit (.pointer (some ⟨b,0,none⟩))])] (ckN b svL svS svP n U S W) fun r μ'=>r=vB (!inSc S l)/\μ'=ckN b svL svS svP n U S W:=by
 refine zW Tryz.func215 O Tryz.ntmps215 Tryz.results215 O ?_
 intro z hz
 refine R O<|zU O O (qT O O) ?_
 rintro _ _ ⟨b1,rfl,rfl⟩
 refine G O<|zA<|R O<|zL zLh Y O<|zP zCd (A 0 O) O<|v O (yD [1,1,1,1] O ok214 (zKt b svL svS svP n U S W l hS hl) ⟨zB,O,zB,O,T⟩ O)<|wK O<|G O<|zA<|zS _ (Weak.mem [false,true,true,true,true] O)<|zM<|zX O ?_
 exact ⟨O,O⟩
theorem ck_node (b:Nat) (svL svS svP:Value) (n:Ns) (U S:List ByteArray) (W:List Int) (e:Ex) (hn:n.Ok) (hS:S.length<=1000000) (he:e.wt<=1073741824):
    Con cfg 194 [vP b,vE e] (ckN b svL svS svP n U S W) fun r μ'=>r=vI (nodeN n.Bufs S e)/\μ'=ckN b svL svS svP n U S W:=by
 refine zW Tryz.func194 O Tryz.ntmps194 Tryz.results194 O ?_
 intro z hz
 obtain ⟨hL,hI,hA⟩:=e.parts he
 have hwt:=Ex.wt_eq e
 refine R O<|zU O O (qT O O) ?_
 rintro _ _ ⟨b1,rfl,rfl⟩
 refine qS _ (qK 0 O 2 _ PLe.ptr)<|zU O O (qT O O) ?_
 rintro _ _ ⟨b2,rfl,rfl⟩
 refine G O<|zA<|R O<|zL zLh Y O<|zN O zLk<|zP zCd (A 0 O) O<|v O (yD [1,1,1,1] O ok214 (zKt b svL svS svP n U S W e.Lin hS (by omega)) ⟨zB,O,zB,O,T⟩ O)<|G O<|zA<|zF<|R O<|zN O zBk<|zL zCa (A 0 O) O<|qH O el51<|G O<|zA<|zQ<|zS ⟨[(20,.c _),(5,.c _),(2,.c _),(3,.c _),(18,.c _),(19,.c _)],[_,_,_,_,_]⟩ (Weak.mk [true,true,true,true,true] ⟨zB,zB,zB,zB,zB,zB,T⟩ O) ?_
 refine qJ 2 0 O O (Nat) (fun k=>[(20,vI k),(5,vB (inSc S e.Lin&&(e.Idx.take k).all (ixSc S)))]) (fun k=>[]) (fun k=>k<=e.Idx.length) (fun k=>e.Idx.length-k) ⟨0,(by omega),Weak.mk [true,true,true,true,true] ⟨zB,VLe.of_eq (congrArg vB (by simp)),zB,zB,zB,zB,T⟩ O⟩ ?_
 rintro k hk
 refine R O<|yE O<|zA<|zF<|zC O (fun c1=>?_) (fun c1=>?_)
 ·try simp only [sx] at c1
  obtain ⟨x,hx⟩:=qX e.Idx k (by omega)
  refine zH<|zF<|zQ<|R O<|qI O el51 (by omega) (getm (by assumption))<|zP zCo Y O<|zU O O (qR [none,some 2,none,some 2] O zMo O) ?_
  rintro _ _ ⟨b3,rfl,rfl⟩
  refine D 0 zMx O<|zA<|zI O<|G O<|G O<|rL0 O (fun g5_1=>zD O zLh O Y O) O<|rL0 O (fun g5_1=>zJ O zGd O) O<|B 27 O (fun g5_1=>qG O zCd O (A 0 O) O) O<|rLz [(26,_),(28,_)] O gv1 ⟨O,O,O,O,T⟩ (fun g5_1=>yD [2,2,2,2] O ok214 (zKt b svL svS svP n U S W x.Lin hS (by have:=Ex.idx_wt (qB hx);omega)) ⟨zB,O,zB,O,T⟩ O) O<|kE O (fun h=>h)<|G O<|rL0 O (fun g5_7=>zJ O zCk O) O<|B 32 O (fun g5_7=>zD O zEw O (A 0 O) O) O<|rL0 O (fun g5_7=>zDk O O O O O) O<|rLz [(33,_),(34,_)] O gv1 ⟨O,O,O,O,T⟩ (fun g5_7=>yD [2,2,2,2] O ok108 (zEf x.At _ (fun l=> !inSc S l) (ckN b svL svS svP n U S W) (by have:=Ex.idx_wt (qB hx);omega) (fun l hl=>FnCon.of_con (first:=[]) (cap:=[.iptr [.lit (.pointer (some ⟨b,0,none⟩))]]) ok215 (node_1 b svL svS svP n U S W l hS (by have:=Ex.idx_wt (qB hx);have:=zCu hl;omega)))) ⟨zB,O,zB,O,T⟩ O) O<|B 35 O (fun g5_7=>wR O O) O<|kE O (fun h=>h)<|G O<|zA<|zI O<|qD O ⟨by omega,by omega⟩<|G O<|zA ?_
  refine ⟨k+1,(by omega),(by omega),Weak.mk [false,true,true,true,true,true] ⟨zB,VLe.of_eq (congrArg vB (by rw [zBg];exact scAll_next hx)),zB,zB,zB,zB,T⟩ O⟩
 ·try simp only [sx] at c1
  rw [yI (l:=e.Idx) (k:=k) (by omega)]
  refine qL<|zF<|R O<|G O<|wK O<|zA<|zC O (fun c2=>?_) (fun c2=>?_)
  ·have h9:nodeSc S e=false:=(Bool.not_eq_true' _).mp c2
   refine R O<|G O<|zA<|zS _ (Weak.mem [false,true,true,true,true] O)<|zM<|zX O ?_
   exact ⟨by rw [nodeN_9 h9],O⟩
  ·have h9:nodeSc S e=true:=(Bool.not_eq_false' _).mp c2
   refine zH<|zF<|R O<|zN O wY<|zL one3 (A 0 O) O<|wL O<|zA<|zC O (fun c3=>?_) (fun c3=>?_)
   ·try simp only [sx] at c3
    refine R O<|G O<|zA<|zS _ (Weak.mem [false,true,true,true,true] O)<|zM<|zX O ?_
    exact ⟨by rw [nodeN_o h9 c3],O⟩
   ·try simp only [sx] at c3
    refine zH<|zF<|yN 12 1 [⟨0,.q []⟩,⟨1,.q []⟩,⟨2,.q []⟩,⟨3,.q [2]⟩,⟨4,.q []⟩,⟨5,.q [1]⟩,⟨6,.q []⟩,⟨7,.q []⟩,⟨8,.q []⟩,⟨9,.q []⟩,⟨10,.e 0 []⟩,⟨11,.e 0 []⟩] mixed (by kernel_rfl) (by kernel_rfl) O O O<|N O<|N O<|N O<|N O<|N O<|N O<|N O<|N O<|N O<|N O<|N O<|N O<|wX<|J O (by decide) O O (zD O zLh O Y O)<|J O (by decide) O O (qF O O)<|J O (by decide) O O (zJ O zKl O)<|J O (by decide) O O (qG O zFj O (A 0 O) O)<|J O (by decide) O O (zJ O zHl O)<|J O (by decide) O O (zD O one9 O (A 0 O) O)<|J O (by decide) O O (qY O ok112 (wE n e.Name hn) ⟨zB,O,zB,O,T⟩)<|J O (by decide) O O (yW O O)<|J O (by decide) O O (kV O O O)<|J O (by decide) O O (kO O O O)<|zIm O O (by decide) O O (qR [none,none,none,none,none,none,some 1,none] O zr69 O) ?_
    rintro _ _ ⟨b4,rfl,rfl⟩
    refine ⟨_,O,?_⟩
    refine zCl O O (by decide) O O (yY O sz69 O O O (zIk 0 O O)) ?_
    rintro _ _ ⟨rfl,rfl⟩
    refine ⟨_,O,?_⟩
    refine wV O<|G O<|zA<|zF<|R O<|G O<|wK O<|zA<|zC O (fun c4=>?_) (fun c4=>?_)
    ·try simp only [sx] at c4
     refine R O<|G O<|zA<|zS _ (Weak.mem [false,false,true,true,true,true] O)<|zM<|zX O ?_
     exact ⟨by rw [nodeN_n h9 (by omega) c4],O⟩
    ·try simp only [sx] at c4
     refine zH<|zF<|R O<|zN O zCm<|zL zCh (A 0 O) O<|qH O el67<|zN O zBk<|zL zCa (A 1 O) O<|qH O el51<|wL O<|zA<|zC O (fun c5=>?_) (fun c5=>?_)
     ·try simp only [sx] at c5
      refine R O<|G O<|zA<|zS _ (Weak.mem [false,false,true,true,true,true] O)<|zM<|zX O ?_
      exact ⟨by rw [nodeN_r h9 (by omega) c4 (by omega)],O⟩
     ·try simp only [sx] at c5
      refine zH<|zF<|R O<|zN O zBk<|zL zCa (A 1 O) O<|qH O el51<|G O<|zA<|zQ<|zS ⟨[(66,.c _),(2,.c _),(64,.c _),(65,.c _)],[_,_,_,_]⟩ (Weak.mk [false,false,true,true,true,true] ⟨zB,zB,zB,zB,T⟩ O)<|qJ 1 0 O O (Nat) (fun j=>[(66,vI j)]) (fun j=>[]) (fun j=>j<=e.Idx.length/\(gathL n.Bufs e.Idx=gathL n.Bufs (e.Idx.drop j))) (fun j=>e.Idx.length-j) ⟨0,⟨by omega,O⟩,Weak.mk [true,true,true,true] ⟨zB,zB,zB,zB,T⟩ O⟩ ?_
      rintro j ⟨hk,hq⟩
      refine R O<|yE O<|zA<|zF<|zC O (fun c6=>?_) (fun c6=>?_)
      ·try simp only [sx] at c6
       obtain ⟨y,hy⟩:=qX e.Idx j (by omega)
       refine zH<|zF<|zQ<|R O<|qI O el51 (by omega) (getm (by assumption))<|zP zCo Y O<|zU O O (qR [none,some 2,none,some 2] O zMo O) ?_
       rintro _ _ ⟨b5,rfl,rfl⟩
       refine D 0 zMx O<|zA<|zF<|R O<|zN O zAs<|zL one9 (A 0 O) O<|v O (kH O O O)<|zA<|zC O (fun c7=>?_) (fun c7=>?_)
       ·try simp only [sx] at c7
        refine qL<|zI O<|qD O ⟨by omega,by omega⟩<|G O<|zA ?_
        refine ⟨j+1,⟨by omega,hq.trans (gathL_next hy (by first|exact gathE_0 c7|exact gathE_ok c7 c8 (by omega) (by omega)))⟩,(by omega),Weak.mk [false,true,true,true,true] ⟨zB,zB,zB,zB,T⟩ O⟩
       ·try simp only [sx] at c7
        refine zH<|zF<|yN 12 1 [⟨0,.q []⟩,⟨1,.q []⟩,⟨2,.q []⟩,⟨3,.q [2]⟩,⟨4,.q []⟩,⟨5,.q [1]⟩,⟨6,.q []⟩,⟨7,.q []⟩,⟨8,.q []⟩,⟨9,.q []⟩,⟨10,.e 0 []⟩,⟨11,.e 0 []⟩] mixed (by kernel_rfl) (by kernel_rfl) O O O<|N O<|N O<|N O<|N O<|N O<|N O<|N O<|N O<|N O<|N O<|N O<|N O<|wX<|J O (by decide) O O (zD O zLh O Y O)<|J O (by decide) O O (qF O O)<|J O (by decide) O O (zJ O zKl O)<|J O (by decide) O O (qG O zFj O (A 0 O) O)<|J O (by decide) O O (zJ O zAs O)<|J O (by decide) O O (zD O one9 O (A 0 O) O)<|J O (by decide) O O (qY O ok112 (wE n y.From hn) ⟨zB,O,zB,O,T⟩)<|J O (by decide) O O (yW O O)<|J O (by decide) O O (kV O O O)<|J O (by decide) O O (kO O O O)<|zIm O O (by decide) O O (qR [none,none,none,none,none,none,some 1,none] O zr69 O) ?_
        rintro _ _ ⟨b6,rfl,rfl⟩
        refine ⟨_,O,?_⟩
        refine zCl O O (by decide) O O (yY O sz69 O O O (zIk 0 O O)) ?_
        rintro _ _ ⟨rfl,rfl⟩
        refine ⟨_,O,?_⟩
        refine wV O<|G O<|zA<|zQ<|R O<|G O<|wK O<|G O<|zA<|zC O (fun c8=>?_) (fun c8=>?_)
        ·try simp only [sx] at c8
         refine R O<|G O<|zA<|zS _ (Weak.mem [false,false,true,true,true,true] O)<|zM<|zX O ?_
         exact ⟨by rw [zNo h9 (by omega) c4 (by omega),hq,gathL_no hy (by rw [gathE_9 c7 c8];decide),gathE_9 c7 c8],O⟩
        ·try simp only [sx] at c8
         refine R O<|zN O zOe<|zN O zOi<|zL one3 (A 0 O) O<|wL O<|G O<|zA<|zC O (fun c9=>?_) (fun c9=>?_)
         ·try simp only [sx] at c9
          refine R O<|G O<|zA<|zS _ (Weak.mem [false,false,true,true,true,true] O)<|zM<|zX O ?_
          exact ⟨by rw [zNo h9 (by omega) c4 (by omega),hq,gathL_no hy (by rw [gathE_10 c7 c8 c9];decide),gathE_10 c7 c8 c9],O⟩
         ·try simp only [sx] at c9
          refine R O<|zN O zCm<|zL zCh (A 0 O) O<|qH O el67<|zN O zCk<|zL zEw (A 1 O) O<|qH O zDb<|wL O<|G O<|zA<|zC O (fun c10=>?_) (fun c10=>?_)
          ·try simp only [sx] at c10
           refine R O<|G O<|zA<|zS _ (Weak.mem [false,false,true,true,true,true] O)<|zM<|zX O ?_
           exact ⟨by rw [zNo h9 (by omega) c4 (by omega),hq,gathL_no hy (by rw [gathE_11 c7 c8 c9 (by omega)];decide),gathE_11 c7 c8 c9 (by omega)],O⟩
          ·try simp only [sx] at c10
           refine zH<|zI O<|qD O ⟨by omega,by omega⟩<|G O<|zA ?_
           refine ⟨j+1,⟨by omega,hq.trans (gathL_next hy (by first|exact gathE_0 c7|exact gathE_ok c7 c8 (by omega) (by omega)))⟩,(by omega),Weak.mk [false,false,true,true,true,true] ⟨zB,zB,zB,zB,T⟩ O⟩
      ·try simp only [sx] at c6
       refine qL<|R O<|G O<|zA<|zM<|zX O ?_
       exact ⟨by rw [zNo h9 (by omega) c4 (by omega),hq,wM (by omega)];rfl,O⟩
theorem ck_typeOf_step (b:Nat) (svL svS svP:Value) (n:Ns) (U S:List ByteArray) (W:List Int) (hn:n.Ok) (e:Ex) (ih:∀a,a∈e.Args->partE a=0->a.wt<=1073741824->Con cfg 195 [vP b,vE a] (ckN b svL svS svP n U S W) fun r μ'=>r=.tup [vTy (nodeT (tyF n.Bufs) a).1,vI (nodeT (tyF n.Bufs) a).2]/\μ'=ckN b svL svS svP n U S W) (hpart:partE e=0) (he:e.wt<=1073741824):
    Con cfg 195 [vP b,vE e] (ckN b svL svS svP n U S W) fun r μ'=>r=.tup [vTy (nodeT (tyF n.Bufs) e).1,vI (nodeT (tyF n.Bufs) e).2]/\μ'=ckN b svL svS svP n U S W:=by
 refine Con.drop<|zW Tryz.func195 O Tryz.ntmps195 Tryz.results195 O ?_
 intro z hz
 obtain ⟨hLl,hIl,hAl⟩:=e.parts he
 have hwt:=Ex.wt_eq e
 refine R O<|zU O O (qT O O) ?_
 rintro _ _ ⟨b1,rfl,rfl⟩
 refine zU O O (yX O zr31) ?_
 rintro _ _ ⟨b2,rfl,rfl⟩
 refine G O<|zA<|R O<|G O<|qS _ (zAm 31 5)<|zA<|zF<|R O<|zN O wH<|zL zAw (A 2 O) O<|qH O el55<|G O<|zA<|zQ<|zS ⟨[(16,.c _),(6,.c _),(0,.c _),(3,.c _),(4,.c _),(14,.c _),(15,.c _)],[_,_,_,_,_,_,_]⟩ (Weak.mk [true,true,true,true,true,true,true] ⟨zB,zB,zB,zB,zB,zB,zB,T⟩ O)<|qJ 2 1 O O (Nat×Value) (fun ⟨k,sv⟩=>[(16,vI k),(6,.c (.lit sv))]) (fun ⟨k,sv⟩=>[E.vec sv 31 5 ((nodeL (tyF n.Bufs) (e.Args.take k)).1.map tyC)]) (fun ⟨k,sv⟩=>k<=e.Args.length/\((nodeL (tyF n.Bufs) (e.Args.take k)).2=0)) (fun ⟨k,sv⟩=>e.Args.length-k) ⟨⟨0,(.slice none 0 0)⟩,⟨by omega,O⟩,Weak.mk [true,true,true,true,true,true,true] ⟨zB,zB,zB,zB,zB,zB,zB,T⟩ O⟩ ?_
 rintro ⟨k,sv⟩ ⟨hk,hp⟩
 show AWP _ _ _ _ _ ⟨[(16,vI k),(6,.c (.lit sv))]++_,[E.vec sv 31 5 ((nodeL (tyF n.Bufs) (e.Args.take k)).1.map tyC)]++_⟩
 refine R O<|yE O<|zA<|zF<|zC O (fun c1=>?_) (fun c1=>?_)
 ·try simp only [sx] at c1
  obtain ⟨x,hx⟩:=qX e.Args k (by omega)
  have hll:=zNp _ _ hp
  refine zH<|zF<|zQ<|R O<|qI O el55 (by omega) (zBi (by assumption))<|zP kC Y O<|zU O O (qR [none,none,none,none,none,none,none,none,none,none,some 2,some 4,some 13] O zr57 O) ?_
  rintro _ _ ⟨b4,rfl,rfl⟩
  refine D 0 sz57 O<|zA<|R O<|G O<|zP kC (A 0 O) O<|v O (yD [4,4,4,4] O ok195 (ih x (qB hx) (partE_arg hpart (qB hx)) (by have:=Ex.arg_wt (qB hx);omega)) ⟨zB,O,zB,O,T⟩ O)<|v O (yW O O)<|v O (kV O O O)<|v O (kO O O O)<|zU O O (yX O zr31) ?_
  rintro _ _ ⟨b5,rfl,rfl⟩
  refine D 0 sz31 O<|G O<|zA<|zF<|R O<|G O<|wL O<|zA<|zC O (fun c2=>?_) (fun c2=>?_)
  ·try simp only [sx] at c2
   refine R O<|zP yP (A 0 O) O<|G O<|D 3 sz31 O<|G O<|zA<|zS _ (Weak.mem [false,false,false,true,false,true,true,true,true] O)<|zM<|fin2 (qQ yP O (A 0 O) O) (L O) ?_
   exact ⟨by rw [nodeT_no hx hp c2,nodeT_zero c2];rfl,[_],O⟩
  ·try simp only [sx] at c2
   refine zH<|zI O<|G O<|zP yP (A 0 O) O<|v O (kF O el28 zr31 O O O O)<|zU O O (kL 2 O el28 O O O (by simp only [List.length_map,List.length_cons,List.length_nil,hll,List.length_take];omega) (by simp only [List.length_map,List.length_cons,List.length_nil,hll,List.length_take];omega)) ?_
   rintro _ _ ⟨sv6,rfl,rfl⟩
   refine G O<|zA<|zI O<|qD O ⟨by omega,by omega⟩<|G O<|zA ?_
   refine ⟨⟨k+1,sv6⟩,⟨by omega,by rw [nodeL_next hx hp c2]⟩,(by show e.Args.length-(k+1)<e.Args.length-k;omega),Weak.mk [false,false,true,true,true,true,true,true,true] ⟨zB,zB,zB,zB,zB,zB,zB,T⟩ (by show _=[E.vec sv6 _ 5 ((nodeL (tyF n.Bufs) (e.Args.take (k+1))).1.map tyC)]++_;rw [nodeL_next hx hp c2];simp only [List.map_append];rfl)⟩
 ·try simp only [sx] at c1
  have hll:=zNp _ _ hp
  have hta:e.Args.take k=e.Args:=yI (by omega)
  rw [hta] at hll
  have hg:∀i,i<e.Args.length->((nodeL (tyF n.Bufs) (e.Args.take k)).1.map tyC)[i]? =some (tyC (tyAt (nodeL (tyF n.Bufs) (e.Args.take k)).1 i)):=fun i hi=>tyAt_get (by rw [hta];omega)
  have hgn:∀i:Nat,1<=i->i<=e.Args.length->∀j:Int,j=(((nodeL (tyF n.Bufs) (e.Args.take k)).1.length:Int)-i)->((nodeL (tyF n.Bufs) (e.Args.take k)).1.map tyC)[j.toNat]? =some (tyC (tyAt (nodeL (tyF n.Bufs) (e.Args.take k)).1 ((nodeL (tyF n.Bufs) (e.Args.take k)).1.length-i))):=fun i h1 h2 j hj=>by rw [hta] at *;rw [show j.toNat=(nodeL (tyF n.Bufs) e.Args).1.length-i by omega];exact tyAt_get (by omega)
  have hT:nodeT (tyF n.Bufs) e=tyF n.Bufs e (nodeL (tyF n.Bufs) (e.Args.take k)).1:=nodeT_ok hta hp
  have hlk:(nodeL (tyF n.Bufs) (e.Args.take k)).1.length=e.Args.length:=by rw [hta];exact hll
  refine qL<|zF<|R O<|zN O wY<|zL one3 (A 2 O) O<|zA<|zQ<|zF<|R O<|yO O<|G O<|zA<|zC O (fun c3=>?_) (fun c3=>?_)
  ·try simp only [sx] at c3
   refine zH<|zC O (fun c4=>?_) (fun c4=>?_)
   ·try simp only [sx] at c4
    refine R O<|zN O zFa<|zP yP (A 2 O) O<|D 1 sz31 O<|G O<|zA<|zS _ (Weak.mem [false,true,false,true,true,true,true] O)<|zM<|fin2 (qQ yP O (A 0 O) O) (L O) ?_
    exact ⟨by rw [hT];first|(rw [zBd (by omega)];rfl)|(rw [zBc (by omega)];rfl)|(rw [zAy (by omega)];rfl)|(rw [zBb (by omega)];rfl)|(rw [wO (by omega)];rfl)|(rw [wP ho h10];rfl)|(rw [zBa ho h10 c12];rfl)|(rw [zAz ho h10 c12];rfl),[_],O⟩
   ·try simp only [sx] at c4
    refine R O<|yO O<|G O<|zA<|zC O (fun c5=>?_) (fun c5=>?_)
    ·try simp only [sx] at c5
     refine R O<|v O (yB O zr31 pl31 O)<|D 1 sz31 O<|G O<|zA<|zS _ (Weak.mem [false,true,false,true,true,true,true] O)<|zM<|fin2 (qQ yP O (A 0 O) O) (L O) ?_
     exact ⟨by rw [hT];first|(rw [zBd (by omega)];rfl)|(rw [zBc (by omega)];rfl)|(rw [zAy (by omega)];rfl)|(rw [zBb (by omega)];rfl)|(rw [wO (by omega)];rfl)|(rw [wP ho h10];rfl)|(rw [zBa ho h10 c12];rfl)|(rw [zAz ho h10 c12];rfl),[_],O⟩
    ·try simp only [sx] at c5
     refine R O<|yO O<|G O<|zA<|zC O (fun c6=>?_) (fun c6=>?_)
     ·try simp only [sx] at c6
      refine zF<|yN 12 1 [⟨0,.q []⟩,⟨1,.q []⟩,⟨2,.q []⟩,⟨3,.q [4]⟩,⟨4,.q []⟩,⟨5,.q [3]⟩,⟨6,.q []⟩,⟨7,.q []⟩,⟨8,.q []⟩,⟨9,.q []⟩,⟨10,.e 0 []⟩,⟨11,.e 0 []⟩] mixed (by kernel_rfl) (by kernel_rfl) O O O<|N O<|N O<|N O<|N O<|N O<|N O<|N O<|N O<|N O<|N O<|N O<|N O<|wX<|J O (by decide) O O (zG O O)<|J O (by decide) O O (qF O O)<|J O (by decide) O O (zJ O zKl O)<|J O (by decide) O O (qG O zFj O (A 0 O) O)<|J O (by decide) O O (zJ O zHl O)<|J O (by decide) O O (zD O one9 O (A 0 O) O)<|J O (by decide) O O (qY O ok112 (wE n e.Name hn) ⟨zB,O,zB,O,T⟩)<|J O (by decide) O O (yW O O)<|J O (by decide) O O (kV O O O)<|J O (by decide) O O (kO O O O)<|zIm O O (by decide) O O (qR [none,none,none,none,none,none,some 1,none] O zr69 O) ?_
      rintro _ _ ⟨b7,rfl,rfl⟩
      refine ⟨_,O,?_⟩
      refine zCl O O (by decide) O O (yY O sz69 O O O (zIk 0 O O)) ?_
      rintro _ _ ⟨rfl,rfl⟩
      refine ⟨_,O,?_⟩
      refine wV O<|G O<|zA<|R O<|zN O zOe<|zP yP (A 0 O) O<|D 2 sz31 O<|G O<|zA<|zS _ (Weak.mem [false,false,true,false,true,true,true,true] O)<|zM<|fin2 (qQ yP O (A 0 O) O) (L O) ?_
      exact ⟨by rw [hT];first|(rw [zBd (by omega)];rfl)|(rw [zBc (by omega)];rfl)|(rw [zAy (by omega)];rfl)|(rw [zBb (by omega)];rfl)|(rw [wO (by omega)];rfl)|(rw [wP ho h10];rfl)|(rw [zBa ho h10 c12];rfl)|(rw [zAz ho h10 c12];rfl),[_],O⟩
     ·try simp only [sx] at c6
      refine R O<|yO O<|G O<|zA<|zC O (fun c7=>?_) (fun c7=>?_)
      ·try simp only [sx] at c7
       have hlen1:=args_len hpart (by omega)
       refine R O<|G O<|v O (qC 0 O el28 O O O (by omega) (by simp only [List.length_map];omega))<|zP yP (yK 0 O (hg 0 (by omega))) O<|D 1 sz31 O<|G O<|zA<|zS _ (Weak.mem [false,true,false,true,true,true,true] O)<|zM<|fin2 (qQ yP O (A 0 O) O) (L O) ?_
       exact ⟨by rw [hT];first|(rw [zBd (by omega)];rfl)|(rw [zBc (by omega)];rfl)|(rw [zAy (by omega)];rfl)|(rw [zBb (by omega)];rfl)|(rw [wO (by omega)];rfl)|(rw [wP ho h10];rfl)|(rw [zBa ho h10 c12];rfl)|(rw [zAz ho h10 c12];rfl),[_],O⟩
      ·try simp only [sx] at c7
       refine zF<|R O<|yO O<|G O<|zA<|zC O (fun c8=>?_) (fun c8=>?_)
       ·try simp only [sx] at c8
        refine zH<|zC O (fun c10=>?_) (fun c10=>?_)
        ·try simp only [sx] at c10
         refine R O<|v O (yB O zr31 pl31 O)<|D 1 sz31 O<|G O<|zA<|zS _ (Weak.mem [false,true,false,true,true,true,true] O)<|zM<|fin2 (qQ yP O (A 0 O) O) (L O) ?_
         exact ⟨by rw [hT];first|(rw [zBd (by omega)];rfl)|(rw [zBc (by omega)];rfl)|(rw [zAy (by omega)];rfl)|(rw [zBb (by omega)];rfl)|(rw [wO (by omega)];rfl)|(rw [wP ho h10];rfl)|(rw [zBa ho h10 c12];rfl)|(rw [zAz ho h10 c12];rfl),[_],O⟩
        ·try simp only [sx] at c10
         have hlen2:=zEb hpart (by omega)
         have ho:¬opLow e.Op:=by unfold opLow;omega
         refine zH<|zF<|zF<|qU 13 mixed (by kernel_rfl) O O<|zE O O (zG O O)<|zE O O (zG O O)<|zE O O (yJ 0 O el28 O O)<|zE O O (yH O O O (by simp only [List.length_map];exact ⟨by omega,by omega⟩))<|zE O O (qC 0 O el28 O O O (by simp only [List.length_map];omega) (by simp only [List.length_map];omega))<|zE O O (qG O yP O (yK 0 O (hgn 2 (by omega) (by omega) _ (by simp only [List.length_map];rfl))) O)<|zE O O (zG O O)<|zE O O (zG O O)<|zE O O (yJ 0 O el28 O O)<|zE O O (yH O O O (by simp only [List.length_map];exact ⟨by omega,by omega⟩))<|zE O O (qC 0 O el28 O O O (by simp only [List.length_map];omega) (by simp only [List.length_map];omega))<|zE O O (qG O yP O (yK 0 O (hgn 1 (by omega) (by omega) _ (by simp only [List.length_map];rfl))) O)<|zE O O (zCr O fl31 O O O)<|yM<|zA<|zC O (fun c11=>?_) (fun c11=>?_)
         ·have h10:=zGm c11
          refine R O<|v O (yB O zr31 pl31 O)<|D 1 sz31 O<|G O<|zA<|zS _ (Weak.mem [false,true,false,true,true,true,true] O)<|zM<|fin2 (qQ yP O (A 0 O) O) (L O) ?_
          exact ⟨by rw [hT];first|(rw [zBd (by omega)];rfl)|(rw [zBc (by omega)];rfl)|(rw [zAy (by omega)];rfl)|(rw [zBb (by omega)];rfl)|(rw [wO (by omega)];rfl)|(rw [wP ho h10];rfl)|(rw [zBa ho h10 c12];rfl)|(rw [zAz ho h10 c12];rfl),[_],O⟩
         ·have h10:=zGn c11
          refine zH<|zF<|R O<|zP kC (A 2 O) O<|qW O ok171 (kN e) ⟨zB,O,T⟩<|zA<|zC O (fun c12=>?_) (fun c12=>?_)
          ·try simp only [sx] at c12
           refine R O<|v O (yB O zr31 pl31 O)<|D 1 sz31 O<|G O<|zA<|zS _ (Weak.mem [false,true,false,true,true,true,true] O)<|zM<|fin2 (qQ yP O (A 0 O) O) (L O) ?_
           exact ⟨by rw [hT];first|(rw [zBd (by omega)];rfl)|(rw [zBc (by omega)];rfl)|(rw [zAy (by omega)];rfl)|(rw [zBb (by omega)];rfl)|(rw [wO (by omega)];rfl)|(rw [wP ho h10];rfl)|(rw [zBa ho h10 c12];rfl)|(rw [zAz ho h10 c12];rfl),[_],O⟩
          ·try simp only [sx] at c12
           refine zH<|R O<|G O<|G O<|v O (yJ 0 O el28 O O)<|yF O (by simp only [List.length_map];exact ⟨by omega,by omega⟩)<|v O (qC 0 O el28 O O O (by simp only [List.length_map];omega) (by simp only [List.length_map];omega))<|zP yP (yK 0 O (hgn 1 (by omega) (by omega) _ (by simp only [List.length_map];rfl))) O<|D 1 sz31 O<|G O<|zA<|zS _ (Weak.mem [false,true,false,true,true,true,true] O)<|zM<|fin2 (qQ yP O (A 0 O) O) (L O) ?_
           exact ⟨by rw [hT];first|(rw [zBd (by omega)];rfl)|(rw [zBc (by omega)];rfl)|(rw [zAy (by omega)];rfl)|(rw [zBb (by omega)];rfl)|(rw [wO (by omega)];rfl)|(rw [wP ho h10];rfl)|(rw [zBa ho h10 c12];rfl)|(rw [zAz ho h10 c12];rfl),[_],O⟩
       ·try simp only [sx] at c8
        refine R O<|yO O<|G O<|zA<|zC O (fun c9=>?_) (fun c9=>?_)
        ·try simp only [sx] at c9
         refine zH<|zC O (fun c10=>?_) (fun c10=>?_)
         ·try simp only [sx] at c10
          refine R O<|v O (yB O zr31 pl31 O)<|D 1 sz31 O<|G O<|zA<|zS _ (Weak.mem [false,true,false,true,true,true,true] O)<|zM<|fin2 (qQ yP O (A 0 O) O) (L O) ?_
          exact ⟨by rw [hT];first|(rw [zBd (by omega)];rfl)|(rw [zBc (by omega)];rfl)|(rw [zAy (by omega)];rfl)|(rw [zBb (by omega)];rfl)|(rw [wO (by omega)];rfl)|(rw [wP ho h10];rfl)|(rw [zBa ho h10 c12];rfl)|(rw [zAz ho h10 c12];rfl),[_],O⟩
         ·try simp only [sx] at c10
          have hlen2:=zEb hpart (by omega)
          have ho:¬opLow e.Op:=by unfold opLow;omega
          refine zH<|zF<|zF<|qU 13 mixed (by kernel_rfl) O O<|zE O O (zG O O)<|zE O O (zG O O)<|zE O O (yJ 0 O el28 O O)<|zE O O (yH O O O (by simp only [List.length_map];exact ⟨by omega,by omega⟩))<|zE O O (qC 0 O el28 O O O (by simp only [List.length_map];omega) (by simp only [List.length_map];omega))<|zE O O (qG O yP O (yK 0 O (hgn 2 (by omega) (by omega) _ (by simp only [List.length_map];rfl))) O)<|zE O O (zG O O)<|zE O O (zG O O)<|zE O O (yJ 0 O el28 O O)<|zE O O (yH O O O (by simp only [List.length_map];exact ⟨by omega,by omega⟩))<|zE O O (qC 0 O el28 O O O (by simp only [List.length_map];omega) (by simp only [List.length_map];omega))<|zE O O (qG O yP O (yK 0 O (hgn 1 (by omega) (by omega) _ (by simp only [List.length_map];rfl))) O)<|zE O O (zCr O fl31 O O O)<|yM<|zA<|zC O (fun c11=>?_) (fun c11=>?_)
          ·have h10:=zGm c11
           refine R O<|v O (yB O zr31 pl31 O)<|D 1 sz31 O<|G O<|zA<|zS _ (Weak.mem [false,true,false,true,true,true,true] O)<|zM<|fin2 (qQ yP O (A 0 O) O) (L O) ?_
           exact ⟨by rw [hT];first|(rw [zBd (by omega)];rfl)|(rw [zBc (by omega)];rfl)|(rw [zAy (by omega)];rfl)|(rw [zBb (by omega)];rfl)|(rw [wO (by omega)];rfl)|(rw [wP ho h10];rfl)|(rw [zBa ho h10 c12];rfl)|(rw [zAz ho h10 c12];rfl),[_],O⟩
          ·have h10:=zGn c11
           refine zH<|zF<|R O<|zP kC (A 2 O) O<|qW O ok171 (kN e) ⟨zB,O,T⟩<|zA<|zC O (fun c12=>?_) (fun c12=>?_)
           ·try simp only [sx] at c12
            refine R O<|v O (yB O zr31 pl31 O)<|D 1 sz31 O<|G O<|zA<|zS _ (Weak.mem [false,true,false,true,true,true,true] O)<|zM<|fin2 (qQ yP O (A 0 O) O) (L O) ?_
            exact ⟨by rw [hT];first|(rw [zBd (by omega)];rfl)|(rw [zBc (by omega)];rfl)|(rw [zAy (by omega)];rfl)|(rw [zBb (by omega)];rfl)|(rw [wO (by omega)];rfl)|(rw [wP ho h10];rfl)|(rw [zBa ho h10 c12];rfl)|(rw [zAz ho h10 c12];rfl),[_],O⟩
           ·try simp only [sx] at c12
            refine zH<|R O<|G O<|G O<|v O (yJ 0 O el28 O O)<|yF O (by simp only [List.length_map];exact ⟨by omega,by omega⟩)<|v O (qC 0 O el28 O O O (by simp only [List.length_map];omega) (by simp only [List.length_map];omega))<|zP yP (yK 0 O (hgn 1 (by omega) (by omega) _ (by simp only [List.length_map];rfl))) O<|D 1 sz31 O<|G O<|zA<|zS _ (Weak.mem [false,true,false,true,true,true,true] O)<|zM<|fin2 (qQ yP O (A 0 O) O) (L O) ?_
            exact ⟨by rw [hT];first|(rw [zBd (by omega)];rfl)|(rw [zBc (by omega)];rfl)|(rw [zAy (by omega)];rfl)|(rw [zBb (by omega)];rfl)|(rw [wO (by omega)];rfl)|(rw [wP ho h10];rfl)|(rw [zBa ho h10 c12];rfl)|(rw [zAz ho h10 c12];rfl),[_],O⟩
        ·try simp only [sx] at c9
         refine zI O<|yO O<|G O<|zA<|zC O (fun c10=>?_) (fun c10=>?_)
         ·try simp only [sx] at c10
          refine R O<|v O (yB O zr31 pl31 O)<|D 1 sz31 O<|G O<|zA<|zS _ (Weak.mem [false,true,false,true,true,true,true] O)<|zM<|fin2 (qQ yP O (A 0 O) O) (L O) ?_
          exact ⟨by rw [hT];first|(rw [zBd (by omega)];rfl)|(rw [zBc (by omega)];rfl)|(rw [zAy (by omega)];rfl)|(rw [zBb (by omega)];rfl)|(rw [wO (by omega)];rfl)|(rw [wP ho h10];rfl)|(rw [zBa ho h10 c12];rfl)|(rw [zAz ho h10 c12];rfl),[_],O⟩
         ·try simp only [sx] at c10
          have hlen2:=zEb hpart (by omega)
          have ho:¬opLow e.Op:=by unfold opLow;omega
          refine zH<|zF<|zF<|qU 13 mixed (by kernel_rfl) O O<|zE O O (zG O O)<|zE O O (zG O O)<|zE O O (yJ 0 O el28 O O)<|zE O O (yH O O O (by simp only [List.length_map];exact ⟨by omega,by omega⟩))<|zE O O (qC 0 O el28 O O O (by simp only [List.length_map];omega) (by simp only [List.length_map];omega))<|zE O O (qG O yP O (yK 0 O (hgn 2 (by omega) (by omega) _ (by simp only [List.length_map];rfl))) O)<|zE O O (zG O O)<|zE O O (zG O O)<|zE O O (yJ 0 O el28 O O)<|zE O O (yH O O O (by simp only [List.length_map];exact ⟨by omega,by omega⟩))<|zE O O (qC 0 O el28 O O O (by simp only [List.length_map];omega) (by simp only [List.length_map];omega))<|zE O O (qG O yP O (yK 0 O (hgn 1 (by omega) (by omega) _ (by simp only [List.length_map];rfl))) O)<|zE O O (zCr O fl31 O O O)<|yM<|zA<|zC O (fun c11=>?_) (fun c11=>?_)
          ·have h10:=zGm c11
           refine R O<|v O (yB O zr31 pl31 O)<|D 1 sz31 O<|G O<|zA<|zS _ (Weak.mem [false,true,false,true,true,true,true] O)<|zM<|fin2 (qQ yP O (A 0 O) O) (L O) ?_
           exact ⟨by rw [hT];first|(rw [zBd (by omega)];rfl)|(rw [zBc (by omega)];rfl)|(rw [zAy (by omega)];rfl)|(rw [zBb (by omega)];rfl)|(rw [wO (by omega)];rfl)|(rw [wP ho h10];rfl)|(rw [zBa ho h10 c12];rfl)|(rw [zAz ho h10 c12];rfl),[_],O⟩
          ·have h10:=zGn c11
           refine zH<|zF<|R O<|zP kC (A 2 O) O<|qW O ok171 (kN e) ⟨zB,O,T⟩<|zA<|zC O (fun c12=>?_) (fun c12=>?_)
           ·try simp only [sx] at c12
            refine R O<|v O (yB O zr31 pl31 O)<|D 1 sz31 O<|G O<|zA<|zS _ (Weak.mem [false,true,false,true,true,true,true] O)<|zM<|fin2 (qQ yP O (A 0 O) O) (L O) ?_
            exact ⟨by rw [hT];first|(rw [zBd (by omega)];rfl)|(rw [zBc (by omega)];rfl)|(rw [zAy (by omega)];rfl)|(rw [zBb (by omega)];rfl)|(rw [wO (by omega)];rfl)|(rw [wP ho h10];rfl)|(rw [zBa ho h10 c12];rfl)|(rw [zAz ho h10 c12];rfl),[_],O⟩
           ·try simp only [sx] at c12
            refine zH<|R O<|G O<|G O<|v O (yJ 0 O el28 O O)<|yF O (by simp only [List.length_map];exact ⟨by omega,by omega⟩)<|v O (qC 0 O el28 O O O (by simp only [List.length_map];omega) (by simp only [List.length_map];omega))<|zP yP (yK 0 O (hgn 1 (by omega) (by omega) _ (by simp only [List.length_map];rfl))) O<|D 1 sz31 O<|G O<|zA<|zS _ (Weak.mem [false,true,false,true,true,true,true] O)<|zM<|fin2 (qQ yP O (A 0 O) O) (L O) ?_
            exact ⟨by rw [hT];first|(rw [zBd (by omega)];rfl)|(rw [zBc (by omega)];rfl)|(rw [zAy (by omega)];rfl)|(rw [zBb (by omega)];rfl)|(rw [wO (by omega)];rfl)|(rw [wP ho h10];rfl)|(rw [zBa ho h10 c12];rfl)|(rw [zAz ho h10 c12];rfl),[_],O⟩
  ·try simp only [sx] at c3
   refine zI O<|yO O<|G O<|zA<|zC O (fun c4=>?_) (fun c4=>?_)
   ·try simp only [sx] at c4
    refine R O<|zN O zFa<|zP yP (A 2 O) O<|D 1 sz31 O<|G O<|zA<|zS _ (Weak.mem [false,true,false,true,true,true,true] O)<|zM<|fin2 (qQ yP O (A 0 O) O) (L O) ?_
    exact ⟨by rw [hT];first|(rw [zBd (by omega)];rfl)|(rw [zBc (by omega)];rfl)|(rw [zAy (by omega)];rfl)|(rw [zBb (by omega)];rfl)|(rw [wO (by omega)];rfl)|(rw [wP ho h10];rfl)|(rw [zBa ho h10 c12];rfl)|(rw [zAz ho h10 c12];rfl),[_],O⟩
   ·try simp only [sx] at c4
    refine R O<|yO O<|G O<|zA<|zC O (fun c5=>?_) (fun c5=>?_)
    ·try simp only [sx] at c5
     refine R O<|v O (yB O zr31 pl31 O)<|D 1 sz31 O<|G O<|zA<|zS _ (Weak.mem [false,true,false,true,true,true,true] O)<|zM<|fin2 (qQ yP O (A 0 O) O) (L O) ?_
     exact ⟨by rw [hT];first|(rw [zBd (by omega)];rfl)|(rw [zBc (by omega)];rfl)|(rw [zAy (by omega)];rfl)|(rw [zBb (by omega)];rfl)|(rw [wO (by omega)];rfl)|(rw [wP ho h10];rfl)|(rw [zBa ho h10 c12];rfl)|(rw [zAz ho h10 c12];rfl),[_],O⟩
    ·try simp only [sx] at c5
     refine R O<|yO O<|G O<|zA<|zC O (fun c6=>?_) (fun c6=>?_)
     ·try simp only [sx] at c6
      refine zF<|yN 12 1 [⟨0,.q []⟩,⟨1,.q []⟩,⟨2,.q []⟩,⟨3,.q [4]⟩,⟨4,.q []⟩,⟨5,.q [3]⟩,⟨6,.q []⟩,⟨7,.q []⟩,⟨8,.q []⟩,⟨9,.q []⟩,⟨10,.e 0 []⟩,⟨11,.e 0 []⟩] mixed (by kernel_rfl) (by kernel_rfl) O O O<|N O<|N O<|N O<|N O<|N O<|N O<|N O<|N O<|N O<|N O<|N O<|N O<|wX<|J O (by decide) O O (zG O O)<|J O (by decide) O O (qF O O)<|J O (by decide) O O (zJ O zKl O)<|J O (by decide) O O (qG O zFj O (A 0 O) O)<|J O (by decide) O O (zJ O zHl O)<|J O (by decide) O O (zD O one9 O (A 0 O) O)<|J O (by decide) O O (qY O ok112 (wE n e.Name hn) ⟨zB,O,zB,O,T⟩)<|J O (by decide) O O (yW O O)<|J O (by decide) O O (kV O O O)<|J O (by decide) O O (kO O O O)<|zIm O O (by decide) O O (qR [none,none,none,none,none,none,some 1,none] O zr69 O) ?_
      rintro _ _ ⟨b8,rfl,rfl⟩
      refine ⟨_,O,?_⟩
      refine zCl O O (by decide) O O (yY O sz69 O O O (zIk 0 O O)) ?_
      rintro _ _ ⟨rfl,rfl⟩
      refine ⟨_,O,?_⟩
      refine wV O<|G O<|zA<|R O<|zN O zOe<|zP yP (A 0 O) O<|D 2 sz31 O<|G O<|zA<|zS _ (Weak.mem [false,false,true,false,true,true,true,true] O)<|zM<|fin2 (qQ yP O (A 0 O) O) (L O) ?_
      exact ⟨by rw [hT];first|(rw [zBd (by omega)];rfl)|(rw [zBc (by omega)];rfl)|(rw [zAy (by omega)];rfl)|(rw [zBb (by omega)];rfl)|(rw [wO (by omega)];rfl)|(rw [wP ho h10];rfl)|(rw [zBa ho h10 c12];rfl)|(rw [zAz ho h10 c12];rfl),[_],O⟩
     ·try simp only [sx] at c6
      refine R O<|yO O<|G O<|zA<|zC O (fun c7=>?_) (fun c7=>?_)
      ·try simp only [sx] at c7
       have hlen1:=args_len hpart (by omega)
       refine R O<|G O<|v O (qC 0 O el28 O O O (by omega) (by simp only [List.length_map];omega))<|zP yP (yK 0 O (hg 0 (by omega))) O<|D 1 sz31 O<|G O<|zA<|zS _ (Weak.mem [false,true,false,true,true,true,true] O)<|zM<|fin2 (qQ yP O (A 0 O) O) (L O) ?_
       exact ⟨by rw [hT];first|(rw [zBd (by omega)];rfl)|(rw [zBc (by omega)];rfl)|(rw [zAy (by omega)];rfl)|(rw [zBb (by omega)];rfl)|(rw [wO (by omega)];rfl)|(rw [wP ho h10];rfl)|(rw [zBa ho h10 c12];rfl)|(rw [zAz ho h10 c12];rfl),[_],O⟩
      ·try simp only [sx] at c7
       refine zF<|R O<|yO O<|G O<|zA<|zC O (fun c8=>?_) (fun c8=>?_)
       ·try simp only [sx] at c8
        refine zH<|zC O (fun c10=>?_) (fun c10=>?_)
        ·try simp only [sx] at c10
         refine R O<|v O (yB O zr31 pl31 O)<|D 1 sz31 O<|G O<|zA<|zS _ (Weak.mem [false,true,false,true,true,true,true] O)<|zM<|fin2 (qQ yP O (A 0 O) O) (L O) ?_
         exact ⟨by rw [hT];first|(rw [zBd (by omega)];rfl)|(rw [zBc (by omega)];rfl)|(rw [zAy (by omega)];rfl)|(rw [zBb (by omega)];rfl)|(rw [wO (by omega)];rfl)|(rw [wP ho h10];rfl)|(rw [zBa ho h10 c12];rfl)|(rw [zAz ho h10 c12];rfl),[_],O⟩
        ·try simp only [sx] at c10
         have hlen2:=zEb hpart (by omega)
         have ho:¬opLow e.Op:=by unfold opLow;omega
         refine zH<|zF<|zF<|qU 13 mixed (by kernel_rfl) O O<|zE O O (zG O O)<|zE O O (zG O O)<|zE O O (yJ 0 O el28 O O)<|zE O O (yH O O O (by simp only [List.length_map];exact ⟨by omega,by omega⟩))<|zE O O (qC 0 O el28 O O O (by simp only [List.length_map];omega) (by simp only [List.length_map];omega))<|zE O O (qG O yP O (yK 0 O (hgn 2 (by omega) (by omega) _ (by simp only [List.length_map];rfl))) O)<|zE O O (zG O O)<|zE O O (zG O O)<|zE O O (yJ 0 O el28 O O)<|zE O O (yH O O O (by simp only [List.length_map];exact ⟨by omega,by omega⟩))<|zE O O (qC 0 O el28 O O O (by simp only [List.length_map];omega) (by simp only [List.length_map];omega))<|zE O O (qG O yP O (yK 0 O (hgn 1 (by omega) (by omega) _ (by simp only [List.length_map];rfl))) O)<|zE O O (zCr O fl31 O O O)<|yM<|zA<|zC O (fun c11=>?_) (fun c11=>?_)
         ·have h10:=zGm c11
          refine R O<|v O (yB O zr31 pl31 O)<|D 1 sz31 O<|G O<|zA<|zS _ (Weak.mem [false,true,false,true,true,true,true] O)<|zM<|fin2 (qQ yP O (A 0 O) O) (L O) ?_
          exact ⟨by rw [hT];first|(rw [zBd (by omega)];rfl)|(rw [zBc (by omega)];rfl)|(rw [zAy (by omega)];rfl)|(rw [zBb (by omega)];rfl)|(rw [wO (by omega)];rfl)|(rw [wP ho h10];rfl)|(rw [zBa ho h10 c12];rfl)|(rw [zAz ho h10 c12];rfl),[_],O⟩
         ·have h10:=zGn c11
          refine zH<|zF<|R O<|zP kC (A 2 O) O<|qW O ok171 (kN e) ⟨zB,O,T⟩<|zA<|zC O (fun c12=>?_) (fun c12=>?_)
          ·try simp only [sx] at c12
           refine R O<|v O (yB O zr31 pl31 O)<|D 1 sz31 O<|G O<|zA<|zS _ (Weak.mem [false,true,false,true,true,true,true] O)<|zM<|fin2 (qQ yP O (A 0 O) O) (L O) ?_
           exact ⟨by rw [hT];first|(rw [zBd (by omega)];rfl)|(rw [zBc (by omega)];rfl)|(rw [zAy (by omega)];rfl)|(rw [zBb (by omega)];rfl)|(rw [wO (by omega)];rfl)|(rw [wP ho h10];rfl)|(rw [zBa ho h10 c12];rfl)|(rw [zAz ho h10 c12];rfl),[_],O⟩
          ·try simp only [sx] at c12
           refine zH<|R O<|G O<|G O<|v O (yJ 0 O el28 O O)<|yF O (by simp only [List.length_map];exact ⟨by omega,by omega⟩)<|v O (qC 0 O el28 O O O (by simp only [List.length_map];omega) (by simp only [List.length_map];omega))<|zP yP (yK 0 O (hgn 1 (by omega) (by omega) _ (by simp only [List.length_map];rfl))) O<|D 1 sz31 O<|G O<|zA<|zS _ (Weak.mem [false,true,false,true,true,true,true] O)<|zM<|fin2 (qQ yP O (A 0 O) O) (L O) ?_
           exact ⟨by rw [hT];first|(rw [zBd (by omega)];rfl)|(rw [zBc (by omega)];rfl)|(rw [zAy (by omega)];rfl)|(rw [zBb (by omega)];rfl)|(rw [wO (by omega)];rfl)|(rw [wP ho h10];rfl)|(rw [zBa ho h10 c12];rfl)|(rw [zAz ho h10 c12];rfl),[_],O⟩
       ·try simp only [sx] at c8
        refine R O<|yO O<|G O<|zA<|zC O (fun c9=>?_) (fun c9=>?_)
        ·try simp only [sx] at c9
         refine zH<|zC O (fun c10=>?_) (fun c10=>?_)
         ·try simp only [sx] at c10
          refine R O<|v O (yB O zr31 pl31 O)<|D 1 sz31 O<|G O<|zA<|zS _ (Weak.mem [false,true,false,true,true,true,true] O)<|zM<|fin2 (qQ yP O (A 0 O) O) (L O) ?_
          exact ⟨by rw [hT];first|(rw [zBd (by omega)];rfl)|(rw [zBc (by omega)];rfl)|(rw [zAy (by omega)];rfl)|(rw [zBb (by omega)];rfl)|(rw [wO (by omega)];rfl)|(rw [wP ho h10];rfl)|(rw [zBa ho h10 c12];rfl)|(rw [zAz ho h10 c12];rfl),[_],O⟩
         ·try simp only [sx] at c10
          have hlen2:=zEb hpart (by omega)
          have ho:¬opLow e.Op:=by unfold opLow;omega
          refine zH<|zF<|zF<|qU 13 mixed (by kernel_rfl) O O<|zE O O (zG O O)<|zE O O (zG O O)<|zE O O (yJ 0 O el28 O O)<|zE O O (yH O O O (by simp only [List.length_map];exact ⟨by omega,by omega⟩))<|zE O O (qC 0 O el28 O O O (by simp only [List.length_map];omega) (by simp only [List.length_map];omega))<|zE O O (qG O yP O (yK 0 O (hgn 2 (by omega) (by omega) _ (by simp only [List.length_map];rfl))) O)<|zE O O (zG O O)<|zE O O (zG O O)<|zE O O (yJ 0 O el28 O O)<|zE O O (yH O O O (by simp only [List.length_map];exact ⟨by omega,by omega⟩))<|zE O O (qC 0 O el28 O O O (by simp only [List.length_map];omega) (by simp only [List.length_map];omega))<|zE O O (qG O yP O (yK 0 O (hgn 1 (by omega) (by omega) _ (by simp only [List.length_map];rfl))) O)<|zE O O (zCr O fl31 O O O)<|yM<|zA<|zC O (fun c11=>?_) (fun c11=>?_)
          ·have h10:=zGm c11
           refine R O<|v O (yB O zr31 pl31 O)<|D 1 sz31 O<|G O<|zA<|zS _ (Weak.mem [false,true,false,true,true,true,true] O)<|zM<|fin2 (qQ yP O (A 0 O) O) (L O) ?_
           exact ⟨by rw [hT];first|(rw [zBd (by omega)];rfl)|(rw [zBc (by omega)];rfl)|(rw [zAy (by omega)];rfl)|(rw [zBb (by omega)];rfl)|(rw [wO (by omega)];rfl)|(rw [wP ho h10];rfl)|(rw [zBa ho h10 c12];rfl)|(rw [zAz ho h10 c12];rfl),[_],O⟩
          ·have h10:=zGn c11
           refine zH<|zF<|R O<|zP kC (A 2 O) O<|qW O ok171 (kN e) ⟨zB,O,T⟩<|zA<|zC O (fun c12=>?_) (fun c12=>?_)
           ·try simp only [sx] at c12
            refine R O<|v O (yB O zr31 pl31 O)<|D 1 sz31 O<|G O<|zA<|zS _ (Weak.mem [false,true,false,true,true,true,true] O)<|zM<|fin2 (qQ yP O (A 0 O) O) (L O) ?_
            exact ⟨by rw [hT];first|(rw [zBd (by omega)];rfl)|(rw [zBc (by omega)];rfl)|(rw [zAy (by omega)];rfl)|(rw [zBb (by omega)];rfl)|(rw [wO (by omega)];rfl)|(rw [wP ho h10];rfl)|(rw [zBa ho h10 c12];rfl)|(rw [zAz ho h10 c12];rfl),[_],O⟩
           ·try simp only [sx] at c12
            refine zH<|R O<|G O<|G O<|v O (yJ 0 O el28 O O)<|yF O (by simp only [List.length_map];exact ⟨by omega,by omega⟩)<|v O (qC 0 O el28 O O O (by simp only [List.length_map];omega) (by simp only [List.length_map];omega))<|zP yP (yK 0 O (hgn 1 (by omega) (by omega) _ (by simp only [List.length_map];rfl))) O<|D 1 sz31 O<|G O<|zA<|zS _ (Weak.mem [false,true,false,true,true,true,true] O)<|zM<|fin2 (qQ yP O (A 0 O) O) (L O) ?_
            exact ⟨by rw [hT];first|(rw [zBd (by omega)];rfl)|(rw [zBc (by omega)];rfl)|(rw [zAy (by omega)];rfl)|(rw [zBb (by omega)];rfl)|(rw [wO (by omega)];rfl)|(rw [wP ho h10];rfl)|(rw [zBa ho h10 c12];rfl)|(rw [zAz ho h10 c12];rfl),[_],O⟩
        ·try simp only [sx] at c9
         refine zI O<|yO O<|G O<|zA<|zC O (fun c10=>?_) (fun c10=>?_)
         ·try simp only [sx] at c10
          refine R O<|v O (yB O zr31 pl31 O)<|D 1 sz31 O<|G O<|zA<|zS _ (Weak.mem [false,true,false,true,true,true,true] O)<|zM<|fin2 (qQ yP O (A 0 O) O) (L O) ?_
          exact ⟨by rw [hT];first|(rw [zBd (by omega)];rfl)|(rw [zBc (by omega)];rfl)|(rw [zAy (by omega)];rfl)|(rw [zBb (by omega)];rfl)|(rw [wO (by omega)];rfl)|(rw [wP ho h10];rfl)|(rw [zBa ho h10 c12];rfl)|(rw [zAz ho h10 c12];rfl),[_],O⟩
         ·try simp only [sx] at c10
          have hlen2:=zEb hpart (by omega)
          have ho:¬opLow e.Op:=by unfold opLow;omega
          refine zH<|zF<|zF<|qU 13 mixed (by kernel_rfl) O O<|zE O O (zG O O)<|zE O O (zG O O)<|zE O O (yJ 0 O el28 O O)<|zE O O (yH O O O (by simp only [List.length_map];exact ⟨by omega,by omega⟩))<|zE O O (qC 0 O el28 O O O (by simp only [List.length_map];omega) (by simp only [List.length_map];omega))<|zE O O (qG O yP O (yK 0 O (hgn 2 (by omega) (by omega) _ (by simp only [List.length_map];rfl))) O)<|zE O O (zG O O)<|zE O O (zG O O)<|zE O O (yJ 0 O el28 O O)<|zE O O (yH O O O (by simp only [List.length_map];exact ⟨by omega,by omega⟩))<|zE O O (qC 0 O el28 O O O (by simp only [List.length_map];omega) (by simp only [List.length_map];omega))<|zE O O (qG O yP O (yK 0 O (hgn 1 (by omega) (by omega) _ (by simp only [List.length_map];rfl))) O)<|zE O O (zCr O fl31 O O O)<|yM<|zA<|zC O (fun c11=>?_) (fun c11=>?_)
          ·have h10:=zGm c11
           refine R O<|v O (yB O zr31 pl31 O)<|D 1 sz31 O<|G O<|zA<|zS _ (Weak.mem [false,true,false,true,true,true,true] O)<|zM<|fin2 (qQ yP O (A 0 O) O) (L O) ?_
           exact ⟨by rw [hT];first|(rw [zBd (by omega)];rfl)|(rw [zBc (by omega)];rfl)|(rw [zAy (by omega)];rfl)|(rw [zBb (by omega)];rfl)|(rw [wO (by omega)];rfl)|(rw [wP ho h10];rfl)|(rw [zBa ho h10 c12];rfl)|(rw [zAz ho h10 c12];rfl),[_],O⟩
          ·have h10:=zGn c11
           refine zH<|zF<|R O<|zP kC (A 2 O) O<|qW O ok171 (kN e) ⟨zB,O,T⟩<|zA<|zC O (fun c12=>?_) (fun c12=>?_)
           ·try simp only [sx] at c12
            refine R O<|v O (yB O zr31 pl31 O)<|D 1 sz31 O<|G O<|zA<|zS _ (Weak.mem [false,true,false,true,true,true,true] O)<|zM<|fin2 (qQ yP O (A 0 O) O) (L O) ?_
            exact ⟨by rw [hT];first|(rw [zBd (by omega)];rfl)|(rw [zBc (by omega)];rfl)|(rw [zAy (by omega)];rfl)|(rw [zBb (by omega)];rfl)|(rw [wO (by omega)];rfl)|(rw [wP ho h10];rfl)|(rw [zBa ho h10 c12];rfl)|(rw [zAz ho h10 c12];rfl),[_],O⟩
           ·try simp only [sx] at c12
            refine zH<|R O<|G O<|G O<|v O (yJ 0 O el28 O O)<|yF O (by simp only [List.length_map];exact ⟨by omega,by omega⟩)<|v O (qC 0 O el28 O O O (by simp only [List.length_map];omega) (by simp only [List.length_map];omega))<|zP yP (yK 0 O (hgn 1 (by omega) (by omega) _ (by simp only [List.length_map];rfl))) O<|D 1 sz31 O<|G O<|zA<|zS _ (Weak.mem [false,true,false,true,true,true,true] O)<|zM<|fin2 (qQ yP O (A 0 O) O) (L O) ?_
            exact ⟨by rw [hT];first|(rw [zBd (by omega)];rfl)|(rw [zBc (by omega)];rfl)|(rw [zAy (by omega)];rfl)|(rw [zBb (by omega)];rfl)|(rw [wO (by omega)];rfl)|(rw [wP ho h10];rfl)|(rw [zBa ho h10 c12];rfl)|(rw [zAz ho h10 c12];rfl),[_],O⟩
theorem ck_typeOf (b:Nat) (svL svS svP:Value) (n:Ns) (U S:List ByteArray) (W:List Int)  (e:Ex) (hn:n.Ok) (hpart:partE e=0) (he:e.wt<=1073741824):Con cfg 195 [vP b,vE e] (ckN b svL svS svP n U S W) fun r μ'=>r=.tup [vTy (nodeT (tyF n.Bufs) e).1,vI (nodeT (tyF n.Bufs) e).2]/\μ'=ckN b svL svS svP n U S W:=by
  induction e using Ex.ind with
  |_ e ih=>exact ck_typeOf_step b svL svS svP n U S W hn e (fun a ha h1 h2=>ih a ha h1 h2) hpart he
theorem zEr (b:Nat) (svL svS svP:Value) (n:Ns) (U S:List ByteArray) (W:List Int) (e:Ex) (hn:n.Ok) (hS:S.length<=1000000) (he:e.wt<=1000000000):
    Con cfg 170 [vP b,vE e] (ckN b svL svS svP n U S W) fun r μ'=>r=.tup [vTy (exprT n.Bufs S e).1,vI (exprT n.Bufs S e).2]/\μ'=ckN b svL svS svP n U S W:=by
 refine Con.drop<|zW Tryz.func170 O Tryz.ntmps170 Tryz.results170 O ?_
 intro z hz
 refine R O<|zU O O (qT O O) ?_
 rintro _ _ ⟨b1,rfl,rfl⟩
 refine qS _ (qK 0 O 2 _ PLe.ptr)<|zU O O (qT O O) ?_
 rintro _ _ ⟨b2,rfl,rfl⟩
 refine zU O O (yX O zr31) ?_
 rintro _ _ ⟨b3,rfl,rfl⟩
 refine zU O O (yX O zr36) ?_
 rintro _ _ ⟨b4,rfl,rfl⟩
 refine zA<|zF<|R O<|zP kC (A 2 O) O<|qW O ok193 (expr_Validate e (by omega)) ⟨zB,O,T⟩<|G O<|zA<|R O<|G O<|wL O<|zA<|zC O (fun c1=>?_) (fun c1=>?_)
 ·try simp only [sx] at c1
  refine R O<|v O (yB O zr31 pl31 O)<|G O<|D 1 sz31 O<|D 0 sz36 O<|zA<|zS _ (Weak.mem [true,true,false,true,true,true,true] O)<|zM<|fin2 (qQ yP O (A 1 O) O) (kT zIu O (A 0 O) O) ?_
  exact ⟨by rw [exprT_1 c1];rfl,[_,_],O⟩
 ·try simp only [sx] at c1
  refine zH<|zF<|R O<|zP kC (A 2 O) O<|qW O ok144 (zJi _) ⟨zB,O,T⟩<|zA<|zQ<|zEt (ps:=[17]) hz 2 O O ok173 (zIg e (by omega)) (fun _ _=>O) O (fun pre=>nodesN n.Bufs S pre=0) (fun pre=>[E.row b4 36 [cI 0],E.row b3 31 [cI 0,cI 0,cI 0,cI 0,cI 0]]) (fun c pre=>(c=.ret/\¬nodesN n.Bufs S pre=0)) (fun c pre=>[E.row b4 36 [cI (nodesN n.Bufs S pre)],E.row b3 31 [cI 0,cI 0,cI 0,cI 0,cI 0]]) ⟨O,O⟩ ?_ ?_ ?_ ?_
  ·intro pre x suf hxs hi z hz
   have hxw:x.wt<=e.wt:=zHz e x (by rw [hxs];simp)
   refine zI O<|zU O O (qR [none,none,none,none,none,none,none,none,none,none,some 2,some 4,some 13] O zr57 O) ?_
   rintro _ _ ⟨b5,rfl,rfl⟩
   refine D 0 sz57 O<|zA ?_
   intro z hz
   refine zQ<|R O<|zL zLh Y O<|zP kC (A 0 O) O<|v O (yD [4,4,4,4] O ok194 (ck_node b svL svS svP n U S W x hn hS (by omega)) ⟨zB,O,zB,O,T⟩ O)<|G O<|zA<|R O<|G O<|wL O<|zA<|zC O (fun c2=>?_) (fun c2=>?_)
   ·try simp only [sx] at c2
    refine R O<|v O (yB O zr31 pl31 O)<|G O<|D 2 sz31 O<|D 1 sz36 O<|zA<|zM ?_
    exact zBe (τ:=⟨[],_⟩) (Weak.mk [false,true,true,true,true,true,true,true] T O) ⟨⟨O,by rw [zKf hi];exact c2⟩,(by dsimp only;rw [zKf hi];rfl)⟩
   ·try simp only [sx] at c2
    refine zH ?_
    exact zBe (τ:=⟨[],_⟩) (Weak.mk [false,true,true,true,true,true,true,true] T O) ⟨(by dsimp only;rw [zKf hi];exact c2),O⟩
  ·intro hd
   refine R O<|zL zLh Y O<|zP kC (A 2 O) O<|v O (yD [3,3,3,3] O ok195 (ck_typeOf b svL svS svP n U S W e hn (valid_part c1) (by omega)) ⟨zB,O,zB,O,T⟩ O)<|v O (kV O O O)<|v O (kO O O O)<|D 1 sz31 O<|D 0 sz36 O<|zA<|zS _ (Weak.mem [true,true,false,true,true,true,true] O)<|zM<|fin2 (qQ yP O (A 1 O) O) (kT zIu O (A 0 O) O) ?_
   exact ⟨by rw [exprT_3 c1 hd];rfl,[_,_],O⟩
  ·rintro pre x suf hxs hx
   rcases hx with ⟨hc,hx⟩
   clear hc
   repeat (first|refine zMw ?_|refine zKy ?_)
   refine fin2 (qQ yP O (A 1 O) O) (kT zIu O (A 0 O) O) ?_
   exact ⟨by rw [exprT_2 c1 (by rw [hxs,nodesN_pre hx];exact hx),hxs,nodesN_pre (suf:=suf) hx];rfl,[_,_,_],O⟩
  ·rintro i pre x suf hxs hx
   rcases hx with ⟨hc,hx⟩
   cases hc
theorem ck_store (b:Nat) (svL svS svP:Value) (n:Ns) (U S:List ByteArray) (W:List Int) (s:St) (hn:n.Ok) (hS:S.length<=1000000) (hs:s.wt<=900000000):
    Con cfg 172 [vP b,vSt s] (ckN b svL svS svP n U S W) fun r μ'=>r=vI (storeE n.Bufs S s)/\μ'=ckN b svL svS svP n U S W:=by
 refine zW Tryz.func172 O Tryz.ntmps172 Tryz.results172 O ?_
 intro z hz
 obtain ⟨hE,hI,hIw,hB,hBw⟩:=St.parts hs
 have hrd:=rdE_wt s
 refine R O<|zU O O (qT O O) ?_
 rintro _ _ ⟨b1,rfl,rfl⟩
 refine G O<|zA<|R O<|G O<|zN O zGa<|zL one9 (A 0 O) O<|zN O zOf<|zL zCa (A 0 O) O<|v O (wS [none,none,none,none,none,none,none,none,none,none,some 2,none,some 13] O zr57 pl57 O O)<|v O (yD [1,1,1,1] O ok170 (zEr b svL svS svP n U S W (rdE s) hn hS (by omega)) ⟨zB,O,zB,O,T⟩ O)<|v O (yW O O)<|v O (kV O O O)<|v O (kO O O O)<|zU O O (yX O zr31) ?_
 rintro _ _ ⟨b2,rfl,rfl⟩
 refine D 0 sz31 O<|G O<|zA<|zF<|R O<|G O<|wL O<|zA<|zC O (fun c1=>?_) (fun c1=>?_)
 ·try simp only [sx] at c1
  refine R O<|G O<|G O<|zA<|zS _ (Weak.mem [false,false,true,true,true,true] O)<|zM<|zX O ?_
  exact ⟨by rw [storeE_1 c1],O⟩
 ·try simp only [sx] at c1
  have hT:=exprT_rd c1
  refine zH<|zF<|zF<|yN 12 1 [⟨0,.q []⟩,⟨1,.q []⟩,⟨2,.q []⟩,⟨3,.q [3]⟩,⟨4,.q []⟩,⟨5,.q [2]⟩,⟨6,.q []⟩,⟨7,.q []⟩,⟨8,.q []⟩,⟨9,.q []⟩,⟨10,.e 0 []⟩,⟨11,.e 0 []⟩] mixed (by kernel_rfl) (by kernel_rfl) O O O<|N O<|N O<|N O<|N O<|N O<|N O<|N O<|N O<|N O<|N O<|N O<|N O<|wX<|J O (by decide) O O (zG O O)<|J O (by decide) O O (qF O O)<|J O (by decide) O O (zJ O zKl O)<|J O (by decide) O O (qG O zFj O (A 0 O) O)<|J O (by decide) O O (zJ O zGa O)<|J O (by decide) O O (zD O one9 O (A 0 O) O)<|J O (by decide) O O (qY O ok112 (wE n s.Name hn) ⟨zB,O,zB,O,T⟩)<|J O (by decide) O O (yW O O)<|J O (by decide) O O (kV O O O)<|J O (by decide) O O (kO O O O)<|zIm O O (by decide) O O (qR [none,none,none,none,none,none,some 1,none] O zr69 O) ?_
  rintro _ _ ⟨b3,rfl,rfl⟩
  refine ⟨_,O,?_⟩
  refine zCl O O (by decide) O O (yY O sz69 O O O (zIk 0 O O)) ?_
  rintro _ _ ⟨rfl,rfl⟩
  refine ⟨_,O,?_⟩
  refine wV O<|G O<|zA<|R O<|zN O fd69_3<|zL one3 (A 0 O) O<|yO O<|zA<|zC O (fun c2=>?_) (fun c2=>?_)
  ·try simp only [sx] at c2
   refine R O<|G O<|zA<|zS _ (Weak.mem [false,false,false,true,true,true,true] O)<|zM<|zX O ?_
   exact ⟨by rw [storeE_u c1 (.inl c2)],O⟩
  ·try simp only [sx] at c2
   refine zH<|zF<|R O<|zN O zEz<|zL one3 (A 2 O) O<|yO O<|G O<|rL0 O (fun g7_3=>zJ O fd59_4 O) O<|B 40 O (fun g7_3=>zD O one3 O (A 2 O) O) O<|B 41 O (fun g7_3=>yR O O O) O<|B 42 O (fun g7_3=>zG O O) O<|rLz [] O gv2 T (fun g7_7=>zJ O fd59_4 O) O<|rLz [(44,_)] O gv2 ⟨O,O,T⟩ (fun g7_7=>zD O one3 O (A 2 O) O) O<|rLz [(45,_)] O gv2 ⟨O,O,T⟩ (fun g7_7=>kA O O O) O<|B 43 O (fun g7_3=>kK O O O O (fun h=>kX (by assumption) (lzf h))) O<|kE O (fun h=>h)<|zA<|zC O (fun c3=>?_) (fun c3=>?_)
   ·try simp only [sx] at c3
    refine R O<|G O<|zA<|zS _ (Weak.mem [false,false,false,true,true,true,true] O)<|zM<|zX O ?_
    exact ⟨by rw [storeE_u c1 (.inr c3)],O⟩
   ·try simp only [sx] at c3
    refine zH<|R O<|G O<|zN O zEy<|zP kC (A 2 O) O<|v O (yD [3,3,3,3] O ok170 (zEr b svL svS svP n U S W s.E hn hS (by omega)) ⟨zB,O,zB,O,T⟩ O)<|v O (yW O O)<|v O (kV O O O)<|v O (kO O O O)<|zU O O (yX O zr31) ?_
    rintro _ _ ⟨b4,rfl,rfl⟩
    refine D 0 sz31 O<|G O<|zA<|zF<|R O<|G O<|wL O<|zA<|zC O (fun c4=>?_) (fun c4=>?_)
    ·try simp only [sx] at c4
     refine R O<|G O<|G O<|zA<|zS _ (Weak.mem [false,false,false,false,true,true,true,true] O)<|zM<|zX O ?_
     exact ⟨by rw [storeE_2 c1 (by omega) c4],O⟩
    ·try simp only [sx] at c4
     refine zH<|zF<|R O<|zN O zEy<|zP kC (A 3 O) O<|qW O ok171 (kN s.E) ⟨zB,O,T⟩<|G O<|rL0 O (fun g12_3=>qG O yP O (A 0 O) O) O<|rL0 O (fun g12_3=>qG O yP O (A 2 O) O) O<|rLz [(63,_),(64,_)] O gv1 ⟨O,O,O,O,T⟩ (fun g12_3=>zCr O fl31 O O O) O<|v O (kK O O O O (fun h=>(lzf h)))<|zA<|zC O (fun c5=>?_) (fun c5=>?_)
     ·have h10:=st10_t c5
      rw [hT] at h10
      refine R O<|G O<|zA<|zS _ (Weak.mem [false,false,false,false,true,true,true,true] O)<|zM<|zX O ?_
      exact ⟨by rw [storeE_10 c1 (by omega) c4 h10],O⟩
     ·have h10:=st10_f c5
      rw [hT] at h10
      refine zH<|R O<|G O<|zA<|zS _ (Weak.mem [false,false,false,false,true,true,true,true] O)<|zM<|zX O ?_
      exact ⟨by rw [storeE_0 c1 (by omega) c4 h10],O⟩
theorem ck_loop (b:Nat) (svL svS svP:Value) (n:Ns) (U S:List ByteArray) (W:List Int) (s:St) (hn:n.Ok) (hU:U.length<=1000000):
    Con cfg 169 [vP b,vSt s] (ckN b svL svS svP n U S W) fun r μ'=>r=vI (loopE n.Bufs U s)/\μ'=ckN b svL svS svP n U S W:=by
 refine zW Tryz.func169 O Tryz.ntmps169 Tryz.results169 O ?_
 intro z hz
 refine R O<|zU O O (qT O O) ?_
 rintro _ _ ⟨b1,rfl,rfl⟩
 refine G O<|zA<|zF<|R O<|zN O zGa<|zL one9 (A 0 O) O<|qW O ok96 (zCi _) ⟨zB,O,T⟩<|wK O<|zA<|zC O (fun c1=>?_) (fun c1=>?_)
 ·try simp only [sx] at c1
  refine R O<|G O<|zA<|zS _ (Weak.mem [false,true,true,true,true] O)<|zM<|zX O ?_
  exact ⟨by rw [loopE_7 c1],O⟩
 ·try simp only [sx] at c1
  refine zH<|zF<|zF<|yN 12 1 [⟨0,.q []⟩,⟨1,.q []⟩,⟨2,.q []⟩,⟨3,.q [2]⟩,⟨4,.q []⟩,⟨5,.q [1]⟩,⟨6,.q []⟩,⟨7,.q []⟩,⟨8,.q []⟩,⟨9,.q []⟩,⟨10,.e 0 []⟩,⟨11,.e 0 []⟩] mixed (by kernel_rfl) (by kernel_rfl) O O O<|N O<|N O<|N O<|N O<|N O<|N O<|N O<|N O<|N O<|N O<|N O<|N O<|wX<|J O (by decide) O O (zG O O)<|J O (by decide) O O (qF O O)<|J O (by decide) O O (zJ O zKl O)<|J O (by decide) O O (qG O zFj O (A 0 O) O)<|J O (by decide) O O (zJ O zGa O)<|J O (by decide) O O (zD O one9 O (A 0 O) O)<|J O (by decide) O O (qY O ok112 (wE n s.Name hn) ⟨zB,O,zB,O,T⟩)<|J O (by decide) O O (yW O O)<|J O (by decide) O O (kV O O O)<|J O (by decide) O O (kO O O O)<|zIm O O (by decide) O O (qR [none,none,none,none,none,none,some 1,none] O zr69 O) ?_
  rintro _ _ ⟨b2,rfl,rfl⟩
  refine ⟨_,O,?_⟩
  refine zCl O O (by decide) O O (yY O sz69 O O O (zIk 0 O O)) ?_
  rintro _ _ ⟨rfl,rfl⟩
  refine ⟨_,O,?_⟩
  refine wV O<|G O<|zA<|zF<|qU 10 mixed (by kernel_rfl) O O<|zE O O (zG O O)<|zE O O (zG O O)<|qM [] O O O O gv1 T (fun g4_1=>zG O O) O<|qM [(23,_)] O O O O gv1 ⟨O,O,T⟩ (fun g4_1=>qF O O) O<|qM [(24,_)] O O O O gv1 ⟨O,O,T⟩ (fun g4_1=>zJ O fd159_1 O) O<|qM [(25,_)] O O O O gv1 ⟨O,O,T⟩ (fun g4_1=>zD O zHx O (A 2 O) O) O<|qM [] O O O O gv1 T (fun g4_1=>zJ O zGa O) O<|qM [(27,_)] O O O O gv1 ⟨O,O,T⟩ (fun g4_1=>zD O one9 O (A 1 O) O) O<|qM [(26,_),(28,_)] O O O O gv1 ⟨O,O,O,O,T⟩ (fun g4_1=>zBx 3 O ok165 O (zBp U s.Name (by omega)) O ⟨.inl ⟨O,O⟩,.inr ⟨zB,O⟩,T⟩) O<|zE O O (kK O O O O (fun h=>(lzf h)))<|yM<|zA<|zC O (fun c2=>?_) (fun c2=>?_)
  ·try simp only [sx] at c2
   refine R O<|G O<|zA<|zS _ (Weak.mem [false,false,true,true,true,true] O)<|zM<|zX O ?_
   exact ⟨by rw [loopE_8 c1 c2],O⟩
  ·try simp only [sx] at c2
   have h8:¬(hasBf n.Bufs s.Name=true∨hasB U s.Name=true):=by rw [c2.1,c2.2];simp
   refine zH<|zF<|R O<|zN O fd59_2<|zL one3 (A 1 O) O<|yE O<|G O<|rL0 O (fun g6_3=>zJ O fd59_2 O) O<|B 35 O (fun g6_3=>zD O one3 O (A 1 O) O) O<|B 36 O (fun g6_3=>kA O O O) O<|v O (kK O O O O (fun h=>(lzf h)))<|G O<|rL0 O (fun g6_8=>zJ O fd59_3 O) O<|B 40 O (fun g6_8=>zD O one3 O (A 1 O) O) O<|B 41 O (fun g6_8=>yR O O O) O<|v O (kK O O O O (fun h=>(lzf h)))<|G O<|rL0 O (fun g6_13=>zJ O fd59_3 O) O<|B 45 O (fun g6_13=>zD O one3 O (A 1 O) O) O<|B 46 O (fun g6_13=>kA O O O) O<|v O (kK O O O O (fun h=>(lzf h)))<|zA<|zC O (fun c3=>?_) (fun c3=>?_)
   ·try simp only [sx] at c3
    refine R O<|G O<|zA<|zS _ (Weak.mem [false,false,true,true,true,true] O)<|zM<|zX O ?_
    exact ⟨by rw [loopE_1 c1 h8 (by omega)],O⟩
   ·try simp only [sx] at c3
    refine zH<|R O<|G O<|zA<|zS _ (Weak.mem [false,false,true,true,true,true] O)<|zM<|zX O ?_
    exact ⟨by rw [loopE_0 c1 h8 (by omega)],O⟩
theorem zNt (e:Ex) (he:e.wt<=4294967296):
    Pur cfg 192 [vE e] (vB (emptyE e)):=by
 refine zW Tryz.func192 O Tryz.ntmps192 Tryz.results192 O ?_
 intro z hz
 refine R O<|zU O O (qT O O) ?_
 rintro _ _ ⟨b1,rfl,rfl⟩
 refine G O<|zA<|R O<|zP kC (A 0 O) O<|v O (wS [none,none,none,none,none,none,none,none,none,none,some 2,some 4,some 13] O zr57 pl57 O O)<|qW O ok210 (expr_Same e zEx he (by decide)) ⟨zB,O,zB,O,T⟩<|G O<|zA<|zM<|zX O ?_
 exact O
theorem zNs (s:St) (hs:s.wt<=900000000):
    Pur cfg 168 [vSt s] (vB (synSt s)):=by
 refine zW Tryz.func168 O Tryz.ntmps168 Tryz.results168 O ?_
 intro z hz
 obtain ⟨hE,hI,hIw,hB,hBw⟩:=St.parts hs
 refine R O<|zU O O (qT O O) ?_
 rintro _ _ ⟨b1,rfl,rfl⟩
 refine G O<|zA<|zF<|qU 17 mixed (by kernel_rfl) O O<|zE O O (zJ O zEz O)<|zE O O (zD O one3 O (A 0 O) O)<|zE O O (kJ O O O)<|zE O O (zJ O zEz O)<|zE O O (zD O one3 O (A 0 O) O)<|zE O O (kJ O O O)<|zE O O (zG O O)<|qM [] O O O O gv1 T (fun g1_6=>zJ O zEz O) O<|qM [(13,_)] O O O O gv1 ⟨O,O,T⟩ (fun g1_6=>zD O one3 O (A 0 O) O) O<|qM [(14,_)] O O O O gv1 ⟨O,O,T⟩ (fun g1_6=>kJ O O O) O<|zE O O (kK O O O O (fun h=>(lzf h)))<|zE O O (zJ O zEz O)<|zE O O (zD O one3 O (A 0 O) O)<|zE O O (kJ O O O)<|zE O O (kG O O)<|zE O O (kG O O)<|zE O O (kG O O)<|yM<|zA<|zF<|zQ<|R O<|G O<|wK O<|G O<|rL0 O (fun g2_2=>zG O O) O<|B 24 O (fun g2_2=>wR O O) O<|kE O (fun h=>h)<|G O<|rL0 O (fun g2_6=>zG O O) O<|B 28 O (fun g2_6=>wR O O) O<|kE O (fun h=>h)<|G O<|zA<|zC O (fun c1=>?_) (fun c1=>?_)
 ·refine R O<|G O<|zA<|zM<|zX O ?_
  exact congrArg vB (syn_1 c1)
 ·refine R O<|G O<|G O<|rL0 O (fun g4_1=>zJ O zGa O) O<|B 34 O (fun g4_1=>zD O one9 O (A 0 O) O) O<|B 35 O (fun g4_1=>zCf O O O) O<|kE O (fun h=>h)<|G O<|zA<|zC O (fun c2=>?_) (fun c2=>?_)
  ·refine R O<|G O<|zA<|zM<|zX O ?_
   exact congrArg vB (syn_2 c2)
  ·refine R O<|G O<|wK O<|G O<|rL0 O (fun g6_2=>zJ O fd59_2 O) O<|B 42 O (fun g6_2=>zD O one3 O (A 0 O) O) O<|B 43 O (fun g6_2=>zEq O O O) O<|B 44 O (fun g6_2=>zG O O) O<|rLz [] O gv2 T (fun g6_6=>zJ O fd59_3 O) O<|rLz [(46,_)] O gv2 ⟨O,O,T⟩ (fun g6_6=>zD O one3 O (A 0 O) O) O<|rLz [(47,_)] O gv2 ⟨O,O,T⟩ (fun g6_6=>zEq O O O) O<|B 45 O (fun g6_2=>kK O O O O (fun h=>kX (by assumption) (lzf h))) O<|kE O (fun h=>h)<|G O<|zA<|zC O (fun c3=>?_) (fun c3=>?_)
   ·refine R O<|G O<|zA<|zM<|zX O ?_
    exact congrArg vB (syn_3 c3)
   ·refine R O<|zN O zEz<|zL one3 (A 0 O) O<|wL O<|G O<|rL0 O (fun g8_3=>zJ O fd59_4 O) O<|B 56 O (fun g8_3=>zD O one3 O (A 0 O) O) O<|B 57 O (fun g8_3=>zEq O O O) O<|kE O (fun h=>h)<|G O<|zA<|zC O (fun c4=>?_) (fun c4=>?_)
    ·refine R O<|G O<|zA<|zM<|zX O ?_
     exact congrArg vB (syn_4 c4)
    ·refine R O<|G O<|wK O<|G O<|rL0 O (fun g10_2=>zJ O zOf O) O<|B 64 O (fun g10_2=>zD O zCa O (A 0 O) O) O<|B 65 O (fun g10_2=>wJ O el51 O) O<|B 66 O (fun g10_2=>kA O O O) O<|kE O (fun h=>h)<|G O<|zA<|zC O (fun c5=>?_) (fun c5=>?_)
     ·refine R O<|G O<|zA<|zM<|zX O ?_
      exact congrArg vB (syn_5 c5)
     ·refine R O<|G O<|G O<|rL0 O (fun g12_1=>zJ O zEy O) O<|B 72 O (fun g12_1=>qG O kC O (A 0 O) O) O<|B 73 O (fun g12_1=>qY O ok192 (zNt s.E (by omega)) ⟨zB,O,T⟩) O<|B 74 O (fun g12_1=>wR O O) O<|kE O (fun h=>h)<|G O<|zA<|zC O (fun c6=>?_) (fun c6=>?_)
      ·refine R O<|G O<|zA<|zM<|zX O ?_
       exact congrArg vB (syn_6 c6)
      ·refine zH<|R O<|G O<|wK O<|G O<|rL0 O (fun g14_2=>zJ O zDx O) O<|B 80 O (fun g14_2=>zD O zDa O (A 0 O) O) O<|B 81 O (fun g14_2=>wJ O el23 O) O<|B 82 O (fun g14_2=>kJ O O O) O<|v O (kK O O O O (fun h=>(lzf h)))<|G O<|zA<|zM<|zX O ?_
       exact congrArg vB (syn_7 c1 c2 c3 c4 c5 c6)
theorem ck_statement (b:Nat) (svL svS svP:Value) (n:Ns) (U S:List ByteArray) (W:List Int) (s:St) (hn:n.Ok) (hS:S.length<=1000000) (hU:U.length<=1000000) (hs:s.wt<=900000000):
    Con cfg 143 [vP b,vSt s] (ckN b svL svS svP n U S W) fun r μ'=>r=vI (stE n.Bufs U S s)/\μ'=ckN b svL svS svP n U S W:=by
 refine zW Tryz.func143 O Tryz.ntmps143 Tryz.results143 O ?_
 intro z hz
 obtain ⟨hE,hI,hIw,hB,hBw⟩:=St.parts hs
 refine R O<|zU O O (qT O O) ?_
 rintro _ _ ⟨b1,rfl,rfl⟩
 refine G O<|zA<|zF<|R O<|zP zHc (A 0 O) O<|qW O ok168 (zNs s hs) ⟨zB,O,T⟩<|wK O<|zA<|zC O (fun c1=>?_) (fun c1=>?_)
 ·try simp only [sx] at c1
  refine R O<|G O<|zA<|zS _ (Weak.mem [false,true,true,true,true] O)<|zM<|zX O ?_
  exact ⟨by rw [stE_5 c1],O⟩
 ·try simp only [sx] at c1
  refine zH<|zF<|R O<|zN O zEz<|zL one3 (A 0 O) O<|zA<|zQ<|R O<|yO O<|G O<|zA<|zC O (fun c2=>?_) (fun c2=>?_)
  ·try simp only [sx] at c2
   refine R O<|G O<|zP zHc (A 0 O) O<|v O (yD [1,1,1,1] O ok169 (ck_loop b svL svS svP n U S W s hn hU) ⟨zB,O,zB,O,T⟩ O)<|G O<|zA<|zS _ (Weak.mem [false,true,true,true,true] O)<|zM<|zX O ?_
   exact ⟨by rw [stE_l c1 c2],O⟩
  ·try simp only [sx] at c2
   refine R O<|yO O<|G O<|zA<|zC O (fun c3=>?_) (fun c3=>?_)
   ·try simp only [sx] at c3
    refine zF<|R O<|G O<|zN O zEy<|zP kC (A 0 O) O<|v O (yD [1,1,1,1] O ok170 (zEr b svL svS svP n U S W s.E hn hS (by omega)) ⟨zB,O,zB,O,T⟩ O)<|v O (yW O O)<|v O (kV O O O)<|v O (kO O O O)<|zU O O (yX O zr31) ?_
    rintro _ _ ⟨b2,rfl,rfl⟩
    refine D 0 sz31 O<|G O<|zA<|R O<|G O<|wL O<|zA<|zC O (fun c4=>?_) (fun c4=>?_)
    ·try simp only [sx] at c4
     refine R O<|G O<|G O<|zA<|zS _ (Weak.mem [false,false,true,true,true,true] O)<|zM<|zX O ?_
     exact ⟨by rw [stE_i c1 c3,ifE_x c4],O⟩
    ·try simp only [sx] at c4
     refine zH<|zF<|R O<|zN O zEy<|zP kC (A 1 O) O<|qW O ok171 (kN s.E) ⟨zB,O,T⟩<|wK O<|zA<|zC O (fun c5=>?_) (fun c5=>?_)
     ·try simp only [sx] at c5
      refine R O<|G O<|zA<|zS _ (Weak.mem [false,false,true,true,true,true] O)<|zM<|zX O ?_
      exact ⟨by rw [stE_i c1 c3,ifE_10 c4 c5],O⟩
     ·try simp only [sx] at c5
      refine zH<|R O<|G O<|zA<|zS _ (Weak.mem [false,false,true,true,true,true] O)<|zM<|zX O ?_
      exact ⟨by rw [stE_i c1 c3,ifE_0 c4 c5],O⟩
   ·try simp only [sx] at c3
    refine zH<|R O<|G O<|zP zHc (A 0 O) O<|v O (yD [1,1,1,1] O ok172 (ck_store b svL svS svP n U S W s hn hS hs) ⟨zB,O,zB,O,T⟩ O)<|G O<|zA<|zS _ (Weak.mem [false,true,true,true,true] O)<|zM<|zX O ?_
    exact ⟨by rw [stE_s c1 c2 c3],O⟩
set_option maxHeartbeats 2000000 in
theorem zDn (b:Nat) (svL svS svP:Value) (n:Ns) (U S:List ByteArray) (W:List Int) (l:List St) (hn:n.Ok) (hU:U.length+stsN l<=1000000) (hS:S.length+stsN l<=1000000) (hW:W.length+stsN l<=1000000) (hl:stsWt l<=536870912) (ih:∀s,s∈l->∀(svL svS svP:Value) (U S:List ByteArray) (W:List Int),U.length+stsN s.Body<=1000000->S.length+stsN s.Body<=1000000->W.length+stsN s.Body<=1000000->Con cfg 101 [vP b,vSts s.Body] (ckN b svL svS svP n U S W) fun r μ'=>∃svL' svS' svP' U' S' W',r=vI (chkL n.Bufs U S W 0 s.Body).E/\((chkL n.Bufs U S W 0 s.Body).E=0->U'=(chkL n.Bufs U S W 0 s.Body).U/\S'=S/\W'=W)/\(¬(chkL n.Bufs U S W 0 s.Body).E=0->W'=(chkL n.Bufs U S W 0 s.Body).W)/\μ'=ckN b svL' svS' svP' n U' S' W'):
    Con cfg 101 [vP b,vSts l] (ckN b svL svS svP n U S W) fun r μ'=>∃svL' svS' svP' U' S' W',r=vI (chkL n.Bufs U S W 0 l).E/\((chkL n.Bufs U S W 0 l).E=0->U'=(chkL n.Bufs U S W 0 l).U/\S'=S/\W'=W)/\(¬(chkL n.Bufs U S W 0 l).E=0->W'=(chkL n.Bufs U S W 0 l).W)/\μ'=ckN b svL' svS' svP' n U' S' W':=by
 refine zW Tryz.func101 O Tryz.ntmps101 Tryz.results101 O ?_
 intro z hz
 have hll:=wT l
 have hlN:=zDd l
 refine R O<|G O<|zA<|zF<|R O<|G O<|qH O el23<|G O<|zA<|zQ<|zS ⟨[(12,.c _),(0,.c _),(1,.c _),(11,.c _)],[_,_,_,_]⟩ (Weak.mk [true,true,true,true] ⟨zB,zB,zB,zB,T⟩ O)<|qJ 1 4 O O (Nat×Value×Value×Value×List ByteArray) (fun ⟨k,vL,vS,vP_,u⟩=>[(12,vI k)]) (fun ⟨k,vL,vS,vP_,u⟩=>[E.row b 159 [.sl 8 (n.Bufs.map Bf.cells),.sl 20 (n.Body.map St.cells),.lit vL,.lit vS,.lit vP_],E.vec vL 9 1 (u.map fun s=>[cS s]),E.vec vS 9 1 (S.map fun s=>[cS s]),E.vec vP_ 3 1 (W.map fun i=>[cI i])]) (fun ⟨k,vL,vS,vP_,u⟩=>k<=l.length/\(u.length+stsN (l.drop k)<=1000000)/\((chkL n.Bufs U S W 0 l)=chkL n.Bufs u S W k (l.drop k))) (fun ⟨k,vL,vS,vP_,u⟩=>l.length-k) ⟨⟨0,svL,svS,svP,U⟩,⟨by omega,by simpa using hU,O⟩,Weak.mk [true,true,true,true] ⟨zB,zB,zB,zB,T⟩ O⟩ ?_
 rintro ⟨k,vL,vS,vP_,u⟩ ⟨hk,hub,hp⟩
 show AWP _ _ _ _ _ ⟨[(12,vI k)]++_,[E.row b 159 [.sl 8 (n.Bufs.map Bf.cells),.sl 20 (n.Body.map St.cells),.lit vL,.lit vS,.lit vP_],E.vec vL 9 1 (u.map fun s=>[cS s]),E.vec vS 9 1 (S.map fun s=>[cS s]),E.vec vP_ 3 1 (W.map fun i=>[cI i])]++_⟩
 refine R O<|yE O<|zA<|zF<|zC O (fun c1=>?_) (fun c1=>?_)
 ·try simp only [sx] at c1
  obtain ⟨s,hs⟩:=qX l k (by omega)
  have hsw:=kY (qB hs)
  have hsb:=St.body_wt s
  have hsn:=stsN_drop hs
  have hse:=stN_eq s
  have hsm:=stsN_mem (qB hs)
  have hcl:=chkS_len n.Bufs s u S (W++[(k:Int)])
  refine zH<|zF<|zQ<|R O<|G O<|G O<|zA<|R O<|G O<|G O<|qI O el23 (by omega) (zLv (by assumption))<|zP zHc Y O<|zU O O (qR [none,none,none,none,none,some 4,none,none,none,none,none,none,none,none,none,none,some 2,some 4,some 13,some 20] O zr59 O) ?_
  rintro _ _ ⟨b1,rfl,rfl⟩
  refine D 0 sz59 O<|zA<|R O<|G O<|G O<|qE O<|zN O zEo<|zL zCh (A 1 O) O<|G O<|v O (kF O el67 zr3 O O O O)<|zU O O (kL 4 O el67 O O O (by simp only [List.length_map,List.length_append,List.length_cons,List.length_nil];omega) (by simp only [List.length_map,List.length_append,List.length_cons,List.length_nil];omega)) ?_
  rintro _ _ ⟨sv2,rfl,rfl⟩
  refine qE O<|zN O zEo<|D 1 sz67 O<|zA<|zF<|zF<|zS _ (Weak.vecEq 4 O (rows':=(W++[(k:Int)]).map fun i=>[cI i]) (by first|rfl|simp|rw [List.take_of_length_le (by simp)]))<|zI O<|G O<|zP zHc (A 0 O) O<|v O (yD [1,1,1,1] O ok143 (ck_statement b vL vS _ n u S (W++[(k:Int)]) s hn (by omega) (by omega) (by omega)) ⟨zB,O,zB,O,T⟩ O)<|G O<|zA<|R O<|G O<|wL O<|zA<|zC O (fun c2=>?_) (fun c2=>?_)
  ·try simp only [sx] at c2
   have hx0:=chkS_no (here:=W++[(k:Int)]) (B:=n.Bufs) (U:=u) (sc:=S) (s:=s) c2
   refine R O<|G O<|G O<|zA<|zS _ (Weak.mem [false,true,true,true,true] O)<|zM<|zX O ?_
   refine ⟨_,_,_,_,_,_,?_,fun h0=>?_,fun _=>?_,O⟩
   · rw [zEs hs hp (by rw [hx0];exact c2),hx0]
   · rw [zEs hs hp (by rw [hx0];exact c2),hx0] at h0;exact absurd h0 c2
   · rw [zEs hs hp (by rw [hx0];exact c2),hx0]
  ·try simp only [sx] at c2
   have hin:=chkS_in (here:=W++[(k:Int)]) (B:=n.Bufs) (U:=u) (sc:=S) (s:=s) c2
   refine zH<|R O<|G O<|qE O<|zN O zGc<|zL zHx (A 1 O) O<|v O (yJ 3 O el78 O O)<|G O<|zA<|zF<|R O<|zN O zEz<|zL one3 (A 0 O) O<|yO O<|zA<|zC O (fun c3=>?_) (fun c3=>?_)
   ·try simp only [sx] at c3
    rw [zNq c3,zNq c3] at hin
    refine zF<|yN 9 0 [⟨0,.q []⟩,⟨1,.q []⟩,⟨2,.q []⟩,⟨3,.q []⟩,⟨4,.q [1]⟩,⟨5,.q []⟩,⟨6,.q [0]⟩,⟨7,.q []⟩,⟨8,.e 2 []⟩] mixed (by kernel_rfl) (by kernel_rfl) O O O<|N O<|N O<|N O<|N O<|N O<|N O<|N O<|N O<|N O<|wX<|J O (by decide) O O (zG O O)<|J O (by decide) O O (zG O O)<|J O (by decide) O O (qF O O)<|J O (by decide) O O (zJ O fd159_1 O)<|J O (by decide) O O (zD O zHx O (A 0 O) O)<|J O (by decide) O O (zJ O zGa O)<|J O (by decide) O O (zD O one9 O (A 0 O) O)<|J O (by decide) O O (kF O el78 zr9 O O O O)<|zIm O O (by decide) O O (kL 0 O el78 O O O (by simp only [List.length_map,List.length_append,List.length_cons,List.length_nil];omega) (by simp only [List.length_map,List.length_append,List.length_cons,List.length_nil];omega)) ?_
    rintro _ _ ⟨sv3,rfl,rfl⟩
    refine ⟨_,O,?_⟩
    refine wV O<|qE O<|zN O fd159_1<|D 1 sz78 O<|zA<|zS _ (Weak.vecEq 2 O (rows':=(u++[s.Name]).map fun s=>[cS s]) (by first|rfl|simp|rw [List.take_of_length_le (by simp)]))<|yN 9 0 [⟨0,.q []⟩,⟨1,.q []⟩,⟨2,.q []⟩,⟨3,.q []⟩,⟨4,.q [1]⟩,⟨5,.q []⟩,⟨6,.q [0]⟩,⟨7,.q []⟩,⟨8,.e 3 []⟩] mixed (by kernel_rfl) (by kernel_rfl) O O O<|N O<|N O<|N O<|N O<|N O<|N O<|N O<|N O<|N O<|wX<|J O (by decide) O O (zG O O)<|J O (by decide) O O (zG O O)<|J O (by decide) O O (qF O O)<|J O (by decide) O O (zJ O zGc O)<|J O (by decide) O O (zD O zHx O (A 0 O) O)<|J O (by decide) O O (zJ O zGa O)<|J O (by decide) O O (zD O one9 O (A 0 O) O)<|J O (by decide) O O (kF O el78 zr9 O O O O)<|zIm O O (by decide) O O (kL 0 O el78 O O O (by simp only [List.length_map,List.length_append,List.length_cons,List.length_nil];omega) (by simp only [List.length_map,List.length_append,List.length_cons,List.length_nil];omega)) ?_
    rintro _ _ ⟨sv4,rfl,rfl⟩
    refine ⟨_,O,?_⟩
    refine wV O<|qE O<|zN O zGc<|D 1 sz78 O<|zA<|zF<|zF<|zS _ (Weak.vecEq 3 O (rows':=(S++[s.Name]).map fun s=>[cS s]) (by first|rfl|simp|rw [List.take_of_length_le (by simp)]))<|zS ⟨_,E.row _ _ _::ckN b _ _ _ n (u++[s.Name]) (S++[s.Name]) (W++[(k:Int)])⟩ (Weak.mem [true,true,true,true,true] O)<|zI O<|G O<|zN O zDx<|zL zDa (A 0 O) O<|zU O O (zT [1,1,1,1] O ok101 (ih s (qB hs) _ _ _ (u++[s.Name]) (S++[s.Name]) (W++[(k:Int)]) (by first|omega|(simp;omega)) (by first|omega|(simp;omega)) (by simp;omega)) ⟨zB,O,zB,O,T⟩ O) ?_
    rintro _ _ ⟨_,⟨svL1,svS1,svP1,U1,S1,W1,rfl,hok,hno,rfl⟩,rfl⟩
    refine G O<|zA<|R O<|G O<|wL O<|zA<|zC O (fun c4=>?_) (fun c4=>?_)
    ·try simp only [sx] at c4
     rw [←hin] at c4 hno
     refine R O<|G O<|G O<|zA<|zS _ (Weak.mem [false,true,true,true,true] O)<|zM<|zX O ?_
     refine ⟨_,_,_,_,_,_,?_,fun h0=>?_,fun _=>?_,O⟩
     · rw [zEs hs hp c4,hin]
     · rw [zEs hs hp c4] at h0;exact absurd h0 c4
     · rw [zEs hs hp c4];exact hno c4
    ·try simp only [sx] at c4
     rw [←hin] at c4 hok
     obtain ⟨hU1,hS1,hW1⟩:=hok c4
     have hS2:=hS1.symm
     subst hU1 hS2 hW1
     refine zH<|R O<|G O<|G O<|qE O<|zN O zGc<|zL zHx (A 1 O) O<|G O<|zU O O (zCv (k:=S.length) 3 O el78 O O O (by simp) (by simp)) ?_
     rintro _ _ ⟨sv5,rfl,rfl⟩
     refine qE O<|zN O zGc<|D 1 sz78 O<|zA<|zS _ (Weak.vecEq 3 O (rows':=S.map fun s=>[cS s]) (by first|rfl|simp|rw [List.take_of_length_le (by simp)]))<|yN 12 0 [⟨0,.q []⟩,⟨1,.q []⟩,⟨2,.q []⟩,⟨3,.q []⟩,⟨4,.q [1]⟩,⟨5,.q []⟩,⟨6,.q []⟩,⟨7,.q []⟩,⟨8,.q [1]⟩,⟨9,.q [4]⟩,⟨10,.q []⟩,⟨11,.e 4 []⟩] mixed (by kernel_rfl) (by kernel_rfl) O O O<|N O<|N O<|N O<|N O<|N O<|N O<|N O<|N O<|N O<|N O<|N O<|N O<|wX<|J O (by decide) O O (zG O O)<|J O (by decide) O O (zG O O)<|J O (by decide) O O (qF O O)<|J O (by decide) O O (zJ O zEo O)<|J O (by decide) O O (zD O zCh O (A 0 O) O)<|J O (by decide) O O (zG O O)<|J O (by decide) O O (qF O O)<|J O (by decide) O O (zJ O zEo O)<|J O (by decide) O O (zD O zCh O (A 0 O) O)<|J O (by decide) O O (yJ 0 O el67 O O)<|J O (by decide) O O (yH O O O (by simp only [List.length_map,List.length_append,List.length_cons,List.length_nil];exact ⟨by omega,by omega⟩))<|zIm O O (by decide) O O (zCv (k:=W.length) 0 O el67 O O O (by simp only [List.length_map,List.length_append,List.length_cons,List.length_nil];omega) (by simp)) ?_
     rintro _ _ ⟨sv6,rfl,rfl⟩
     refine ⟨_,O,?_⟩
     refine wV O<|qE O<|zN O zEo<|D 1 sz67 O<|zA<|zS _ (Weak.vecEq 4 O (rows':=W.map fun i=>[cI i]) (by first|rfl|simp|rw [List.take_of_length_le (by simp)]))<|zI O<|qD O ⟨by omega,by omega⟩<|G O<|zA ?_
     refine ⟨⟨k+1,_,_,_,(chkS n.Bufs u S (W++[(k:Int)]) s).U⟩,⟨by omega,by omega,chkL_next hs hp c4⟩,(by show l.length-(k+1)<l.length-k;omega),Weak.mk [false,true,true,true,true] ⟨zB,zB,zB,zB,T⟩ O⟩
   ·try simp only [sx] at c3
    rw [nextU_no c3,nextU_no c3] at hin
    refine zH<|zF<|zF<|zS ⟨_,E.row _ _ _::ckN b _ _ _ n u S (W++[(k:Int)])⟩ (Weak.mem [true,true,true,true,true] O)<|zI O<|G O<|zN O zDx<|zL zDa (A 0 O) O<|zU O O (zT [1,1,1,1] O ok101 (ih s (qB hs) _ _ _ u S (W++[(k:Int)]) (by first|omega|(simp;omega)) (by first|omega|(simp;omega)) (by simp;omega)) ⟨zB,O,zB,O,T⟩ O) ?_
    rintro _ _ ⟨_,⟨svL1,svS1,svP1,U1,S1,W1,rfl,hok,hno,rfl⟩,rfl⟩
    refine G O<|zA<|R O<|G O<|wL O<|zA<|zC O (fun c4=>?_) (fun c4=>?_)
    ·try simp only [sx] at c4
     rw [←hin] at c4 hno
     refine R O<|G O<|G O<|zA<|zS _ (Weak.mem [false,true,true,true,true] O)<|zM<|zX O ?_
     refine ⟨_,_,_,_,_,_,?_,fun h0=>?_,fun _=>?_,O⟩
     · rw [zEs hs hp c4,hin]
     · rw [zEs hs hp c4] at h0;exact absurd h0 c4
     · rw [zEs hs hp c4];exact hno c4
    ·try simp only [sx] at c4
     rw [←hin] at c4 hok
     obtain ⟨hU1,hS1,hW1⟩:=hok c4
     have hS2:=hS1.symm
     subst hU1 hS2 hW1
     refine zH<|R O<|G O<|G O<|qE O<|zN O zGc<|zL zHx (A 1 O) O<|G O<|zU O O (zCv (k:=S.length) 3 O el78 O O O (by simp) (by simp)) ?_
     rintro _ _ ⟨sv7,rfl,rfl⟩
     refine qE O<|zN O zGc<|D 1 sz78 O<|zA<|zS _ (Weak.vecEq 3 O (rows':=S.map fun s=>[cS s]) (by first|rfl|simp|rw [List.take_of_length_le (by simp)]))<|yN 12 0 [⟨0,.q []⟩,⟨1,.q []⟩,⟨2,.q []⟩,⟨3,.q []⟩,⟨4,.q [1]⟩,⟨5,.q []⟩,⟨6,.q []⟩,⟨7,.q []⟩,⟨8,.q [1]⟩,⟨9,.q [4]⟩,⟨10,.q []⟩,⟨11,.e 4 []⟩] mixed (by kernel_rfl) (by kernel_rfl) O O O<|N O<|N O<|N O<|N O<|N O<|N O<|N O<|N O<|N O<|N O<|N O<|N O<|wX<|J O (by decide) O O (zG O O)<|J O (by decide) O O (zG O O)<|J O (by decide) O O (qF O O)<|J O (by decide) O O (zJ O zEo O)<|J O (by decide) O O (zD O zCh O (A 0 O) O)<|J O (by decide) O O (zG O O)<|J O (by decide) O O (qF O O)<|J O (by decide) O O (zJ O zEo O)<|J O (by decide) O O (zD O zCh O (A 0 O) O)<|J O (by decide) O O (yJ 0 O el67 O O)<|J O (by decide) O O (yH O O O (by simp only [List.length_map,List.length_append,List.length_cons,List.length_nil];exact ⟨by omega,by omega⟩))<|zIm O O (by decide) O O (zCv (k:=W.length) 0 O el67 O O O (by simp only [List.length_map,List.length_append,List.length_cons,List.length_nil];omega) (by simp)) ?_
     rintro _ _ ⟨sv8,rfl,rfl⟩
     refine ⟨_,O,?_⟩
     refine wV O<|qE O<|zN O zEo<|D 1 sz67 O<|zA<|zS _ (Weak.vecEq 4 O (rows':=W.map fun i=>[cI i]) (by first|rfl|simp|rw [List.take_of_length_le (by simp)]))<|zI O<|qD O ⟨by omega,by omega⟩<|G O<|zA ?_
     refine ⟨⟨k+1,_,_,_,(chkS n.Bufs u S (W++[(k:Int)]) s).U⟩,⟨by omega,by omega,chkL_next hs hp c4⟩,(by show l.length-(k+1)<l.length-k;omega),Weak.mk [false,true,true,true,true] ⟨zB,zB,zB,zB,T⟩ O⟩
 ·try simp only [sx] at c1
  refine qL<|R O<|G O<|zA<|zM<|zX O ?_
  refine ⟨_,_,_,_,_,_,?_,fun _=>⟨?_,O,O⟩,fun h0=>?_,O⟩
  · rw [chkL_end hp (by omega)]
  · rw [chkL_end hp (by omega)]
  · rw [chkL_end hp (by omega)] at h0;exact absurd rfl h0
theorem zJq (b:Nat) (n:Ns) (hn:n.Ok) (s:St) (hl:stsWt s.Body<=536870912):∀(svL svS svP:Value) (U S:List ByteArray) (W:List Int),U.length+stsN s.Body<=1000000->S.length+stsN s.Body<=1000000->W.length+stsN s.Body<=1000000->Con cfg 101 [vP b,vSts s.Body] (ckN b svL svS svP n U S W) fun r μ'=>∃svL' svS' svP' U' S' W',r=vI (chkL n.Bufs U S W 0 s.Body).E/\((chkL n.Bufs U S W 0 s.Body).E=0->U'=(chkL n.Bufs U S W 0 s.Body).U/\S'=S/\W'=W)/\(¬(chkL n.Bufs U S W 0 s.Body).E=0->W'=(chkL n.Bufs U S W 0 s.Body).W)/\μ'=ckN b svL' svS' svP' n U' S' W':=by
  induction s using St.ind with
  |_ s ih=>
    intro svL svS svP U S W hU hS hW
    refine zDn b svL svS svP n U S W s.Body hn hU hS hW hl fun a ha=>ih a ha ?_
    have:=kY ha;have:=St.body_wt a;omega
theorem ck_statements (b:Nat) (svL svS svP:Value) (n:Ns) (U S:List ByteArray) (W:List Int) (l:List St) (hn:n.Ok) (hU:U.length+stsN l<=1000000) (hS:S.length+stsN l<=1000000) (hW:W.length+stsN l<=1000000) (hl:stsWt l<=536870912):Con cfg 101 [vP b,vSts l] (ckN b svL svS svP n U S W) fun r μ'=>∃svL' svS' svP' U' S' W',r=vI (chkL n.Bufs U S W 0 l).E/\((chkL n.Bufs U S W 0 l).E=0->U'=(chkL n.Bufs U S W 0 l).U/\S'=S/\W'=W)/\(¬(chkL n.Bufs U S W 0 l).E=0->W'=(chkL n.Bufs U S W 0 l).W)/\μ'=ckN b svL' svS' svP' n U' S' W':=
  zDn b svL svS svP n U S W l hn hU hS hW hl fun s hs=>zJq b n hn s (by have:=kY hs;have:=St.body_wt s;omega)
theorem zKg (n:Ns) (hn:n.Ok):
    Pur cfg 50 [vNs n] (.tup [vIs (validN n).1,vI (validN n).2]):=by
 refine zW Tryz.func50 O Tryz.ntmps50 Tryz.results50 O ?_
 intro z hz
 have hnb:=hn.body
 refine R O<|zU O O (qT O O) ?_
 rintro _ _ ⟨b1,rfl,rfl⟩
 refine v O (kP 1 O O)<|G O<|zA<|zF<|R O<|zN O zJh<|zL zDa (A 0 O) O<|qW O ok98 (zNr 40 n.Body 40 (by omega) (by omega) O) ⟨zB,O,zB,O,T⟩<|wK O<|zA<|zC O (fun c1=>?_) (fun c1=>?_)
 ·try simp only [sx] at c1
  refine R O<|v O (kP 1 O O)<|G O<|zA<|zM<|fin2 (L O) (L O) ?_
  rw [validN_13 c1];rfl
 ·try simp only [sx] at c1
  refine zH<|zF<|R O<|zN O zJh<|zL zDa (A 0 O) O<|qW O ok99 (zJa n.Body 2000 2000 (by omega) (by omega) O) ⟨zB,O,zB,O,T⟩<|v O (kA O O O)<|G O<|rL0 O (fun g3_4=>zJ O zFb O) O<|B 16 O (fun g3_4=>zD O zLr O (A 0 O) O) O<|B 17 O (fun g3_4=>wJ O el22 O) O<|B 18 O (fun g3_4=>kA O O O) O<|v O (kK O O O O (fun h=>(lzf h)))<|zA<|zC O (fun c2=>?_) (fun c2=>?_)
  ·try simp only [sx] at c2
   refine R O<|v O (kP 1 O O)<|G O<|zA<|zM<|fin2 (L O) (L O) ?_
   rw [validN_2 c1 (by omega)];rfl
  ·try simp only [sx] at c2
   have hnum:=numB_ok (l:=n.Body) (m:=2000) (by omega)
   refine zH<|zF<|R O<|zN O zFb<|zL zLr (A 0 O) O<|qW O ok100 (zFx n.Bufs hn.bufs hn.dims) ⟨zB,O,T⟩<|G O<|zA<|R O<|G O<|wL O<|zA<|zC O (fun c3=>?_) (fun c3=>?_)
   ·try simp only [sx] at c3
    refine R O<|G O<|v O (kP 1 O O)<|G O<|zA<|zM<|fin2 (L O) (L O) ?_
    rw [validN_b c1 (by omega) c3];rfl
   ·try simp only [sx] at c3
    refine zH<|R O<|zP zFj (A 0 O) O<|v O (yB O zr159 pl159 O)<|zU O O (qT O O) ?_
    rintro _ _ ⟨b2,rfl,rfl⟩
    refine qS _ (zAm 9 1)<|qS _ (zAm 9 1)<|qS _ (zAm 3 1)<|G O<|zA<|zF<|R O<|G O<|zN O zJh<|zL zDa (A 4 O) O<|zU O O (zT [3,2,1,0] O ok101 (ck_statements b2 _ _ _ n [] [] [] n.Body hn (by simp;omega) (by simp;omega) (by simp;omega) hnb) ⟨zB,O,zB,O,T⟩ O) ?_
    rintro _ _ ⟨_,⟨svL1,svS1,svP1,U1,S1,W1,rfl,hok,hno,rfl⟩,rfl⟩
    refine G O<|zA<|R O<|G O<|wL O<|zA<|zC O (fun c4=>?_) (fun c4=>?_)
    ·try simp only [sx] at c4
     have hW1:=hno c4
     subst hW1
     refine zS _ (zAb 0 O (regs':=[]) (μ':=[_,_,_,_]) T ⟨EFle.refl _,EFle.refl _,EFle.row (ds:=[_,_,_,_,_]) ⟨.inl O,.inl O,.inl O,.inl O,.inr ⟨O,O⟩,T⟩,EFle.refl _,T⟩)<|R O<|G O<|qE O<|zN O zEo<|zL zCh (A 2 O) O<|G O<|G O<|G O<|zA<|zM<|fin2 (L O) (L O) ?_
     rw [validN_c c1 (by omega) c3]
    ·try simp only [sx] at c4
     refine zH<|R O<|v O (kP 1 O O)<|G O<|zA<|zM<|fin2 (L O) (L O) ?_
     rw [validN_c c1 (by omega) c3,chkL_ok c4,c4];rfl
end Go.W
