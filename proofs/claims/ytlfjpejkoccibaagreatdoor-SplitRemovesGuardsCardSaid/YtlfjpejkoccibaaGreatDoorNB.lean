/-
  Walks: what functions of the program compute. Printed by wip/gen/mk2.py.
  Conditions: none.
-/
import Derived.Test.YtlfjpejkoccibaaGreatDoorNA
set_option linter.unusedSimpArgs false
set_option linter.unusedVariables false
set_option maxRecDepth 10000
namespace Go.W
open Go Go.Eng Go.Proofs Go.L41 Go.Br
attribute [local irreducible] AWP RWP TD finQ
abbrev ckN (b:Nat) (svL svS svP:Value) (n:Ns) (U S:List ByteArray) (W:List Int):List E:=
  [.row b 123 [.sl 8 (n.Bufs.map Bf.cells),.sl 20 (n.Body.map St.cells),.lit svL,.lit svS,.lit svP],.vec svL 9 1 (U.map fun s=>[cS s]),.vec svS 9 1 (S.map fun s=>[cS s]),.vec svP 3 1 (W.map fun i=>[cI i])]
abbrev vP (b:Nat):V:=.c (.lit (.pointer (some ⟨b,0,none⟩)))
theorem kG:aggT Tryz.prog 25=some 2:=by kernel_rfl
theorem zBx:aggT Tryz.prog 46=some 20:=by kernel_rfl
theorem zAa:elemT Tryz.prog 228=some (38,5,40):=by kernel_rfl
theorem zAc:fieldT Tryz.prog 25 1=some (1,23):=by kernel_rfl
theorem zAb:fieldT Tryz.prog 46 0=some (0,3):=by kernel_rfl
theorem zAf:fieldT Tryz.prog 46 1=some (1,9):=by kernel_rfl
theorem zAd:fieldT Tryz.prog 46 2=some (2,3):=by kernel_rfl
theorem zHd:fieldT Tryz.prog 46 3=some (3,3):=by kernel_rfl
theorem zOk:fieldT Tryz.prog 46 4=some (4,3):=by kernel_rfl
theorem zDt:fieldT Tryz.prog 46 5=some (5,34):=by kernel_rfl
theorem zAp:fieldT Tryz.prog 46 6=some (6,44):=by kernel_rfl
theorem zNn:fieldT Tryz.prog 123 0=some (0,25):=by kernel_rfl
theorem fd123_1:fieldT Tryz.prog 123 1=some (2,105):=by kernel_rfl
theorem zIs:fieldT Tryz.prog 123 2=some (3,105):=by kernel_rfl
theorem zGs:fieldT Tryz.prog 123 3=some (4,26):=by kernel_rfl
theorem ok81:callOk Tryz.prog 81=true:=by kernel_rfl
theorem ok82:callOk Tryz.prog 82=true:=by kernel_rfl
theorem ok101:callOk Tryz.prog 101=true:=by kernel_rfl
theorem ok129:callOk Tryz.prog 129=true:=by kernel_rfl
theorem ok163:callOk Tryz.prog 163=true:=by kernel_rfl
theorem ok164:callOk Tryz.prog 164=true:=by kernel_rfl
theorem ok165:callOk Tryz.prog 165=true:=by kernel_rfl
theorem ok167:callOk Tryz.prog 167=true:=by kernel_rfl
theorem ok187:callOk Tryz.prog 187=true:=by kernel_rfl
theorem ok188:callOk Tryz.prog 188=true:=by kernel_rfl
theorem ok189:callOk Tryz.prog 189=true:=by kernel_rfl
theorem ok190:callOk Tryz.prog 190=true:=by kernel_rfl
theorem ok205:callOk Tryz.prog 205=true:=by kernel_rfl
theorem ok209:callOk Tryz.prog 209=true:=by kernel_rfl
theorem ok210:callOk Tryz.prog 210=true:=by kernel_rfl
theorem ok211:callOk Tryz.prog 211=true:=by kernel_rfl
theorem ok241:callOk Tryz.prog 241=true:=by kernel_rfl
theorem ok242:callOk Tryz.prog 242=true:=by kernel_rfl
theorem ok243:callOk Tryz.prog 243=true:=by kernel_rfl
theorem zOe:oneT Tryz.prog 121=true:=by kernel_rfl
theorem pl123:placesT Tryz.prog 123=some [(0,2),(2,1),(3,1),(4,1)]:=by kernel_rfl
theorem L:(Tryz.prog.info? 38).map (·.size)=some 5:=by kernel_rfl
theorem sz46:(Tryz.prog.info? 46).map (·.size)=some 20:=by kernel_rfl
theorem j:zeroT Tryz.prog 46=some [(Value.int IntKind.i64 0),(Value.string (ByteArray.mk #[])),(Value.int IntKind.i64 0),(Value.int IntKind.i64 0),(Value.int IntKind.i64 0),(Value.slice none 0 0),(Value.int IntKind.i64 0),(Value.string (ByteArray.mk #[])),(Value.int IntKind.i64 0),(Value.int IntKind.i64 0),(Value.int IntKind.i64 0),(Value.int IntKind.i64 0),(Value.int IntKind.i64 0),(Value.int IntKind.i64 0),(Value.int IntKind.i64 0),(Value.int IntKind.i64 0),(Value.slice none 0 0),(Value.slice none 0 0),(Value.slice none 0 0),(Value.slice none 0 0)]:=by kernel_rfl
theorem zr123:zeroT Tryz.prog 123=some [(Value.slice none 0 0),(Value.slice none 0 0),(Value.slice none 0 0),(Value.slice none 0 0),(Value.slice none 0 0)]:=by kernel_rfl
theorem zHh (l:List Mono) (c:C) (p:Mono->Bool) (μ:List E) (hl:l.length<=4294967296) (hc:∀x,x∈l->FnCon cfg c [vMono x] μ fun r μ'=>r=vB (p x)/\μ'=μ):
    Con cfg 281 [vMonos l,.c c] μ fun r μ'=>r=vI (idxOf p l)/\μ'=μ:=by
 refine zR Tryz.func281 O Tryz.ntmps281 Tryz.results281 O ?_
 intro z hz
 refine G O<|F O<|I<|zJ<|G O<|F O<|qB O U<|F O<|I<|zQ<|zW ⟨[(8,.c _),(0,.c _),(1,.c _),(7,.c _)],_⟩ (Weak.regs ⟨H,H,H,H,T⟩)<|zCj 1 O (Nat) (fun k=>[(8,vI k)]) (fun k=>μ) (fun k=>k<=l.length/\((l.take k).any p=false)) (fun k=>l.length-k) ⟨0,⟨by omega,O⟩,Weak.regs ⟨H,H,H,H,T⟩⟩ ?_
 rintro k ⟨hk,hp⟩
 refine G O<|yH O<|I<|zJ<|zF O (fun c1=>?_) (fun c1=>?_)
 ·try simp only [R] at c1
  obtain ⟨x,hx⟩:=qW l k (by omega)
  refine zI<|zJ<|zQ<|G O<|F O<|F O<|I<|G O<|F O<|F O<|F O<|qC O U (by omega) (N (by assumption))<|zO zOb qA O<|zU O O (wU O O (hc _ (zZ hx)) ⟨H,O,T⟩) ?_
  rintro _ _ ⟨rfl,rfl⟩
  refine I<|zF O (fun c2=>?_) (fun c2=>?_)
  ·try simp only [R] at c2
   refine G O<|F O<|F O<|I<|o<|X O ?_
   exact ⟨by rw [zPr hx c2 hp],O⟩
  ·try simp only [R] at c2
   refine zI<|zS O<|qH O ⟨by omega,by omega⟩<|F O<|I ?_
   refine ⟨k+1,⟨by omega,zQf hx hp c2⟩,(by omega),Weak.regs ⟨H,H,H,H,T⟩⟩
 ·try simp only [R] at c1
  refine qN<|G O<|F O<|I<|o<|X O ?_
  exact ⟨by rw [zJg (by rw [yL (by omega)] at hp;exact hp)],O⟩
theorem zEy (l:List Mono) (c:C) (p:Mono->Bool) (μ:List E) (hl:l.length<=4294967296) (hc:∀x,x∈l->FnCon cfg c [vMono x] μ fun r μ'=>r=vB (p x)/\μ'=μ):
    Con cfg 241 [vMonos l,.c c] μ fun r μ'=>r=vB (l.any p)/\μ'=μ:=by
 refine zR Tryz.func241 O Tryz.ntmps241 Tryz.results241 O ?_
 intro z hz
 refine G O<|F O<|I<|G O<|F O<|F O<|zU O O (zAh O ok281 (zHh l c p μ hl hc) ⟨H,O,H,O,T⟩) ?_
 rintro _ _ ⟨rfl,rfl⟩
 refine zX O (wG O O O)<|F O<|I<|o<|X O ?_
 exact ⟨by rw [zLy],O⟩
theorem zJp (l:List Lf) (c:C) (p:Lf->Bool) (μ:List E) (hl:l.length<=4294967296) (hc:∀x,x∈l->FnCon cfg c [vLin x] μ fun r μ'=>r=vB (p x)/\μ'=μ):
    Con cfg 243 [vLins l,.c c] μ fun r μ'=>r=vI (idxOf p l)/\μ'=μ:=by
 refine zR Tryz.func243 O Tryz.ntmps243 Tryz.results243 O ?_
 intro z hz
 refine G O<|F O<|I<|zJ<|G O<|F O<|qB O s<|F O<|I<|zQ<|zW ⟨[(8,.c _),(0,.c _),(1,.c _),(7,.c _)],_⟩ (Weak.regs ⟨H,H,H,H,T⟩)<|zCj 1 O (Nat) (fun k=>[(8,vI k)]) (fun k=>μ) (fun k=>k<=l.length/\((l.take k).any p=false)) (fun k=>l.length-k) ⟨0,⟨by omega,O⟩,Weak.regs ⟨H,H,H,H,T⟩⟩ ?_
 rintro k ⟨hk,hp⟩
 refine G O<|yH O<|I<|zJ<|zF O (fun c1=>?_) (fun c1=>?_)
 ·try simp only [R] at c1
  obtain ⟨x,hx⟩:=qW l k (by omega)
  refine zI<|zJ<|zQ<|G O<|F O<|F O<|I<|G O<|F O<|F O<|F O<|qC O s (by omega) (N (by assumption))<|zO yY qA O<|zU O O (wU O O (hc _ (zZ hx)) ⟨H,O,T⟩) ?_
  rintro _ _ ⟨rfl,rfl⟩
  refine I<|zF O (fun c2=>?_) (fun c2=>?_)
  ·try simp only [R] at c2
   refine G O<|F O<|F O<|I<|o<|X O ?_
   exact ⟨by rw [zPr hx c2 hp],O⟩
  ·try simp only [R] at c2
   refine zI<|zS O<|qH O ⟨by omega,by omega⟩<|F O<|I ?_
   refine ⟨k+1,⟨by omega,zQf hx hp c2⟩,(by omega),Weak.regs ⟨H,H,H,H,T⟩⟩
 ·try simp only [R] at c1
  refine qN<|G O<|F O<|I<|o<|X O ?_
  exact ⟨by rw [zJg (by rw [yL (by omega)] at hp;exact hp)],O⟩
theorem zGc (l:List Lf) (c:C) (p:Lf->Bool) (μ:List E) (hl:l.length<=4294967296) (hc:∀x,x∈l->FnCon cfg c [vLin x] μ fun r μ'=>r=vB (p x)/\μ'=μ):
    Con cfg 210 [vLins l,.c c] μ fun r μ'=>r=vB (l.any p)/\μ'=μ:=by
 refine zR Tryz.func210 O Tryz.ntmps210 Tryz.results210 O ?_
 intro z hz
 refine G O<|F O<|I<|G O<|F O<|F O<|zU O O (zAh O ok243 (zJp l c p μ hl hc) ⟨H,O,H,O,T⟩) ?_
 rintro _ _ ⟨rfl,rfl⟩
 refine zX O (wG O O O)<|F O<|I<|o<|X O ?_
 exact ⟨by rw [zLy],O⟩
theorem inScope_1 (b:Nat) (svL svS svP:Value) (n:Ns) (U S:List ByteArray) (W:List Int) (m:Mono) (hS:S.length<=1000000):
    Con cfg 242 [vMono m,.c (.iptr [.lit (.pointer (some ⟨b,0,none⟩))])] (ckN b svL svS svP n U S W) fun r μ'=>r=vB (!hasB S m.Name)/\μ'=ckN b svL svS svP n U S W:=by
 refine zR Tryz.func242 O Tryz.ntmps242 Tryz.results242 O ?_
 intro z hz
 refine G O<|zU O O (qM O O) ?_
 rintro _ _ ⟨b1,rfl,rfl⟩
 refine F O<|I<|zJ<|qX 6 mixed (by kernel_rfl) O O<|M O O (Q O zOe O qA O)<|M O O (qU O O)<|M O O (zD O zIs O)<|M O O (Q O zLl O (Y 1 O) O)<|M O O (zD O zAl O)<|M O O (Q O one9 O (Y 0 O) O)<|kB<|zX O (zGv 3 O ok143 O (zCb S m.Name hS) O ⟨.inl ⟨O,O⟩,.inr ⟨H,O⟩,T⟩)<|kO O<|F O<|I<|zW _ (Weak.mem [false,true,true,true,true] O)<|o<|X O ?_
 exact ⟨O,O⟩
theorem zNx (b:Nat) (svL svS svP:Value) (n:Ns) (U S:List ByteArray) (W:List Int) (l:Lf) (hS:S.length<=1000000) (hl:l.L.length<=4294967296):
    Con cfg 209 [vP b,vLin l] (ckN b svL svS svP n U S W) fun r μ'=>r=vB (inSc S l)/\μ'=ckN b svL svS svP n U S W:=by
 refine zR Tryz.func209 O Tryz.ntmps209 Tryz.results209 O ?_
 intro z hz
 refine G O<|zU O O (qM O O) ?_
 rintro _ _ ⟨b1,rfl,rfl⟩
 refine yN _ (yM 0 O 2 _ PLe.ptr)<|zU O O (qM O O) ?_
 rintro _ _ ⟨b2,rfl,rfl⟩
 refine F O<|I<|G O<|zH O kM<|zK wX (Y 0 O) O<|zX O (zDj O O O O O)<|zX O (kF [1,1,1,1] O ok241 (zEy l.L _ (fun m=> !hasB S m.Name) (ckN b svL svS svP n U S W) hl (fun m _=>FnCon.of_con (first:=[]) (cap:=[.iptr [.lit (.pointer (some ⟨b,0,none⟩))]]) ok242 (inScope_1 b svL svS svP n U S W m hS))) ⟨H,O,H,O,T⟩ O)<|kO O<|F O<|I<|zW _ (Weak.mem [false,true,true,true,true] O)<|o<|X O ?_
 exact ⟨by rw [zIi];rfl,O⟩
theorem node_1 (b:Nat) (svL svS svP:Value) (n:Ns) (U S:List ByteArray) (W:List Int) (l:Lf) (hS:S.length<=1000000) (hl:l.L.length<=4294967296):
    Con cfg 211 [vLin l,.c (.iptr [.lit (.pointer (some ⟨b,0,none⟩))])] (ckN b svL svS svP n U S W) fun r μ'=>r=vB (!inSc S l)/\μ'=ckN b svL svS svP n U S W:=by
 refine zR Tryz.func211 O Tryz.ntmps211 Tryz.results211 O ?_
 intro z hz
 refine G O<|zU O O (qM O O) ?_
 rintro _ _ ⟨b1,rfl,rfl⟩
 refine F O<|I<|G O<|zK zOe qA O<|zO yY (Y 0 O) O<|zX O (kF [1,1,1,1] O ok209 (zNx b svL svS svP n U S W l hS hl) ⟨H,O,H,O,T⟩ O)<|kO O<|F O<|I<|zW _ (Weak.mem [false,true,true,true,true] O)<|o<|X O ?_
 exact ⟨O,O⟩
theorem ck_node (b:Nat) (svL svS svP:Value) (n:Ns) (U S:List ByteArray) (W:List Int) (e:Ex) (hn:n.Ok) (hS:S.length<=1000000) (he:e.wt<=1073741824):
    Con cfg 189 [vP b,vE e] (ckN b svL svS svP n U S W) fun r μ'=>r=vI (nodeN n.Bufs S e)/\μ'=ckN b svL svS svP n U S W:=by
 refine zR Tryz.func189 O Tryz.ntmps189 Tryz.results189 O ?_
 intro z hz
 obtain ⟨hL,hI,hA⟩:=e.parts he
 have hwt:=Ex.wt_eq e
 refine G O<|zU O O (qM O O) ?_
 rintro _ _ ⟨b1,rfl,rfl⟩
 refine yN _ (yM 0 O 2 _ PLe.ptr)<|zU O O (qM O O) ?_
 rintro _ _ ⟨b2,rfl,rfl⟩
 refine F O<|I<|G O<|zK zOe qA O<|zH O zCq<|zO yY (Y 0 O) O<|zX O (kF [1,1,1,1] O ok209 (zNx b svL svS svP n U S W e.Lin hS (by omega)) ⟨H,O,H,O,T⟩ O)<|F O<|I<|zJ<|G O<|zH O wA<|zK wR (Y 0 O) O<|qB O A<|F O<|I<|zQ<|zW ⟨[(20,.c _),(5,.c _),(2,.c _),(3,.c _),(18,.c _),(19,.c _)],[_,_,_,_,_]⟩ (Weak.mk [true,true,true,true,true] ⟨H,H,H,H,H,H,T⟩ O) ?_
 refine qK 2 0 O O (Nat) (fun k=>[(20,vI k),(5,vB (inSc S e.Lin&&(e.Idx.take k).all (ixSc S)))]) (fun k=>[]) (fun k=>k<=e.Idx.length) (fun k=>e.Idx.length-k) ⟨0,(by omega),Weak.mk [true,true,true,true,true] ⟨H,VLe.of_eq (congrArg vB (by simp)),H,H,H,H,T⟩ O⟩ ?_
 rintro k hk
 refine G O<|yH O<|I<|zJ<|zF O (fun c1=>?_) (fun c1=>?_)
 ·try simp only [R] at c1
  obtain ⟨x,hx⟩:=qW e.Idx k (by omega)
  refine zI<|zJ<|zQ<|G O<|qC O A (by omega) (N (by assumption))<|zO zOa qA O<|zU O O (qE [none,some 2,none,some 2] O zr72 O) ?_
  rintro _ _ ⟨b3,rfl,rfl⟩
  refine D 0 sz72 O<|I<|zS O<|F O<|F O<|rL0 O (fun g5_1=>Q O zOe O qA O) O<|rL0 O (fun g5_1=>zD O zEm O) O<|B 27 O (fun g5_1=>zY O yY O (Y 0 O) O) O<|rLz [(26,_),(28,_)] O gv1 ⟨O,O,O,O,T⟩ (fun g5_1=>kF [2,2,2,2] O ok209 (zNx b svL svS svP n U S W x.Lin hS (by have:=Ex.idx_wt (zZ hx);omega)) ⟨H,O,H,O,T⟩ O) O<|yQ O (fun h=>h)<|F O<|rL0 O (fun g5_7=>zD O zBa O) O<|B 32 O (fun g5_7=>Q O zEe O (Y 0 O) O) O<|rL0 O (fun g5_7=>zDj O O O O O) O<|rLz [(33,_),(34,_)] O gv1 ⟨O,O,O,O,T⟩ (fun g5_7=>kF [2,2,2,2] O ok210 (zGc x.At _ (fun l=> !inSc S l) (ckN b svL svS svP n U S W) (by have:=Ex.idx_wt (zZ hx);omega) (fun l hl=>FnCon.of_con (first:=[]) (cap:=[.iptr [.lit (.pointer (some ⟨b,0,none⟩))]]) ok211 (node_1 b svL svS svP n U S W l hS (by have:=Ex.idx_wt (zZ hx);have:=zDc hl;omega)))) ⟨H,O,H,O,T⟩ O) O<|B 35 O (fun g5_7=>kV O O) O<|yQ O (fun h=>h)<|F O<|I<|zS O<|qH O ⟨by omega,by omega⟩<|F O<|I ?_
  refine ⟨k+1,(by omega),(by omega),Weak.mk [false,true,true,true,true,true] ⟨H,VLe.of_eq (congrArg vB (by rw [zIi];exact scAll_next hx)),H,H,H,H,T⟩ O⟩
 ·try simp only [R] at c1
  rw [yL (l:=e.Idx) (k:=k) (by omega)]
  refine qN<|zJ<|G O<|F O<|kO O<|I<|zF O (fun c2=>?_) (fun c2=>?_)
  ·have h9:nodeSc S e=false:=(Bool.not_eq_true' _).mp c2
   refine G O<|F O<|I<|zW _ (Weak.mem [false,true,true,true,true] O)<|o<|X O ?_
   exact ⟨by rw [nodeN_9 h9],O⟩
  ·have h9:nodeSc S e=true:=(Bool.not_eq_false' _).mp c2
   refine zI<|zJ<|G O<|zH O kQ<|zK J (Y 0 O) O<|yR O<|I<|zF O (fun c3=>?_) (fun c3=>?_)
   ·try simp only [R] at c3
    refine G O<|F O<|I<|zW _ (Weak.mem [false,true,true,true,true] O)<|o<|X O ?_
    exact ⟨by rw [nodeN_o h9 c3],O⟩
   ·try simp only [R] at c3
    refine zI<|zJ<|kJ 12 1 [⟨0,.q []⟩,⟨1,.q []⟩,⟨2,.q []⟩,⟨3,.q [2]⟩,⟨4,.q []⟩,⟨5,.q [1]⟩,⟨6,.q []⟩,⟨7,.q []⟩,⟨8,.q []⟩,⟨9,.q []⟩,⟨10,.e 0 []⟩,⟨11,.e 0 []⟩] mixed (by kernel_rfl) (by kernel_rfl) O O O<|t O<|t O<|t O<|t O<|t O<|t O<|t O<|t O<|t O<|t O<|t O<|t O<|zBj<|v O (by decide) O O (Q O zOe O qA O)<|v O (by decide) O O (qU O O)<|v O (by decide) O O (zD O zNn O)<|v O (by decide) O O (zY O kG O (Y 0 O) O)<|v O (by decide) O O (zD O zEt O)<|v O (by decide) O O (Q O one9 O (Y 0 O) O)<|v O (by decide) O O (qL O ok101 (wZ n e.Name hn) ⟨H,O,H,O,T⟩)<|v O (by decide) O O (kK O O)<|v O (by decide) O O (wF O O O)<|v O (by decide) O O (wI O O O)<|zHq O O (by decide) O O (qE [none,none,none,none,none,none,some 1,none] O zr65 O) ?_
    rintro _ _ ⟨b4,rfl,rfl⟩
    refine ⟨_,O,?_⟩
    refine zFg O O (by decide) O O (yV O sz65 O O O (zFf 0 O O)) ?_
    rintro _ _ ⟨rfl,rfl⟩
    refine ⟨_,O,?_⟩
    refine zBd O<|F O<|I<|zJ<|G O<|F O<|kO O<|I<|zF O (fun c4=>?_) (fun c4=>?_)
    ·try simp only [R] at c4
     refine G O<|F O<|I<|zW _ (Weak.mem [false,false,true,true,true,true] O)<|o<|X O ?_
     exact ⟨by rw [nodeN_n h9 (by omega) c4],O⟩
    ·try simp only [R] at c4
     refine zI<|zJ<|G O<|zH O zJz<|zK zFm (Y 0 O) O<|qB O el26<|zH O wA<|zK wR (Y 1 O) O<|qB O A<|yR O<|I<|zF O (fun c5=>?_) (fun c5=>?_)
     ·try simp only [R] at c5
      refine G O<|F O<|I<|zW _ (Weak.mem [false,false,true,true,true,true] O)<|o<|X O ?_
      exact ⟨by rw [nodeN_r h9 (by omega) c4 (by omega)],O⟩
     ·try simp only [R] at c5
      refine zI<|zJ<|G O<|zH O wA<|zK wR (Y 1 O) O<|qB O A<|F O<|I<|zQ<|zW ⟨[(66,.c _),(2,.c _),(64,.c _),(65,.c _)],[_,_,_,_]⟩ (Weak.mk [false,false,true,true,true,true] ⟨H,H,H,H,T⟩ O)<|qK 1 0 O O (Nat) (fun j=>[(66,vI j)]) (fun j=>[]) (fun j=>j<=e.Idx.length/\(gathL n.Bufs e.Idx=gathL n.Bufs (e.Idx.drop j))) (fun j=>e.Idx.length-j) ⟨0,⟨by omega,O⟩,Weak.mk [true,true,true,true] ⟨H,H,H,H,T⟩ O⟩ ?_
      rintro j ⟨hk,hq⟩
      refine G O<|yH O<|I<|zJ<|zF O (fun c6=>?_) (fun c6=>?_)
      ·try simp only [R] at c6
       obtain ⟨y,hy⟩:=qW e.Idx j (by omega)
       refine zI<|zJ<|zQ<|G O<|qC O A (by omega) (N (by assumption))<|zO zOa qA O<|zU O O (qE [none,some 2,none,some 2] O zr72 O) ?_
       rintro _ _ ⟨b5,rfl,rfl⟩
       refine D 0 sz72 O<|I<|zJ<|G O<|zH O zEl<|zK one9 (Y 0 O) O<|zX O (yU O O O)<|I<|zF O (fun c7=>?_) (fun c7=>?_)
       ·try simp only [R] at c7
        refine qN<|zS O<|qH O ⟨by omega,by omega⟩<|F O<|I ?_
        refine ⟨j+1,⟨by omega,hq.trans (zJi hy (by first|exact gathE_0 c7|exact zPt c7 c8 (by omega) (by omega)))⟩,(by omega),Weak.mk [false,true,true,true,true] ⟨H,H,H,H,T⟩ O⟩
       ·try simp only [R] at c7
        refine zI<|zJ<|kJ 12 1 [⟨0,.q []⟩,⟨1,.q []⟩,⟨2,.q []⟩,⟨3,.q [2]⟩,⟨4,.q []⟩,⟨5,.q [1]⟩,⟨6,.q []⟩,⟨7,.q []⟩,⟨8,.q []⟩,⟨9,.q []⟩,⟨10,.e 0 []⟩,⟨11,.e 0 []⟩] mixed (by kernel_rfl) (by kernel_rfl) O O O<|t O<|t O<|t O<|t O<|t O<|t O<|t O<|t O<|t O<|t O<|t O<|t O<|zBj<|v O (by decide) O O (Q O zOe O qA O)<|v O (by decide) O O (qU O O)<|v O (by decide) O O (zD O zNn O)<|v O (by decide) O O (zY O kG O (Y 0 O) O)<|v O (by decide) O O (zD O zEl O)<|v O (by decide) O O (Q O one9 O (Y 0 O) O)<|v O (by decide) O O (qL O ok101 (wZ n y.From hn) ⟨H,O,H,O,T⟩)<|v O (by decide) O O (kK O O)<|v O (by decide) O O (wF O O O)<|v O (by decide) O O (wI O O O)<|zHq O O (by decide) O O (qE [none,none,none,none,none,none,some 1,none] O zr65 O) ?_
        rintro _ _ ⟨b6,rfl,rfl⟩
        refine ⟨_,O,?_⟩
        refine zFg O O (by decide) O O (yV O sz65 O O O (zFf 0 O O)) ?_
        rintro _ _ ⟨rfl,rfl⟩
        refine ⟨_,O,?_⟩
        refine zBd O<|F O<|I<|zQ<|G O<|F O<|kO O<|F O<|I<|zF O (fun c8=>?_) (fun c8=>?_)
        ·try simp only [R] at c8
         refine G O<|F O<|I<|zW _ (Weak.mem [false,false,true,true,true,true] O)<|o<|X O ?_
         exact ⟨by rw [zIk h9 (by omega) c4 (by omega),hq,zJh hy (by rw [gathE_9 c7 c8];decide),gathE_9 c7 c8],O⟩
        ·try simp only [R] at c8
         refine G O<|zH O zIr<|zH O zFr<|zK J (Y 0 O) O<|yR O<|F O<|I<|zF O (fun c9=>?_) (fun c9=>?_)
         ·try simp only [R] at c9
          refine G O<|F O<|I<|zW _ (Weak.mem [false,false,true,true,true,true] O)<|o<|X O ?_
          exact ⟨by rw [zIk h9 (by omega) c4 (by omega),hq,zJh hy (by rw [zPv c7 c8 c9];decide),zPv c7 c8 c9],O⟩
         ·try simp only [R] at c9
          refine G O<|zH O zJz<|zK zFm (Y 0 O) O<|qB O el26<|zH O zBa<|zK zEe (Y 1 O) O<|qB O s<|yR O<|F O<|I<|zF O (fun c10=>?_) (fun c10=>?_)
          ·try simp only [R] at c10
           refine G O<|F O<|I<|zW _ (Weak.mem [false,false,true,true,true,true] O)<|o<|X O ?_
           exact ⟨by rw [zIk h9 (by omega) c4 (by omega),hq,zJh hy (by rw [zPu c7 c8 c9 (by omega)];decide),zPu c7 c8 c9 (by omega)],O⟩
          ·try simp only [R] at c10
           refine zI<|zS O<|qH O ⟨by omega,by omega⟩<|F O<|I ?_
           refine ⟨j+1,⟨by omega,hq.trans (zJi hy (by first|exact gathE_0 c7|exact zPt c7 c8 (by omega) (by omega)))⟩,(by omega),Weak.mk [false,false,true,true,true,true] ⟨H,H,H,H,T⟩ O⟩
      ·try simp only [R] at c6
       refine qN<|G O<|F O<|I<|o<|X O ?_
       exact ⟨by rw [zIk h9 (by omega) c4 (by omega),hq,kC (by omega)];rfl,O⟩
theorem ck_typeOf_step (b:Nat) (svL svS svP:Value) (n:Ns) (U S:List ByteArray) (W:List Int) (hn:n.Ok) (e:Ex) (ih:∀a,a∈e.Args->partE a=0->a.wt<=1073741824->Con cfg 190 [vP b,vE a] (ckN b svL svS svP n U S W) fun r μ'=>r=.tup [vTy (nodeT (tyF n.Bufs) a).1,vI (nodeT (tyF n.Bufs) a).2]/\μ'=ckN b svL svS svP n U S W) (hpart:partE e=0) (he:e.wt<=1073741824):
    Con cfg 190 [vP b,vE e] (ckN b svL svS svP n U S W) fun r μ'=>r=.tup [vTy (nodeT (tyF n.Bufs) e).1,vI (nodeT (tyF n.Bufs) e).2]/\μ'=ckN b svL svS svP n U S W:=by
 refine Con.drop<|zR Tryz.func190 O Tryz.ntmps190 Tryz.results190 O ?_
 intro z hz
 obtain ⟨hLl,hIl,hAl⟩:=e.parts he
 have hwt:=Ex.wt_eq e
 refine G O<|zU O O (qM O O) ?_
 rintro _ _ ⟨b1,rfl,rfl⟩
 refine zU O O (yW O m) ?_
 rintro _ _ ⟨b2,rfl,rfl⟩
 refine F O<|I<|G O<|F O<|yN _ (kX 38 5)<|I<|zJ<|G O<|zH O kZ<|zK zAj (Y 2 O) O<|qB O g<|F O<|I<|zQ<|zW ⟨[(16,.c _),(6,.c _),(0,.c _),(3,.c _),(4,.c _),(14,.c _),(15,.c _)],[_,_,_,_,_,_,_]⟩ (Weak.mk [true,true,true,true,true,true,true] ⟨H,H,H,H,H,H,H,T⟩ O)<|qK 2 1 O O (Nat×Value) (fun ⟨k,sv⟩=>[(16,vI k),(6,.c (.lit sv))]) (fun ⟨k,sv⟩=>[E.vec sv 38 5 ((nodeL (tyF n.Bufs) (e.Args.take k)).1.map tyC)]) (fun ⟨k,sv⟩=>k<=e.Args.length/\((nodeL (tyF n.Bufs) (e.Args.take k)).2=0)) (fun ⟨k,sv⟩=>e.Args.length-k) ⟨⟨0,(.slice none 0 0)⟩,⟨by omega,O⟩,Weak.mk [true,true,true,true,true,true,true] ⟨H,H,H,H,H,H,H,T⟩ O⟩ ?_
 rintro ⟨k,sv⟩ ⟨hk,hp⟩
 show AWP _ _ _ _ _ ⟨[(16,vI k),(6,.c (.lit sv))]++_,[E.vec sv 38 5 ((nodeL (tyF n.Bufs) (e.Args.take k)).1.map tyC)]++_⟩
 refine G O<|yH O<|I<|zJ<|zF O (fun c1=>?_) (fun c1=>?_)
 ·try simp only [R] at c1
  obtain ⟨x,hx⟩:=qW e.Args k (by omega)
  have hll:=zFn _ _ hp
  refine zI<|zJ<|zQ<|G O<|qC O g (by omega) (zCk (by assumption))<|zO yX qA O<|zU O O (qE [none,none,none,none,none,none,none,none,none,none,some 2,some 4,some 13] O zr44 O) ?_
  rintro _ _ ⟨b4,rfl,rfl⟩
  refine D 0 sz44 O<|I<|G O<|F O<|zO yX (Y 0 O) O<|zX O (kF [4,4,4,4] O ok190 (ih x (zZ hx) (zRr hpart (zZ hx)) (by have:=Ex.arg_wt (zZ hx);omega)) ⟨H,O,H,O,T⟩ O)<|qP O<|yO O<|qT O<|zU O O (yW O m) ?_
  rintro _ _ ⟨b5,rfl,rfl⟩
  refine D 0 L O<|F O<|I<|zJ<|G O<|F O<|yR O<|I<|zF O (fun c2=>?_) (fun c2=>?_)
  ·try simp only [R] at c2
   refine G O<|zO yK (Y 0 O) O<|F O<|D 3 L O<|F O<|I<|zW _ (Weak.mem [false,false,false,true,false,true,true,true,true] O)<|o<|w (zV yK O (Y 0 O) O) (p O) ?_
   exact ⟨by rw [nodeT_no hx hp c2,nodeT_zero c2];rfl,[_],O⟩
  ·try simp only [R] at c2
   refine zI<|zS O<|F O<|zO yK (Y 0 O) O<|zX O (qS O zAa m O O O O)<|zU O O (yD 2 O zAa O O O (by simp only [List.length_map,List.length_cons,List.length_nil,hll,List.length_take];omega) (by simp only [List.length_map,List.length_cons,List.length_nil,hll,List.length_take];omega)) ?_
   rintro _ _ ⟨sv6,rfl,rfl⟩
   refine F O<|I<|zS O<|qH O ⟨by omega,by omega⟩<|F O<|I ?_
   refine ⟨⟨k+1,sv6⟩,⟨by omega,by rw [zDy hx hp c2]⟩,(by show e.Args.length-(k+1)<e.Args.length-k;omega),Weak.mk [false,false,true,true,true,true,true,true,true] ⟨H,H,H,H,H,H,H,T⟩ (by show _=[E.vec sv6 _ 5 ((nodeL (tyF n.Bufs) (e.Args.take (k+1))).1.map tyC)]++_;rw [zDy hx hp c2];simp only [List.map_append];rfl)⟩
 ·try simp only [R] at c1
  have hll:=zFn _ _ hp
  have hta:e.Args.take k=e.Args:=yL (by omega)
  rw [hta] at hll
  have hg:∀i,i<e.Args.length->((nodeL (tyF n.Bufs) (e.Args.take k)).1.map tyC)[i]? =some (tyC (tyAt (nodeL (tyF n.Bufs) (e.Args.take k)).1 i)):=fun i hi=>zJb (by rw [hta];omega)
  have hgn:∀i:Nat,1<=i->i<=e.Args.length->∀j:Int,j=(((nodeL (tyF n.Bufs) (e.Args.take k)).1.length:Int)-i)->((nodeL (tyF n.Bufs) (e.Args.take k)).1.map tyC)[j.toNat]? =some (tyC (tyAt (nodeL (tyF n.Bufs) (e.Args.take k)).1 ((nodeL (tyF n.Bufs) (e.Args.take k)).1.length-i))):=fun i h1 h2 j hj=>by rw [hta] at *;rw [show j.toNat=(nodeL (tyF n.Bufs) e.Args).1.length-i by omega];exact zJb (by omega)
  have hT:nodeT (tyF n.Bufs) e=tyF n.Bufs e (nodeL (tyF n.Bufs) (e.Args.take k)).1:=nodeT_ok hta hp
  have hlk:(nodeL (tyF n.Bufs) (e.Args.take k)).1.length=e.Args.length:=by rw [hta];exact hll
  refine qN<|zJ<|G O<|zH O kQ<|zK J (Y 2 O) O<|I<|zQ<|zJ<|G O<|yE O<|F O<|I<|zF O (fun c3=>?_) (fun c3=>?_)
  ·try simp only [R] at c3
   refine zI<|zF O (fun c4=>?_) (fun c4=>?_)
   ·try simp only [R] at c4
    refine G O<|zH O zEs<|zO yK (Y 2 O) O<|D 1 L O<|F O<|I<|zW _ (Weak.mem [false,true,false,true,true,true,true] O)<|o<|w (zV yK O (Y 0 O) O) (p O) ?_
    exact ⟨by rw [hT];first|(rw [zBn (by omega)];rfl)|(rw [zBs (by omega)];rfl)|(rw [zBm (by omega)];rfl)|(rw [zBr (by omega)];rfl)|(rw [wS (by omega)];rfl)|(rw [wT ho h10];rfl)|(rw [zBq ho h10 c12];rfl)|(rw [zBl ho h10 c12];rfl),[_],O⟩
   ·try simp only [R] at c4
    refine G O<|yE O<|F O<|I<|zF O (fun c5=>?_) (fun c5=>?_)
    ·try simp only [R] at c5
     refine G O<|yP O m pl38<|D 1 L O<|F O<|I<|zW _ (Weak.mem [false,true,false,true,true,true,true] O)<|o<|w (zV yK O (Y 0 O) O) (p O) ?_
     exact ⟨by rw [hT];first|(rw [zBn (by omega)];rfl)|(rw [zBs (by omega)];rfl)|(rw [zBm (by omega)];rfl)|(rw [zBr (by omega)];rfl)|(rw [wS (by omega)];rfl)|(rw [wT ho h10];rfl)|(rw [zBq ho h10 c12];rfl)|(rw [zBl ho h10 c12];rfl),[_],O⟩
    ·try simp only [R] at c5
     refine G O<|yE O<|F O<|I<|zF O (fun c6=>?_) (fun c6=>?_)
     ·try simp only [R] at c6
      refine zJ<|kJ 12 1 [⟨0,.q []⟩,⟨1,.q []⟩,⟨2,.q []⟩,⟨3,.q [4]⟩,⟨4,.q []⟩,⟨5,.q [3]⟩,⟨6,.q []⟩,⟨7,.q []⟩,⟨8,.q []⟩,⟨9,.q []⟩,⟨10,.e 0 []⟩,⟨11,.e 0 []⟩] mixed (by kernel_rfl) (by kernel_rfl) O O O<|t O<|t O<|t O<|t O<|t O<|t O<|t O<|t O<|t O<|t O<|t O<|t O<|zBj<|v O (by decide) O O (zN O O)<|v O (by decide) O O (qU O O)<|v O (by decide) O O (zD O zNn O)<|v O (by decide) O O (zY O kG O (Y 0 O) O)<|v O (by decide) O O (zD O zEt O)<|v O (by decide) O O (Q O one9 O (Y 0 O) O)<|v O (by decide) O O (qL O ok101 (wZ n e.Name hn) ⟨H,O,H,O,T⟩)<|v O (by decide) O O (kK O O)<|v O (by decide) O O (wF O O O)<|v O (by decide) O O (wI O O O)<|zHq O O (by decide) O O (qE [none,none,none,none,none,none,some 1,none] O zr65 O) ?_
      rintro _ _ ⟨b7,rfl,rfl⟩
      refine ⟨_,O,?_⟩
      refine zFg O O (by decide) O O (yV O sz65 O O O (zFf 0 O O)) ?_
      rintro _ _ ⟨rfl,rfl⟩
      refine ⟨_,O,?_⟩
      refine zBd O<|F O<|I<|G O<|zH O zIr<|zO yK (Y 0 O) O<|D 2 L O<|F O<|I<|zW _ (Weak.mem [false,false,true,false,true,true,true,true] O)<|o<|w (zV yK O (Y 0 O) O) (p O) ?_
      exact ⟨by rw [hT];first|(rw [zBn (by omega)];rfl)|(rw [zBs (by omega)];rfl)|(rw [zBm (by omega)];rfl)|(rw [zBr (by omega)];rfl)|(rw [wS (by omega)];rfl)|(rw [wT ho h10];rfl)|(rw [zBq ho h10 c12];rfl)|(rw [zBl ho h10 c12];rfl),[_],O⟩
     ·try simp only [R] at c6
      refine G O<|yE O<|F O<|I<|zF O (fun c7=>?_) (fun c7=>?_)
      ·try simp only [R] at c7
       have hlen1:=args_len hpart (by omega)
       refine G O<|F O<|zX O (qO 0 O zAa O O O (by omega) (by simp only [List.length_map];omega))<|zO yK (wC 0 O (hg 0 (by omega))) O<|D 1 L O<|F O<|I<|zW _ (Weak.mem [false,true,false,true,true,true,true] O)<|o<|w (zV yK O (Y 0 O) O) (p O) ?_
       exact ⟨by rw [hT];first|(rw [zBn (by omega)];rfl)|(rw [zBs (by omega)];rfl)|(rw [zBm (by omega)];rfl)|(rw [zBr (by omega)];rfl)|(rw [wS (by omega)];rfl)|(rw [wT ho h10];rfl)|(rw [zBq ho h10 c12];rfl)|(rw [zBl ho h10 c12];rfl),[_],O⟩
      ·try simp only [R] at c7
       refine zJ<|G O<|yE O<|F O<|I<|zF O (fun c8=>?_) (fun c8=>?_)
       ·try simp only [R] at c8
        refine zI<|zF O (fun c10=>?_) (fun c10=>?_)
        ·try simp only [R] at c10
         refine G O<|yP O m pl38<|D 1 L O<|F O<|I<|zW _ (Weak.mem [false,true,false,true,true,true,true] O)<|o<|w (zV yK O (Y 0 O) O) (p O) ?_
         exact ⟨by rw [hT];first|(rw [zBn (by omega)];rfl)|(rw [zBs (by omega)];rfl)|(rw [zBm (by omega)];rfl)|(rw [zBr (by omega)];rfl)|(rw [wS (by omega)];rfl)|(rw [wT ho h10];rfl)|(rw [zBq ho h10 c12];rfl)|(rw [zBl ho h10 c12];rfl),[_],O⟩
        ·try simp only [R] at c10
         have hlen2:=zFw hpart (by omega)
         have ho:¬opLow e.Op:=by unfold opLow;omega
         refine zI<|zJ<|zJ<|qX 13 mixed (by kernel_rfl) O O<|M O O (zN O O)<|M O O (zN O O)<|M O O (kE 0 O zAa O O)<|M O O (qZ O O O (by simp only [List.length_map];exact ⟨by omega,by omega⟩))<|M O O (qO 0 O zAa O O O (by simp only [List.length_map];omega) (by simp only [List.length_map];omega))<|M O O (zY O yK O (wC 0 O (hgn 2 (by omega) (by omega) _ (by simp only [List.length_map];rfl))) O)<|M O O (zN O O)<|M O O (zN O O)<|M O O (kE 0 O zAa O O)<|M O O (qZ O O O (by simp only [List.length_map];exact ⟨by omega,by omega⟩))<|M O O (qO 0 O zAa O O O (by simp only [List.length_map];omega) (by simp only [List.length_map];omega))<|M O O (zY O yK O (wC 0 O (hgn 1 (by omega) (by omega) _ (by simp only [List.length_map];rfl))) O)<|M O O (zAu O fl38 O O O)<|kB<|I<|zF O (fun c11=>?_) (fun c11=>?_)
         ·have h10:=zFz c11
          refine G O<|yP O m pl38<|D 1 L O<|F O<|I<|zW _ (Weak.mem [false,true,false,true,true,true,true] O)<|o<|w (zV yK O (Y 0 O) O) (p O) ?_
          exact ⟨by rw [hT];first|(rw [zBn (by omega)];rfl)|(rw [zBs (by omega)];rfl)|(rw [zBm (by omega)];rfl)|(rw [zBr (by omega)];rfl)|(rw [wS (by omega)];rfl)|(rw [wT ho h10];rfl)|(rw [zBq ho h10 c12];rfl)|(rw [zBl ho h10 c12];rfl),[_],O⟩
         ·have h10:=zGa c11
          refine zI<|zJ<|G O<|zO yX (Y 2 O) O<|qJ O ok166 (kY e) ⟨H,O,T⟩<|I<|zF O (fun c12=>?_) (fun c12=>?_)
          ·try simp only [R] at c12
           refine G O<|yP O m pl38<|D 1 L O<|F O<|I<|zW _ (Weak.mem [false,true,false,true,true,true,true] O)<|o<|w (zV yK O (Y 0 O) O) (p O) ?_
           exact ⟨by rw [hT];first|(rw [zBn (by omega)];rfl)|(rw [zBs (by omega)];rfl)|(rw [zBm (by omega)];rfl)|(rw [zBr (by omega)];rfl)|(rw [wS (by omega)];rfl)|(rw [wT ho h10];rfl)|(rw [zBq ho h10 c12];rfl)|(rw [zBl ho h10 c12];rfl),[_],O⟩
          ·try simp only [R] at c12
           refine zI<|G O<|F O<|F O<|zX O (kE 0 O zAa O O)<|zX O (qZ O O O (by simp only [List.length_map];exact ⟨by omega,by omega⟩))<|zX O (qO 0 O zAa O O O (by simp only [List.length_map];omega) (by simp only [List.length_map];omega))<|zO yK (wC 0 O (hgn 1 (by omega) (by omega) _ (by simp only [List.length_map];rfl))) O<|D 1 L O<|F O<|I<|zW _ (Weak.mem [false,true,false,true,true,true,true] O)<|o<|w (zV yK O (Y 0 O) O) (p O) ?_
           exact ⟨by rw [hT];first|(rw [zBn (by omega)];rfl)|(rw [zBs (by omega)];rfl)|(rw [zBm (by omega)];rfl)|(rw [zBr (by omega)];rfl)|(rw [wS (by omega)];rfl)|(rw [wT ho h10];rfl)|(rw [zBq ho h10 c12];rfl)|(rw [zBl ho h10 c12];rfl),[_],O⟩
       ·try simp only [R] at c8
        refine G O<|yE O<|F O<|I<|zF O (fun c9=>?_) (fun c9=>?_)
        ·try simp only [R] at c9
         refine zI<|zF O (fun c10=>?_) (fun c10=>?_)
         ·try simp only [R] at c10
          refine G O<|yP O m pl38<|D 1 L O<|F O<|I<|zW _ (Weak.mem [false,true,false,true,true,true,true] O)<|o<|w (zV yK O (Y 0 O) O) (p O) ?_
          exact ⟨by rw [hT];first|(rw [zBn (by omega)];rfl)|(rw [zBs (by omega)];rfl)|(rw [zBm (by omega)];rfl)|(rw [zBr (by omega)];rfl)|(rw [wS (by omega)];rfl)|(rw [wT ho h10];rfl)|(rw [zBq ho h10 c12];rfl)|(rw [zBl ho h10 c12];rfl),[_],O⟩
         ·try simp only [R] at c10
          have hlen2:=zFw hpart (by omega)
          have ho:¬opLow e.Op:=by unfold opLow;omega
          refine zI<|zJ<|zJ<|qX 13 mixed (by kernel_rfl) O O<|M O O (zN O O)<|M O O (zN O O)<|M O O (kE 0 O zAa O O)<|M O O (qZ O O O (by simp only [List.length_map];exact ⟨by omega,by omega⟩))<|M O O (qO 0 O zAa O O O (by simp only [List.length_map];omega) (by simp only [List.length_map];omega))<|M O O (zY O yK O (wC 0 O (hgn 2 (by omega) (by omega) _ (by simp only [List.length_map];rfl))) O)<|M O O (zN O O)<|M O O (zN O O)<|M O O (kE 0 O zAa O O)<|M O O (qZ O O O (by simp only [List.length_map];exact ⟨by omega,by omega⟩))<|M O O (qO 0 O zAa O O O (by simp only [List.length_map];omega) (by simp only [List.length_map];omega))<|M O O (zY O yK O (wC 0 O (hgn 1 (by omega) (by omega) _ (by simp only [List.length_map];rfl))) O)<|M O O (zAu O fl38 O O O)<|kB<|I<|zF O (fun c11=>?_) (fun c11=>?_)
          ·have h10:=zFz c11
           refine G O<|yP O m pl38<|D 1 L O<|F O<|I<|zW _ (Weak.mem [false,true,false,true,true,true,true] O)<|o<|w (zV yK O (Y 0 O) O) (p O) ?_
           exact ⟨by rw [hT];first|(rw [zBn (by omega)];rfl)|(rw [zBs (by omega)];rfl)|(rw [zBm (by omega)];rfl)|(rw [zBr (by omega)];rfl)|(rw [wS (by omega)];rfl)|(rw [wT ho h10];rfl)|(rw [zBq ho h10 c12];rfl)|(rw [zBl ho h10 c12];rfl),[_],O⟩
          ·have h10:=zGa c11
           refine zI<|zJ<|G O<|zO yX (Y 2 O) O<|qJ O ok166 (kY e) ⟨H,O,T⟩<|I<|zF O (fun c12=>?_) (fun c12=>?_)
           ·try simp only [R] at c12
            refine G O<|yP O m pl38<|D 1 L O<|F O<|I<|zW _ (Weak.mem [false,true,false,true,true,true,true] O)<|o<|w (zV yK O (Y 0 O) O) (p O) ?_
            exact ⟨by rw [hT];first|(rw [zBn (by omega)];rfl)|(rw [zBs (by omega)];rfl)|(rw [zBm (by omega)];rfl)|(rw [zBr (by omega)];rfl)|(rw [wS (by omega)];rfl)|(rw [wT ho h10];rfl)|(rw [zBq ho h10 c12];rfl)|(rw [zBl ho h10 c12];rfl),[_],O⟩
           ·try simp only [R] at c12
            refine zI<|G O<|F O<|F O<|zX O (kE 0 O zAa O O)<|zX O (qZ O O O (by simp only [List.length_map];exact ⟨by omega,by omega⟩))<|zX O (qO 0 O zAa O O O (by simp only [List.length_map];omega) (by simp only [List.length_map];omega))<|zO yK (wC 0 O (hgn 1 (by omega) (by omega) _ (by simp only [List.length_map];rfl))) O<|D 1 L O<|F O<|I<|zW _ (Weak.mem [false,true,false,true,true,true,true] O)<|o<|w (zV yK O (Y 0 O) O) (p O) ?_
            exact ⟨by rw [hT];first|(rw [zBn (by omega)];rfl)|(rw [zBs (by omega)];rfl)|(rw [zBm (by omega)];rfl)|(rw [zBr (by omega)];rfl)|(rw [wS (by omega)];rfl)|(rw [wT ho h10];rfl)|(rw [zBq ho h10 c12];rfl)|(rw [zBl ho h10 c12];rfl),[_],O⟩
        ·try simp only [R] at c9
         refine zS O<|yE O<|F O<|I<|zF O (fun c10=>?_) (fun c10=>?_)
         ·try simp only [R] at c10
          refine G O<|yP O m pl38<|D 1 L O<|F O<|I<|zW _ (Weak.mem [false,true,false,true,true,true,true] O)<|o<|w (zV yK O (Y 0 O) O) (p O) ?_
          exact ⟨by rw [hT];first|(rw [zBn (by omega)];rfl)|(rw [zBs (by omega)];rfl)|(rw [zBm (by omega)];rfl)|(rw [zBr (by omega)];rfl)|(rw [wS (by omega)];rfl)|(rw [wT ho h10];rfl)|(rw [zBq ho h10 c12];rfl)|(rw [zBl ho h10 c12];rfl),[_],O⟩
         ·try simp only [R] at c10
          have hlen2:=zFw hpart (by omega)
          have ho:¬opLow e.Op:=by unfold opLow;omega
          refine zI<|zJ<|zJ<|qX 13 mixed (by kernel_rfl) O O<|M O O (zN O O)<|M O O (zN O O)<|M O O (kE 0 O zAa O O)<|M O O (qZ O O O (by simp only [List.length_map];exact ⟨by omega,by omega⟩))<|M O O (qO 0 O zAa O O O (by simp only [List.length_map];omega) (by simp only [List.length_map];omega))<|M O O (zY O yK O (wC 0 O (hgn 2 (by omega) (by omega) _ (by simp only [List.length_map];rfl))) O)<|M O O (zN O O)<|M O O (zN O O)<|M O O (kE 0 O zAa O O)<|M O O (qZ O O O (by simp only [List.length_map];exact ⟨by omega,by omega⟩))<|M O O (qO 0 O zAa O O O (by simp only [List.length_map];omega) (by simp only [List.length_map];omega))<|M O O (zY O yK O (wC 0 O (hgn 1 (by omega) (by omega) _ (by simp only [List.length_map];rfl))) O)<|M O O (zAu O fl38 O O O)<|kB<|I<|zF O (fun c11=>?_) (fun c11=>?_)
          ·have h10:=zFz c11
           refine G O<|yP O m pl38<|D 1 L O<|F O<|I<|zW _ (Weak.mem [false,true,false,true,true,true,true] O)<|o<|w (zV yK O (Y 0 O) O) (p O) ?_
           exact ⟨by rw [hT];first|(rw [zBn (by omega)];rfl)|(rw [zBs (by omega)];rfl)|(rw [zBm (by omega)];rfl)|(rw [zBr (by omega)];rfl)|(rw [wS (by omega)];rfl)|(rw [wT ho h10];rfl)|(rw [zBq ho h10 c12];rfl)|(rw [zBl ho h10 c12];rfl),[_],O⟩
          ·have h10:=zGa c11
           refine zI<|zJ<|G O<|zO yX (Y 2 O) O<|qJ O ok166 (kY e) ⟨H,O,T⟩<|I<|zF O (fun c12=>?_) (fun c12=>?_)
           ·try simp only [R] at c12
            refine G O<|yP O m pl38<|D 1 L O<|F O<|I<|zW _ (Weak.mem [false,true,false,true,true,true,true] O)<|o<|w (zV yK O (Y 0 O) O) (p O) ?_
            exact ⟨by rw [hT];first|(rw [zBn (by omega)];rfl)|(rw [zBs (by omega)];rfl)|(rw [zBm (by omega)];rfl)|(rw [zBr (by omega)];rfl)|(rw [wS (by omega)];rfl)|(rw [wT ho h10];rfl)|(rw [zBq ho h10 c12];rfl)|(rw [zBl ho h10 c12];rfl),[_],O⟩
           ·try simp only [R] at c12
            refine zI<|G O<|F O<|F O<|zX O (kE 0 O zAa O O)<|zX O (qZ O O O (by simp only [List.length_map];exact ⟨by omega,by omega⟩))<|zX O (qO 0 O zAa O O O (by simp only [List.length_map];omega) (by simp only [List.length_map];omega))<|zO yK (wC 0 O (hgn 1 (by omega) (by omega) _ (by simp only [List.length_map];rfl))) O<|D 1 L O<|F O<|I<|zW _ (Weak.mem [false,true,false,true,true,true,true] O)<|o<|w (zV yK O (Y 0 O) O) (p O) ?_
            exact ⟨by rw [hT];first|(rw [zBn (by omega)];rfl)|(rw [zBs (by omega)];rfl)|(rw [zBm (by omega)];rfl)|(rw [zBr (by omega)];rfl)|(rw [wS (by omega)];rfl)|(rw [wT ho h10];rfl)|(rw [zBq ho h10 c12];rfl)|(rw [zBl ho h10 c12];rfl),[_],O⟩
  ·try simp only [R] at c3
   refine zS O<|yE O<|F O<|I<|zF O (fun c4=>?_) (fun c4=>?_)
   ·try simp only [R] at c4
    refine G O<|zH O zEs<|zO yK (Y 2 O) O<|D 1 L O<|F O<|I<|zW _ (Weak.mem [false,true,false,true,true,true,true] O)<|o<|w (zV yK O (Y 0 O) O) (p O) ?_
    exact ⟨by rw [hT];first|(rw [zBn (by omega)];rfl)|(rw [zBs (by omega)];rfl)|(rw [zBm (by omega)];rfl)|(rw [zBr (by omega)];rfl)|(rw [wS (by omega)];rfl)|(rw [wT ho h10];rfl)|(rw [zBq ho h10 c12];rfl)|(rw [zBl ho h10 c12];rfl),[_],O⟩
   ·try simp only [R] at c4
    refine G O<|yE O<|F O<|I<|zF O (fun c5=>?_) (fun c5=>?_)
    ·try simp only [R] at c5
     refine G O<|yP O m pl38<|D 1 L O<|F O<|I<|zW _ (Weak.mem [false,true,false,true,true,true,true] O)<|o<|w (zV yK O (Y 0 O) O) (p O) ?_
     exact ⟨by rw [hT];first|(rw [zBn (by omega)];rfl)|(rw [zBs (by omega)];rfl)|(rw [zBm (by omega)];rfl)|(rw [zBr (by omega)];rfl)|(rw [wS (by omega)];rfl)|(rw [wT ho h10];rfl)|(rw [zBq ho h10 c12];rfl)|(rw [zBl ho h10 c12];rfl),[_],O⟩
    ·try simp only [R] at c5
     refine G O<|yE O<|F O<|I<|zF O (fun c6=>?_) (fun c6=>?_)
     ·try simp only [R] at c6
      refine zJ<|kJ 12 1 [⟨0,.q []⟩,⟨1,.q []⟩,⟨2,.q []⟩,⟨3,.q [4]⟩,⟨4,.q []⟩,⟨5,.q [3]⟩,⟨6,.q []⟩,⟨7,.q []⟩,⟨8,.q []⟩,⟨9,.q []⟩,⟨10,.e 0 []⟩,⟨11,.e 0 []⟩] mixed (by kernel_rfl) (by kernel_rfl) O O O<|t O<|t O<|t O<|t O<|t O<|t O<|t O<|t O<|t O<|t O<|t O<|t O<|zBj<|v O (by decide) O O (zN O O)<|v O (by decide) O O (qU O O)<|v O (by decide) O O (zD O zNn O)<|v O (by decide) O O (zY O kG O (Y 0 O) O)<|v O (by decide) O O (zD O zEt O)<|v O (by decide) O O (Q O one9 O (Y 0 O) O)<|v O (by decide) O O (qL O ok101 (wZ n e.Name hn) ⟨H,O,H,O,T⟩)<|v O (by decide) O O (kK O O)<|v O (by decide) O O (wF O O O)<|v O (by decide) O O (wI O O O)<|zHq O O (by decide) O O (qE [none,none,none,none,none,none,some 1,none] O zr65 O) ?_
      rintro _ _ ⟨b8,rfl,rfl⟩
      refine ⟨_,O,?_⟩
      refine zFg O O (by decide) O O (yV O sz65 O O O (zFf 0 O O)) ?_
      rintro _ _ ⟨rfl,rfl⟩
      refine ⟨_,O,?_⟩
      refine zBd O<|F O<|I<|G O<|zH O zIr<|zO yK (Y 0 O) O<|D 2 L O<|F O<|I<|zW _ (Weak.mem [false,false,true,false,true,true,true,true] O)<|o<|w (zV yK O (Y 0 O) O) (p O) ?_
      exact ⟨by rw [hT];first|(rw [zBn (by omega)];rfl)|(rw [zBs (by omega)];rfl)|(rw [zBm (by omega)];rfl)|(rw [zBr (by omega)];rfl)|(rw [wS (by omega)];rfl)|(rw [wT ho h10];rfl)|(rw [zBq ho h10 c12];rfl)|(rw [zBl ho h10 c12];rfl),[_],O⟩
     ·try simp only [R] at c6
      refine G O<|yE O<|F O<|I<|zF O (fun c7=>?_) (fun c7=>?_)
      ·try simp only [R] at c7
       have hlen1:=args_len hpart (by omega)
       refine G O<|F O<|zX O (qO 0 O zAa O O O (by omega) (by simp only [List.length_map];omega))<|zO yK (wC 0 O (hg 0 (by omega))) O<|D 1 L O<|F O<|I<|zW _ (Weak.mem [false,true,false,true,true,true,true] O)<|o<|w (zV yK O (Y 0 O) O) (p O) ?_
       exact ⟨by rw [hT];first|(rw [zBn (by omega)];rfl)|(rw [zBs (by omega)];rfl)|(rw [zBm (by omega)];rfl)|(rw [zBr (by omega)];rfl)|(rw [wS (by omega)];rfl)|(rw [wT ho h10];rfl)|(rw [zBq ho h10 c12];rfl)|(rw [zBl ho h10 c12];rfl),[_],O⟩
      ·try simp only [R] at c7
       refine zJ<|G O<|yE O<|F O<|I<|zF O (fun c8=>?_) (fun c8=>?_)
       ·try simp only [R] at c8
        refine zI<|zF O (fun c10=>?_) (fun c10=>?_)
        ·try simp only [R] at c10
         refine G O<|yP O m pl38<|D 1 L O<|F O<|I<|zW _ (Weak.mem [false,true,false,true,true,true,true] O)<|o<|w (zV yK O (Y 0 O) O) (p O) ?_
         exact ⟨by rw [hT];first|(rw [zBn (by omega)];rfl)|(rw [zBs (by omega)];rfl)|(rw [zBm (by omega)];rfl)|(rw [zBr (by omega)];rfl)|(rw [wS (by omega)];rfl)|(rw [wT ho h10];rfl)|(rw [zBq ho h10 c12];rfl)|(rw [zBl ho h10 c12];rfl),[_],O⟩
        ·try simp only [R] at c10
         have hlen2:=zFw hpart (by omega)
         have ho:¬opLow e.Op:=by unfold opLow;omega
         refine zI<|zJ<|zJ<|qX 13 mixed (by kernel_rfl) O O<|M O O (zN O O)<|M O O (zN O O)<|M O O (kE 0 O zAa O O)<|M O O (qZ O O O (by simp only [List.length_map];exact ⟨by omega,by omega⟩))<|M O O (qO 0 O zAa O O O (by simp only [List.length_map];omega) (by simp only [List.length_map];omega))<|M O O (zY O yK O (wC 0 O (hgn 2 (by omega) (by omega) _ (by simp only [List.length_map];rfl))) O)<|M O O (zN O O)<|M O O (zN O O)<|M O O (kE 0 O zAa O O)<|M O O (qZ O O O (by simp only [List.length_map];exact ⟨by omega,by omega⟩))<|M O O (qO 0 O zAa O O O (by simp only [List.length_map];omega) (by simp only [List.length_map];omega))<|M O O (zY O yK O (wC 0 O (hgn 1 (by omega) (by omega) _ (by simp only [List.length_map];rfl))) O)<|M O O (zAu O fl38 O O O)<|kB<|I<|zF O (fun c11=>?_) (fun c11=>?_)
         ·have h10:=zFz c11
          refine G O<|yP O m pl38<|D 1 L O<|F O<|I<|zW _ (Weak.mem [false,true,false,true,true,true,true] O)<|o<|w (zV yK O (Y 0 O) O) (p O) ?_
          exact ⟨by rw [hT];first|(rw [zBn (by omega)];rfl)|(rw [zBs (by omega)];rfl)|(rw [zBm (by omega)];rfl)|(rw [zBr (by omega)];rfl)|(rw [wS (by omega)];rfl)|(rw [wT ho h10];rfl)|(rw [zBq ho h10 c12];rfl)|(rw [zBl ho h10 c12];rfl),[_],O⟩
         ·have h10:=zGa c11
          refine zI<|zJ<|G O<|zO yX (Y 2 O) O<|qJ O ok166 (kY e) ⟨H,O,T⟩<|I<|zF O (fun c12=>?_) (fun c12=>?_)
          ·try simp only [R] at c12
           refine G O<|yP O m pl38<|D 1 L O<|F O<|I<|zW _ (Weak.mem [false,true,false,true,true,true,true] O)<|o<|w (zV yK O (Y 0 O) O) (p O) ?_
           exact ⟨by rw [hT];first|(rw [zBn (by omega)];rfl)|(rw [zBs (by omega)];rfl)|(rw [zBm (by omega)];rfl)|(rw [zBr (by omega)];rfl)|(rw [wS (by omega)];rfl)|(rw [wT ho h10];rfl)|(rw [zBq ho h10 c12];rfl)|(rw [zBl ho h10 c12];rfl),[_],O⟩
          ·try simp only [R] at c12
           refine zI<|G O<|F O<|F O<|zX O (kE 0 O zAa O O)<|zX O (qZ O O O (by simp only [List.length_map];exact ⟨by omega,by omega⟩))<|zX O (qO 0 O zAa O O O (by simp only [List.length_map];omega) (by simp only [List.length_map];omega))<|zO yK (wC 0 O (hgn 1 (by omega) (by omega) _ (by simp only [List.length_map];rfl))) O<|D 1 L O<|F O<|I<|zW _ (Weak.mem [false,true,false,true,true,true,true] O)<|o<|w (zV yK O (Y 0 O) O) (p O) ?_
           exact ⟨by rw [hT];first|(rw [zBn (by omega)];rfl)|(rw [zBs (by omega)];rfl)|(rw [zBm (by omega)];rfl)|(rw [zBr (by omega)];rfl)|(rw [wS (by omega)];rfl)|(rw [wT ho h10];rfl)|(rw [zBq ho h10 c12];rfl)|(rw [zBl ho h10 c12];rfl),[_],O⟩
       ·try simp only [R] at c8
        refine G O<|yE O<|F O<|I<|zF O (fun c9=>?_) (fun c9=>?_)
        ·try simp only [R] at c9
         refine zI<|zF O (fun c10=>?_) (fun c10=>?_)
         ·try simp only [R] at c10
          refine G O<|yP O m pl38<|D 1 L O<|F O<|I<|zW _ (Weak.mem [false,true,false,true,true,true,true] O)<|o<|w (zV yK O (Y 0 O) O) (p O) ?_
          exact ⟨by rw [hT];first|(rw [zBn (by omega)];rfl)|(rw [zBs (by omega)];rfl)|(rw [zBm (by omega)];rfl)|(rw [zBr (by omega)];rfl)|(rw [wS (by omega)];rfl)|(rw [wT ho h10];rfl)|(rw [zBq ho h10 c12];rfl)|(rw [zBl ho h10 c12];rfl),[_],O⟩
         ·try simp only [R] at c10
          have hlen2:=zFw hpart (by omega)
          have ho:¬opLow e.Op:=by unfold opLow;omega
          refine zI<|zJ<|zJ<|qX 13 mixed (by kernel_rfl) O O<|M O O (zN O O)<|M O O (zN O O)<|M O O (kE 0 O zAa O O)<|M O O (qZ O O O (by simp only [List.length_map];exact ⟨by omega,by omega⟩))<|M O O (qO 0 O zAa O O O (by simp only [List.length_map];omega) (by simp only [List.length_map];omega))<|M O O (zY O yK O (wC 0 O (hgn 2 (by omega) (by omega) _ (by simp only [List.length_map];rfl))) O)<|M O O (zN O O)<|M O O (zN O O)<|M O O (kE 0 O zAa O O)<|M O O (qZ O O O (by simp only [List.length_map];exact ⟨by omega,by omega⟩))<|M O O (qO 0 O zAa O O O (by simp only [List.length_map];omega) (by simp only [List.length_map];omega))<|M O O (zY O yK O (wC 0 O (hgn 1 (by omega) (by omega) _ (by simp only [List.length_map];rfl))) O)<|M O O (zAu O fl38 O O O)<|kB<|I<|zF O (fun c11=>?_) (fun c11=>?_)
          ·have h10:=zFz c11
           refine G O<|yP O m pl38<|D 1 L O<|F O<|I<|zW _ (Weak.mem [false,true,false,true,true,true,true] O)<|o<|w (zV yK O (Y 0 O) O) (p O) ?_
           exact ⟨by rw [hT];first|(rw [zBn (by omega)];rfl)|(rw [zBs (by omega)];rfl)|(rw [zBm (by omega)];rfl)|(rw [zBr (by omega)];rfl)|(rw [wS (by omega)];rfl)|(rw [wT ho h10];rfl)|(rw [zBq ho h10 c12];rfl)|(rw [zBl ho h10 c12];rfl),[_],O⟩
          ·have h10:=zGa c11
           refine zI<|zJ<|G O<|zO yX (Y 2 O) O<|qJ O ok166 (kY e) ⟨H,O,T⟩<|I<|zF O (fun c12=>?_) (fun c12=>?_)
           ·try simp only [R] at c12
            refine G O<|yP O m pl38<|D 1 L O<|F O<|I<|zW _ (Weak.mem [false,true,false,true,true,true,true] O)<|o<|w (zV yK O (Y 0 O) O) (p O) ?_
            exact ⟨by rw [hT];first|(rw [zBn (by omega)];rfl)|(rw [zBs (by omega)];rfl)|(rw [zBm (by omega)];rfl)|(rw [zBr (by omega)];rfl)|(rw [wS (by omega)];rfl)|(rw [wT ho h10];rfl)|(rw [zBq ho h10 c12];rfl)|(rw [zBl ho h10 c12];rfl),[_],O⟩
           ·try simp only [R] at c12
            refine zI<|G O<|F O<|F O<|zX O (kE 0 O zAa O O)<|zX O (qZ O O O (by simp only [List.length_map];exact ⟨by omega,by omega⟩))<|zX O (qO 0 O zAa O O O (by simp only [List.length_map];omega) (by simp only [List.length_map];omega))<|zO yK (wC 0 O (hgn 1 (by omega) (by omega) _ (by simp only [List.length_map];rfl))) O<|D 1 L O<|F O<|I<|zW _ (Weak.mem [false,true,false,true,true,true,true] O)<|o<|w (zV yK O (Y 0 O) O) (p O) ?_
            exact ⟨by rw [hT];first|(rw [zBn (by omega)];rfl)|(rw [zBs (by omega)];rfl)|(rw [zBm (by omega)];rfl)|(rw [zBr (by omega)];rfl)|(rw [wS (by omega)];rfl)|(rw [wT ho h10];rfl)|(rw [zBq ho h10 c12];rfl)|(rw [zBl ho h10 c12];rfl),[_],O⟩
        ·try simp only [R] at c9
         refine zS O<|yE O<|F O<|I<|zF O (fun c10=>?_) (fun c10=>?_)
         ·try simp only [R] at c10
          refine G O<|yP O m pl38<|D 1 L O<|F O<|I<|zW _ (Weak.mem [false,true,false,true,true,true,true] O)<|o<|w (zV yK O (Y 0 O) O) (p O) ?_
          exact ⟨by rw [hT];first|(rw [zBn (by omega)];rfl)|(rw [zBs (by omega)];rfl)|(rw [zBm (by omega)];rfl)|(rw [zBr (by omega)];rfl)|(rw [wS (by omega)];rfl)|(rw [wT ho h10];rfl)|(rw [zBq ho h10 c12];rfl)|(rw [zBl ho h10 c12];rfl),[_],O⟩
         ·try simp only [R] at c10
          have hlen2:=zFw hpart (by omega)
          have ho:¬opLow e.Op:=by unfold opLow;omega
          refine zI<|zJ<|zJ<|qX 13 mixed (by kernel_rfl) O O<|M O O (zN O O)<|M O O (zN O O)<|M O O (kE 0 O zAa O O)<|M O O (qZ O O O (by simp only [List.length_map];exact ⟨by omega,by omega⟩))<|M O O (qO 0 O zAa O O O (by simp only [List.length_map];omega) (by simp only [List.length_map];omega))<|M O O (zY O yK O (wC 0 O (hgn 2 (by omega) (by omega) _ (by simp only [List.length_map];rfl))) O)<|M O O (zN O O)<|M O O (zN O O)<|M O O (kE 0 O zAa O O)<|M O O (qZ O O O (by simp only [List.length_map];exact ⟨by omega,by omega⟩))<|M O O (qO 0 O zAa O O O (by simp only [List.length_map];omega) (by simp only [List.length_map];omega))<|M O O (zY O yK O (wC 0 O (hgn 1 (by omega) (by omega) _ (by simp only [List.length_map];rfl))) O)<|M O O (zAu O fl38 O O O)<|kB<|I<|zF O (fun c11=>?_) (fun c11=>?_)
          ·have h10:=zFz c11
           refine G O<|yP O m pl38<|D 1 L O<|F O<|I<|zW _ (Weak.mem [false,true,false,true,true,true,true] O)<|o<|w (zV yK O (Y 0 O) O) (p O) ?_
           exact ⟨by rw [hT];first|(rw [zBn (by omega)];rfl)|(rw [zBs (by omega)];rfl)|(rw [zBm (by omega)];rfl)|(rw [zBr (by omega)];rfl)|(rw [wS (by omega)];rfl)|(rw [wT ho h10];rfl)|(rw [zBq ho h10 c12];rfl)|(rw [zBl ho h10 c12];rfl),[_],O⟩
          ·have h10:=zGa c11
           refine zI<|zJ<|G O<|zO yX (Y 2 O) O<|qJ O ok166 (kY e) ⟨H,O,T⟩<|I<|zF O (fun c12=>?_) (fun c12=>?_)
           ·try simp only [R] at c12
            refine G O<|yP O m pl38<|D 1 L O<|F O<|I<|zW _ (Weak.mem [false,true,false,true,true,true,true] O)<|o<|w (zV yK O (Y 0 O) O) (p O) ?_
            exact ⟨by rw [hT];first|(rw [zBn (by omega)];rfl)|(rw [zBs (by omega)];rfl)|(rw [zBm (by omega)];rfl)|(rw [zBr (by omega)];rfl)|(rw [wS (by omega)];rfl)|(rw [wT ho h10];rfl)|(rw [zBq ho h10 c12];rfl)|(rw [zBl ho h10 c12];rfl),[_],O⟩
           ·try simp only [R] at c12
            refine zI<|G O<|F O<|F O<|zX O (kE 0 O zAa O O)<|zX O (qZ O O O (by simp only [List.length_map];exact ⟨by omega,by omega⟩))<|zX O (qO 0 O zAa O O O (by simp only [List.length_map];omega) (by simp only [List.length_map];omega))<|zO yK (wC 0 O (hgn 1 (by omega) (by omega) _ (by simp only [List.length_map];rfl))) O<|D 1 L O<|F O<|I<|zW _ (Weak.mem [false,true,false,true,true,true,true] O)<|o<|w (zV yK O (Y 0 O) O) (p O) ?_
            exact ⟨by rw [hT];first|(rw [zBn (by omega)];rfl)|(rw [zBs (by omega)];rfl)|(rw [zBm (by omega)];rfl)|(rw [zBr (by omega)];rfl)|(rw [wS (by omega)];rfl)|(rw [wT ho h10];rfl)|(rw [zBq ho h10 c12];rfl)|(rw [zBl ho h10 c12];rfl),[_],O⟩
theorem ck_typeOf (b:Nat) (svL svS svP:Value) (n:Ns) (U S:List ByteArray) (W:List Int)  (e:Ex) (hn:n.Ok) (hpart:partE e=0) (he:e.wt<=1073741824):Con cfg 190 [vP b,vE e] (ckN b svL svS svP n U S W) fun r μ'=>r=.tup [vTy (nodeT (tyF n.Bufs) e).1,vI (nodeT (tyF n.Bufs) e).2]/\μ'=ckN b svL svS svP n U S W:=by
  induction e using Ex.ind with
  |_ e ih=>exact ck_typeOf_step b svL svS svP n U S W hn e (fun a ha h1 h2=>ih a ha h1 h2) hpart he
theorem zGx (b:Nat) (svL svS svP:Value) (n:Ns) (U S:List ByteArray) (W:List Int) (e:Ex) (hn:n.Ok) (hS:S.length<=1000000) (he:e.wt<=1000000000):
    Con cfg 165 [vP b,vE e] (ckN b svL svS svP n U S W) fun r μ'=>r=.tup [vTy (exprT n.Bufs S e).1,vI (exprT n.Bufs S e).2]/\μ'=ckN b svL svS svP n U S W:=by
 refine Con.drop<|zR Tryz.func165 O Tryz.ntmps165 Tryz.results165 O ?_
 intro z hz
 refine G O<|zU O O (qM O O) ?_
 rintro _ _ ⟨b1,rfl,rfl⟩
 refine yN _ (yM 0 O 2 _ PLe.ptr)<|zU O O (qM O O) ?_
 rintro _ _ ⟨b2,rfl,rfl⟩
 refine zU O O (yW O m) ?_
 rintro _ _ ⟨b3,rfl,rfl⟩
 refine zU O O (yW O zr51) ?_
 rintro _ _ ⟨b4,rfl,rfl⟩
 refine I<|zJ<|G O<|zO yX (Y 2 O) O<|qJ O ok188 (expr_Validate e (by omega)) ⟨H,O,T⟩<|F O<|I<|G O<|F O<|yR O<|I<|zF O (fun c1=>?_) (fun c1=>?_)
 ·try simp only [R] at c1
  refine G O<|yP O m pl38<|F O<|D 1 L O<|D 0 sz51 O<|I<|zW _ (Weak.mem [true,true,false,true,true,true,true] O)<|o<|w (zV yK O (Y 1 O) O) (kU zIh O (Y 0 O) O) ?_
  exact ⟨by rw [exprT_1 c1];rfl,[_,_],O⟩
 ·try simp only [R] at c1
  refine zI<|zJ<|G O<|zO yX (Y 2 O) O<|qJ O ok123 (zMa _) ⟨H,O,T⟩<|I<|zQ<|zEn (ps:=[17]) hz 2 O O ok158 (zKv e (by omega)) (fun _ _=>O) O (fun pre=>nodesN n.Bufs S pre=0) (fun pre=>[E.row b4 51 [cI 0],E.row b3 38 [cI 0,cI 0,cI 0,cI 0,cI 0]]) (fun c pre=>(c=.ret/\¬nodesN n.Bufs S pre=0)) (fun c pre=>[E.row b4 51 [cI (nodesN n.Bufs S pre)],E.row b3 38 [cI 0,cI 0,cI 0,cI 0,cI 0]]) ⟨O,O⟩ ?_ ?_ ?_ ?_
  ·intro pre x suf hxs hi z hz
   have hxw:x.wt<=e.wt:=zEg e x (by rw [hxs];simp)
   refine zS O<|zU O O (qE [none,none,none,none,none,none,none,none,none,none,some 2,some 4,some 13] O zr44 O) ?_
   rintro _ _ ⟨b5,rfl,rfl⟩
   refine D 0 sz44 O<|I ?_
   intro z hz
   refine zQ<|G O<|zK zOe qA O<|zO yX (Y 0 O) O<|zX O (kF [4,4,4,4] O ok189 (ck_node b svL svS svP n U S W x hn hS (by omega)) ⟨H,O,H,O,T⟩ O)<|F O<|I<|G O<|F O<|yR O<|I<|zF O (fun c2=>?_) (fun c2=>?_)
   ·try simp only [R] at c2
    refine G O<|yP O m pl38<|F O<|D 2 L O<|D 1 sz51 O<|I<|o ?_
    exact zBv (τ:=⟨[],_⟩) (Weak.mk [false,true,true,true,true,true,true,true] T O) ⟨⟨O,by rw [zNd hi];exact c2⟩,(by dsimp only;rw [zNd hi];rfl)⟩
   ·try simp only [R] at c2
    refine zI ?_
    exact zBv (τ:=⟨[],_⟩) (Weak.mk [false,true,true,true,true,true,true,true] T O) ⟨(by dsimp only;rw [zNd hi];exact c2),O⟩
  ·intro hd
   refine G O<|zK zOe qA O<|zO yX (Y 2 O) O<|zX O (kF [3,3,3,3] O ok190 (ck_typeOf b svL svS svP n U S W e hn (zIz c1) (by omega)) ⟨H,O,H,O,T⟩ O)<|yO O<|qT O<|D 1 L O<|D 0 sz51 O<|I<|zW _ (Weak.mem [true,true,false,true,true,true,true] O)<|o<|w (zV yK O (Y 1 O) O) (kU zIh O (Y 0 O) O) ?_
   exact ⟨by rw [exprT_3 c1 hd];rfl,[_,_],O⟩
  ·rintro pre x suf hxs hx
   rcases hx with ⟨hc,hx⟩
   clear hc
   repeat (first|refine zKz ?_|refine zJm ?_)
   refine w (zV yK O (Y 1 O) O) (kU zIh O (Y 0 O) O) ?_
   exact ⟨by rw [exprT_2 c1 (by rw [hxs,nodesN_pre hx];exact hx),hxs,nodesN_pre (suf:=suf) hx];rfl,[_,_,_],O⟩
  ·rintro i pre x suf hxs hx
   rcases hx with ⟨hc,hx⟩
   cases hc
theorem ck_store (b:Nat) (svL svS svP:Value) (n:Ns) (U S:List ByteArray) (W:List Int) (s:St) (hn:n.Ok) (hS:S.length<=1000000) (hs:s.wt<=900000000):
    Con cfg 167 [vP b,vSt s] (ckN b svL svS svP n U S W) fun r μ'=>r=vI (storeE n.Bufs S s)/\μ'=ckN b svL svS svP n U S W:=by
 refine zR Tryz.func167 O Tryz.ntmps167 Tryz.results167 O ?_
 intro z hz
 obtain ⟨hE,hI,hIw,hB,hBw⟩:=St.parts hs
 have hrd:=rdE_wt s
 refine G O<|zU O O (qM O O) ?_
 rintro _ _ ⟨b1,rfl,rfl⟩
 refine F O<|I<|G O<|F O<|zH O zAf<|zK one9 (Y 0 O) O<|zH O zDt<|zK wR (Y 0 O) O<|qV [none,none,none,none,none,none,none,none,none,none,some 2,none,some 13] O zr44 pl44<|zX O (kF [1,1,1,1] O ok165 (zGx b svL svS svP n U S W (rdE s) hn hS (by omega)) ⟨H,O,H,O,T⟩ O)<|qP O<|yO O<|qT O<|zU O O (yW O m) ?_
 rintro _ _ ⟨b2,rfl,rfl⟩
 refine D 0 L O<|F O<|I<|zJ<|G O<|F O<|yR O<|I<|zF O (fun c1=>?_) (fun c1=>?_)
 ·try simp only [R] at c1
  refine G O<|F O<|F O<|I<|zW _ (Weak.mem [false,false,true,true,true,true] O)<|o<|X O ?_
  exact ⟨by rw [storeE_1 c1],O⟩
 ·try simp only [R] at c1
  have hT:=exprT_rd c1
  refine zI<|zJ<|zJ<|kJ 12 1 [⟨0,.q []⟩,⟨1,.q []⟩,⟨2,.q []⟩,⟨3,.q [3]⟩,⟨4,.q []⟩,⟨5,.q [2]⟩,⟨6,.q []⟩,⟨7,.q []⟩,⟨8,.q []⟩,⟨9,.q []⟩,⟨10,.e 0 []⟩,⟨11,.e 0 []⟩] mixed (by kernel_rfl) (by kernel_rfl) O O O<|t O<|t O<|t O<|t O<|t O<|t O<|t O<|t O<|t O<|t O<|t O<|t O<|zBj<|v O (by decide) O O (zN O O)<|v O (by decide) O O (qU O O)<|v O (by decide) O O (zD O zNn O)<|v O (by decide) O O (zY O kG O (Y 0 O) O)<|v O (by decide) O O (zD O zAf O)<|v O (by decide) O O (Q O one9 O (Y 0 O) O)<|v O (by decide) O O (qL O ok101 (wZ n s.Name hn) ⟨H,O,H,O,T⟩)<|v O (by decide) O O (kK O O)<|v O (by decide) O O (wF O O O)<|v O (by decide) O O (wI O O O)<|zHq O O (by decide) O O (qE [none,none,none,none,none,none,some 1,none] O zr65 O) ?_
  rintro _ _ ⟨b3,rfl,rfl⟩
  refine ⟨_,O,?_⟩
  refine zFg O O (by decide) O O (yV O sz65 O O O (zFf 0 O O)) ?_
  rintro _ _ ⟨rfl,rfl⟩
  refine ⟨_,O,?_⟩
  refine zBd O<|F O<|I<|G O<|zH O zOj<|zK J (Y 0 O) O<|yE O<|I<|zF O (fun c2=>?_) (fun c2=>?_)
  ·try simp only [R] at c2
   refine G O<|F O<|I<|zW _ (Weak.mem [false,false,false,true,true,true,true] O)<|o<|X O ?_
   exact ⟨by rw [storeE_u c1 (.inl c2)],O⟩
  ·try simp only [R] at c2
   refine zI<|zJ<|G O<|zH O zAb<|zK J (Y 2 O) O<|yE O<|F O<|rL0 O (fun g7_3=>zD O zOk O) O<|B 40 O (fun g7_3=>Q O J O (Y 2 O) O) O<|B 41 O (fun g7_3=>zCt O O O) O<|B 42 O (fun g7_3=>zN O O) O<|rLz [] O P T (fun g7_7=>zD O zOk O) O<|rLz [(44,_)] O P ⟨O,O,T⟩ (fun g7_7=>Q O J O (Y 2 O) O) O<|rLz [(45,_)] O P ⟨O,O,T⟩ (fun g7_7=>yC O O O) O<|B 43 O (fun g7_3=>zAm O O O O (fun h=>kA (by assumption) (lzf h))) O<|yQ O (fun h=>h)<|I<|zF O (fun c3=>?_) (fun c3=>?_)
   ·try simp only [R] at c3
    refine G O<|F O<|I<|zW _ (Weak.mem [false,false,false,true,true,true,true] O)<|o<|X O ?_
    exact ⟨by rw [storeE_u c1 (.inr c3)],O⟩
   ·try simp only [R] at c3
    refine zI<|G O<|F O<|zH O zAp<|zO yX (Y 2 O) O<|zX O (kF [3,3,3,3] O ok165 (zGx b svL svS svP n U S W s.E hn hS (by omega)) ⟨H,O,H,O,T⟩ O)<|qP O<|yO O<|qT O<|zU O O (yW O m) ?_
    rintro _ _ ⟨b4,rfl,rfl⟩
    refine D 0 L O<|F O<|I<|zJ<|G O<|F O<|yR O<|I<|zF O (fun c4=>?_) (fun c4=>?_)
    ·try simp only [R] at c4
     refine G O<|F O<|F O<|I<|zW _ (Weak.mem [false,false,false,false,true,true,true,true] O)<|o<|X O ?_
     exact ⟨by rw [storeE_2 c1 (by omega) c4],O⟩
    ·try simp only [R] at c4
     refine zI<|zJ<|G O<|zH O zAp<|zO yX (Y 3 O) O<|qJ O ok166 (kY s.E) ⟨H,O,T⟩<|F O<|rL0 O (fun g12_3=>zY O yK O (Y 0 O) O) O<|rL0 O (fun g12_3=>zY O yK O (Y 2 O) O) O<|rLz [(63,_),(64,_)] O gv1 ⟨O,O,O,O,T⟩ (fun g12_3=>zAu O fl38 O O O) O<|r_or O (fun h=>(lzf h))<|I<|zF O (fun c5=>?_) (fun c5=>?_)
     ·have h10:=st10_t c5
      rw [hT] at h10
      refine G O<|F O<|I<|zW _ (Weak.mem [false,false,false,false,true,true,true,true] O)<|o<|X O ?_
      exact ⟨by rw [storeE_10 c1 (by omega) c4 h10],O⟩
     ·have h10:=st10_f c5
      rw [hT] at h10
      refine zI<|G O<|F O<|I<|zW _ (Weak.mem [false,false,false,false,true,true,true,true] O)<|o<|X O ?_
      exact ⟨by rw [storeE_0 c1 (by omega) c4 h10],O⟩
theorem ck_loop (b:Nat) (svL svS svP:Value) (n:Ns) (U S:List ByteArray) (W:List Int) (s:St) (hn:n.Ok) (hU:U.length<=1000000):
    Con cfg 164 [vP b,vSt s] (ckN b svL svS svP n U S W) fun r μ'=>r=vI (loopE n.Bufs U s)/\μ'=ckN b svL svS svP n U S W:=by
 refine zR Tryz.func164 O Tryz.ntmps164 Tryz.results164 O ?_
 intro z hz
 refine G O<|zU O O (qM O O) ?_
 rintro _ _ ⟨b1,rfl,rfl⟩
 refine F O<|I<|zJ<|G O<|zH O zAf<|zK one9 (Y 0 O) O<|qJ O ok49 (zAo _) ⟨H,O,T⟩<|kO O<|I<|zF O (fun c1=>?_) (fun c1=>?_)
 ·try simp only [R] at c1
  refine G O<|F O<|I<|zW _ (Weak.mem [false,true,true,true,true] O)<|o<|X O ?_
  exact ⟨by rw [loopE_7 c1],O⟩
 ·try simp only [R] at c1
  refine zI<|zJ<|zJ<|kJ 12 1 [⟨0,.q []⟩,⟨1,.q []⟩,⟨2,.q []⟩,⟨3,.q [2]⟩,⟨4,.q []⟩,⟨5,.q [1]⟩,⟨6,.q []⟩,⟨7,.q []⟩,⟨8,.q []⟩,⟨9,.q []⟩,⟨10,.e 0 []⟩,⟨11,.e 0 []⟩] mixed (by kernel_rfl) (by kernel_rfl) O O O<|t O<|t O<|t O<|t O<|t O<|t O<|t O<|t O<|t O<|t O<|t O<|t O<|zBj<|v O (by decide) O O (zN O O)<|v O (by decide) O O (qU O O)<|v O (by decide) O O (zD O zNn O)<|v O (by decide) O O (zY O kG O (Y 0 O) O)<|v O (by decide) O O (zD O zAf O)<|v O (by decide) O O (Q O one9 O (Y 0 O) O)<|v O (by decide) O O (qL O ok101 (wZ n s.Name hn) ⟨H,O,H,O,T⟩)<|v O (by decide) O O (kK O O)<|v O (by decide) O O (wF O O O)<|v O (by decide) O O (wI O O O)<|zHq O O (by decide) O O (qE [none,none,none,none,none,none,some 1,none] O zr65 O) ?_
  rintro _ _ ⟨b2,rfl,rfl⟩
  refine ⟨_,O,?_⟩
  refine zFg O O (by decide) O O (yV O sz65 O O O (zFf 0 O O)) ?_
  rintro _ _ ⟨rfl,rfl⟩
  refine ⟨_,O,?_⟩
  refine zBd O<|F O<|I<|zJ<|qX 10 mixed (by kernel_rfl) O O<|M O O (zN O O)<|M O O (zN O O)<|f [] O O O O gv1 T (fun g4_1=>zN O O) O<|f [(23,_)] O O O O gv1 ⟨O,O,T⟩ (fun g4_1=>qU O O) O<|f [(24,_)] O O O O gv1 ⟨O,O,T⟩ (fun g4_1=>zD O fd123_1 O) O<|f [(25,_)] O O O O gv1 ⟨O,O,T⟩ (fun g4_1=>Q O zLl O (Y 2 O) O) O<|f [] O O O O gv1 T (fun g4_1=>zD O zAf O) O<|f [(27,_)] O O O O gv1 ⟨O,O,T⟩ (fun g4_1=>Q O one9 O (Y 1 O) O) O<|f [(26,_),(28,_)] O O O O gv1 ⟨O,O,O,O,T⟩ (fun g4_1=>zGv 3 O ok143 O (zCb U s.Name hU) O ⟨.inl ⟨O,O⟩,.inr ⟨H,O⟩,T⟩) O<|M O O (zAm O O O O (fun h=>(lzf h)))<|kB<|I<|zF O (fun c2=>?_) (fun c2=>?_)
  ·try simp only [R] at c2
   refine G O<|F O<|I<|zW _ (Weak.mem [false,false,true,true,true,true] O)<|o<|X O ?_
   exact ⟨by rw [loopE_8 c1 c2],O⟩
  ·try simp only [R] at c2
   have h8:¬(hasBf n.Bufs s.Name=true∨hasB U s.Name=true):=by rw [c2.1,c2.2];simp
   refine zI<|zJ<|G O<|zH O zAd<|zK J (Y 1 O) O<|yH O<|F O<|rL0 O (fun g6_3=>zD O zAd O) O<|B 35 O (fun g6_3=>Q O J O (Y 1 O) O) O<|B 36 O (fun g6_3=>yC O O O) O<|r_or O (fun h=>(lzf h))<|F O<|rL0 O (fun g6_8=>zD O zHd O) O<|B 40 O (fun g6_8=>Q O J O (Y 1 O) O) O<|B 41 O (fun g6_8=>zCt O O O) O<|r_or O (fun h=>(lzf h))<|F O<|rL0 O (fun g6_13=>zD O zHd O) O<|B 45 O (fun g6_13=>Q O J O (Y 1 O) O) O<|B 46 O (fun g6_13=>yC O O O) O<|r_or O (fun h=>(lzf h))<|I<|zF O (fun c3=>?_) (fun c3=>?_)
   ·try simp only [R] at c3
    refine G O<|F O<|I<|zW _ (Weak.mem [false,false,true,true,true,true] O)<|o<|X O ?_
    exact ⟨by rw [loopE_1 c1 h8 (by omega)],O⟩
   ·try simp only [R] at c3
    refine zI<|G O<|F O<|I<|zW _ (Weak.mem [false,false,true,true,true,true] O)<|o<|X O ?_
    exact ⟨by rw [loopE_0 c1 h8 (by omega)],O⟩
theorem zSc (e:Ex) (he:e.wt<=4294967296):
    Pur cfg 187 [vE e] (vB (emptyE e)):=by
 refine zR Tryz.func187 O Tryz.ntmps187 Tryz.results187 O ?_
 intro z hz
 refine G O<|zU O O (qM O O) ?_
 rintro _ _ ⟨b1,rfl,rfl⟩
 refine F O<|I<|G O<|zO yX (Y 0 O) O<|qV [none,none,none,none,none,none,none,none,none,none,some 2,some 4,some 13] O zr44 pl44<|qJ O ok205 (expr_Same e zEx he (by decide)) ⟨H,O,H,O,T⟩<|F O<|I<|o<|X O ?_
 exact O
theorem zSb (s:St) (hs:s.wt<=900000000):
    Pur cfg 163 [vSt s] (vB (synSt s)):=by
 refine zR Tryz.func163 O Tryz.ntmps163 Tryz.results163 O ?_
 intro z hz
 obtain ⟨hE,hI,hIw,hB,hBw⟩:=St.parts hs
 refine G O<|zU O O (qM O O) ?_
 rintro _ _ ⟨b1,rfl,rfl⟩
 refine F O<|I<|zJ<|qX 17 mixed (by kernel_rfl) O O<|M O O (zD O zAb O)<|M O O (Q O J O (Y 0 O) O)<|M O O (yG O O O)<|M O O (zD O zAb O)<|M O O (Q O J O (Y 0 O) O)<|M O O (yG O O O)<|M O O (zN O O)<|f [] O O O O gv1 T (fun g1_6=>zD O zAb O) O<|f [(13,_)] O O O O gv1 ⟨O,O,T⟩ (fun g1_6=>Q O J O (Y 0 O) O) O<|f [(14,_)] O O O O gv1 ⟨O,O,T⟩ (fun g1_6=>yG O O O) O<|M O O (zAm O O O O (fun h=>(lzf h)))<|M O O (zD O zAb O)<|M O O (Q O J O (Y 0 O) O)<|M O O (yG O O O)<|M O O (qY O O)<|M O O (qY O O)<|M O O (qY O O)<|kB<|I<|zJ<|zQ<|G O<|F O<|kO O<|F O<|rL0 O (fun g2_2=>zN O O) O<|B 24 O (fun g2_2=>kV O O) O<|yQ O (fun h=>h)<|F O<|rL0 O (fun g2_6=>zN O O) O<|B 28 O (fun g2_6=>kV O O) O<|yQ O (fun h=>h)<|F O<|I<|zF O (fun c1=>?_) (fun c1=>?_)
 ·refine G O<|F O<|I<|o<|X O ?_
  exact congrArg vB (syn_1 c1)
 ·refine G O<|F O<|F O<|rL0 O (fun g4_1=>zD O zAf O) O<|B 34 O (fun g4_1=>Q O one9 O (Y 0 O) O) O<|B 35 O (fun g4_1=>zBb O O O) O<|yQ O (fun h=>h)<|F O<|I<|zF O (fun c2=>?_) (fun c2=>?_)
  ·refine G O<|F O<|I<|o<|X O ?_
   exact congrArg vB (syn_2 c2)
  ·refine G O<|F O<|kO O<|F O<|rL0 O (fun g6_2=>zD O zAd O) O<|B 42 O (fun g6_2=>Q O J O (Y 0 O) O) O<|B 43 O (fun g6_2=>kH O O O) O<|B 44 O (fun g6_2=>zN O O) O<|rLz [] O P T (fun g6_6=>zD O zHd O) O<|rLz [(46,_)] O P ⟨O,O,T⟩ (fun g6_6=>Q O J O (Y 0 O) O) O<|rLz [(47,_)] O P ⟨O,O,T⟩ (fun g6_6=>kH O O O) O<|B 45 O (fun g6_2=>zAm O O O O (fun h=>kA (by assumption) (lzf h))) O<|yQ O (fun h=>h)<|F O<|I<|zF O (fun c3=>?_) (fun c3=>?_)
   ·refine G O<|F O<|I<|o<|X O ?_
    exact congrArg vB (syn_3 c3)
   ·refine G O<|zH O zAb<|zK J (Y 0 O) O<|yR O<|F O<|rL0 O (fun g8_3=>zD O zOk O) O<|B 56 O (fun g8_3=>Q O J O (Y 0 O) O) O<|B 57 O (fun g8_3=>kH O O O) O<|yQ O (fun h=>h)<|F O<|I<|zF O (fun c4=>?_) (fun c4=>?_)
    ·refine G O<|F O<|I<|o<|X O ?_
     exact congrArg vB (syn_4 c4)
    ·refine G O<|F O<|kO O<|F O<|rL0 O (fun g10_2=>zD O zDt O) O<|B 64 O (fun g10_2=>Q O wR O (Y 0 O) O) O<|B 65 O (fun g10_2=>yB O A O) O<|B 66 O (fun g10_2=>yC O O O) O<|yQ O (fun h=>h)<|F O<|I<|zF O (fun c5=>?_) (fun c5=>?_)
     ·refine G O<|F O<|I<|o<|X O ?_
      exact congrArg vB (syn_5 c5)
     ·refine G O<|F O<|F O<|rL0 O (fun g12_1=>zD O zAp O) O<|B 72 O (fun g12_1=>zY O yX O (Y 0 O) O) O<|B 73 O (fun g12_1=>qL O ok187 (zSc s.E (by omega)) ⟨H,O,T⟩) O<|B 74 O (fun g12_1=>kV O O) O<|yQ O (fun h=>h)<|F O<|I<|zF O (fun c6=>?_) (fun c6=>?_)
      ·refine G O<|F O<|I<|o<|X O ?_
       exact congrArg vB (syn_6 c6)
      ·refine zI<|G O<|F O<|kO O<|F O<|rL0 O (fun g14_2=>zD O kP O) O<|B 80 O (fun g14_2=>Q O kT O (Y 0 O) O) O<|B 81 O (fun g14_2=>yB O K O) O<|B 82 O (fun g14_2=>yG O O O) O<|r_or O (fun h=>(lzf h))<|F O<|I<|o<|X O ?_
       exact congrArg vB (syn_7 c1 c2 c3 c4 c5 c6)
theorem ck_statement (b:Nat) (svL svS svP:Value) (n:Ns) (U S:List ByteArray) (W:List Int) (s:St) (hn:n.Ok) (hS:S.length<=1000000) (hU:U.length<=1000000) (hs:s.wt<=900000000):
    Con cfg 129 [vP b,vSt s] (ckN b svL svS svP n U S W) fun r μ'=>r=vI (stE n.Bufs U S s)/\μ'=ckN b svL svS svP n U S W:=by
 refine zR Tryz.func129 O Tryz.ntmps129 Tryz.results129 O ?_
 intro z hz
 obtain ⟨hE,hI,hIw,hB,hBw⟩:=St.parts hs
 refine G O<|zU O O (qM O O) ?_
 rintro _ _ ⟨b1,rfl,rfl⟩
 refine F O<|I<|zJ<|G O<|zO zBx (Y 0 O) O<|qJ O ok163 (zSb s hs) ⟨H,O,T⟩<|kO O<|I<|zF O (fun c1=>?_) (fun c1=>?_)
 ·try simp only [R] at c1
  refine G O<|F O<|I<|zW _ (Weak.mem [false,true,true,true,true] O)<|o<|X O ?_
  exact ⟨by rw [stE_5 c1],O⟩
 ·try simp only [R] at c1
  refine zI<|zJ<|G O<|zH O zAb<|zK J (Y 0 O) O<|I<|zQ<|G O<|yE O<|F O<|I<|zF O (fun c2=>?_) (fun c2=>?_)
  ·try simp only [R] at c2
   refine G O<|F O<|zO zBx (Y 0 O) O<|zX O (kF [1,1,1,1] O ok164 (ck_loop b svL svS svP n U S W s hn hU) ⟨H,O,H,O,T⟩ O)<|F O<|I<|zW _ (Weak.mem [false,true,true,true,true] O)<|o<|X O ?_
   exact ⟨by rw [stE_l c1 c2],O⟩
  ·try simp only [R] at c2
   refine G O<|yE O<|F O<|I<|zF O (fun c3=>?_) (fun c3=>?_)
   ·try simp only [R] at c3
    refine zJ<|G O<|F O<|zH O zAp<|zO yX (Y 0 O) O<|zX O (kF [1,1,1,1] O ok165 (zGx b svL svS svP n U S W s.E hn hS (by omega)) ⟨H,O,H,O,T⟩ O)<|qP O<|yO O<|qT O<|zU O O (yW O m) ?_
    rintro _ _ ⟨b2,rfl,rfl⟩
    refine D 0 L O<|F O<|I<|G O<|F O<|yR O<|I<|zF O (fun c4=>?_) (fun c4=>?_)
    ·try simp only [R] at c4
     refine G O<|F O<|F O<|I<|zW _ (Weak.mem [false,false,true,true,true,true] O)<|o<|X O ?_
     exact ⟨by rw [stE_i c1 c3,ifE_x c4],O⟩
    ·try simp only [R] at c4
     refine zI<|zJ<|G O<|zH O zAp<|zO yX (Y 1 O) O<|qJ O ok166 (kY s.E) ⟨H,O,T⟩<|kO O<|I<|zF O (fun c5=>?_) (fun c5=>?_)
     ·try simp only [R] at c5
      refine G O<|F O<|I<|zW _ (Weak.mem [false,false,true,true,true,true] O)<|o<|X O ?_
      exact ⟨by rw [stE_i c1 c3,ifE_10 c4 c5],O⟩
     ·try simp only [R] at c5
      refine zI<|G O<|F O<|I<|zW _ (Weak.mem [false,false,true,true,true,true] O)<|o<|X O ?_
      exact ⟨by rw [stE_i c1 c3,ifE_0 c4 c5],O⟩
   ·try simp only [R] at c3
    refine zI<|G O<|F O<|zO zBx (Y 0 O) O<|zX O (kF [1,1,1,1] O ok167 (ck_store b svL svS svP n U S W s hn hS hs) ⟨H,O,H,O,T⟩ O)<|F O<|I<|zW _ (Weak.mem [false,true,true,true,true] O)<|o<|X O ?_
    exact ⟨by rw [stE_s c1 c2 c3],O⟩
set_option maxHeartbeats 2000000 in
theorem zEw (b:Nat) (svL svS svP:Value) (n:Ns) (U S:List ByteArray) (W:List Int) (l:List St) (hn:n.Ok) (hU:U.length+stsN l<=1000000) (hS:S.length+stsN l<=1000000) (hW:W.length+stsN l<=1000000) (hl:stsWt l<=536870912) (ih:∀s,s∈l->∀(svL svS svP:Value) (U S:List ByteArray) (W:List Int),U.length+stsN s.Body<=1000000->S.length+stsN s.Body<=1000000->W.length+stsN s.Body<=1000000->Con cfg 82 [vP b,vSts s.Body] (ckN b svL svS svP n U S W) fun r μ'=>∃svL' svS' svP' U' S' W',r=vI (chkL n.Bufs U S W 0 s.Body).E/\((chkL n.Bufs U S W 0 s.Body).E=0->U'=(chkL n.Bufs U S W 0 s.Body).U/\S'=S/\W'=W)/\(¬(chkL n.Bufs U S W 0 s.Body).E=0->W'=(chkL n.Bufs U S W 0 s.Body).W)/\μ'=ckN b svL' svS' svP' n U' S' W'):
    Con cfg 82 [vP b,vSts l] (ckN b svL svS svP n U S W) fun r μ'=>∃svL' svS' svP' U' S' W',r=vI (chkL n.Bufs U S W 0 l).E/\((chkL n.Bufs U S W 0 l).E=0->U'=(chkL n.Bufs U S W 0 l).U/\S'=S/\W'=W)/\(¬(chkL n.Bufs U S W 0 l).E=0->W'=(chkL n.Bufs U S W 0 l).W)/\μ'=ckN b svL' svS' svP' n U' S' W':=by
 refine zR Tryz.func82 O Tryz.ntmps82 Tryz.results82 O ?_
 intro z hz
 have hll:=kN l
 have hlN:=zDg l
 refine G O<|F O<|I<|zJ<|G O<|F O<|qB O K<|F O<|I<|zQ<|zW ⟨[(12,.c _),(0,.c _),(1,.c _),(11,.c _)],[_,_,_,_]⟩ (Weak.mk [true,true,true,true] ⟨H,H,H,H,T⟩ O)<|qK 1 4 O O (Nat×Value×Value×Value×List ByteArray) (fun ⟨k,vL,vS,vP_,u⟩=>[(12,vI k)]) (fun ⟨k,vL,vS,vP_,u⟩=>[E.row b 123 [.sl 8 (n.Bufs.map Bf.cells),.sl 20 (n.Body.map St.cells),.lit vL,.lit vS,.lit vP_],E.vec vL 9 1 (u.map fun s=>[cS s]),E.vec vS 9 1 (S.map fun s=>[cS s]),E.vec vP_ 3 1 (W.map fun i=>[cI i])]) (fun ⟨k,vL,vS,vP_,u⟩=>k<=l.length/\(u.length+stsN (l.drop k)<=1000000)/\((chkL n.Bufs U S W 0 l)=chkL n.Bufs u S W k (l.drop k))) (fun ⟨k,vL,vS,vP_,u⟩=>l.length-k) ⟨⟨0,svL,svS,svP,U⟩,⟨by omega,by simpa using hU,O⟩,Weak.mk [true,true,true,true] ⟨H,H,H,H,T⟩ O⟩ ?_
 rintro ⟨k,vL,vS,vP_,u⟩ ⟨hk,hub,hp⟩
 show AWP _ _ _ _ _ ⟨[(12,vI k)]++_,[E.row b 123 [.sl 8 (n.Bufs.map Bf.cells),.sl 20 (n.Body.map St.cells),.lit vL,.lit vS,.lit vP_],E.vec vL 9 1 (u.map fun s=>[cS s]),E.vec vS 9 1 (S.map fun s=>[cS s]),E.vec vP_ 3 1 (W.map fun i=>[cI i])]++_⟩
 refine G O<|yH O<|I<|zJ<|zF O (fun c1=>?_) (fun c1=>?_)
 ·try simp only [R] at c1
  obtain ⟨s,hs⟩:=qW l k (by omega)
  have hsw:=yI (zZ hs)
  have hsb:=St.body_wt s
  have hsn:=stsN_drop hs
  have hse:=zGz s
  have hsm:=zLb (zZ hs)
  have hcl:=chkS_len n.Bufs s u S (W++[(k:Int)])
  refine zI<|zJ<|zQ<|G O<|F O<|F O<|I<|G O<|F O<|F O<|qC O K (by omega) (wJ (by assumption))<|zO zBx qA O<|zU O O (qE [none,none,none,none,none,some 4,none,none,none,none,none,none,none,none,none,none,some 2,some 4,some 13,some 20] O j O) ?_
  rintro _ _ ⟨b1,rfl,rfl⟩
  refine D 0 sz46 O<|I<|G O<|F O<|F O<|zX O (qU O O)<|zH O zGs<|zK zFm (Y 1 O) O<|F O<|zX O (qS O el26 zr3 O O O O)<|zU O O (yD 4 O el26 O O O (by simp only [List.length_map,List.length_append,List.length_cons,List.length_nil];omega) (by simp only [List.length_map,List.length_append,List.length_cons,List.length_nil];omega)) ?_
  rintro _ _ ⟨sv2,rfl,rfl⟩
  refine zX O (qU O O)<|zH O zGs<|D 1 sz26 O<|I<|zJ<|zJ<|zW _ (Weak.vecEq 4 O (rows':=(W++[(k:Int)]).map fun i=>[cI i]) (by first|rfl|simp|rw [List.take_of_length_le (by simp)]))<|zS O<|F O<|zO zBx (Y 0 O) O<|zX O (kF [1,1,1,1] O ok129 (ck_statement b vL vS _ n u S (W++[(k:Int)]) s hn (by omega) (by omega) (by omega)) ⟨H,O,H,O,T⟩ O)<|F O<|I<|G O<|F O<|yR O<|I<|zF O (fun c2=>?_) (fun c2=>?_)
  ·try simp only [R] at c2
   have hx0:=chkS_no (here:=W++[(k:Int)]) (B:=n.Bufs) (U:=u) (sc:=S) (s:=s) c2
   refine G O<|F O<|F O<|I<|zW _ (Weak.mem [false,true,true,true,true] O)<|o<|X O ?_
   refine ⟨_,_,_,_,_,_,?_,fun h0=>?_,fun _=>?_,O⟩
   · rw [zDr hs hp (by rw [hx0];exact c2),hx0]
   · rw [zDr hs hp (by rw [hx0];exact c2),hx0] at h0;exact absurd h0 c2
   · rw [zDr hs hp (by rw [hx0];exact c2),hx0]
  ·try simp only [R] at c2
   have hin:=chkS_in (here:=W++[(k:Int)]) (B:=n.Bufs) (U:=u) (sc:=S) (s:=s) c2
   refine zI<|G O<|F O<|zX O (qU O O)<|zH O zIs<|zK zLl (Y 1 O) O<|zX O (kE 3 O zCr O O)<|F O<|I<|zJ<|G O<|zH O zAb<|zK J (Y 0 O) O<|yE O<|I<|zF O (fun c3=>?_) (fun c3=>?_)
   ·try simp only [R] at c3
    rw [zLn c3,zLn c3] at hin
    refine zJ<|kJ 9 0 [⟨0,.q []⟩,⟨1,.q []⟩,⟨2,.q []⟩,⟨3,.q []⟩,⟨4,.q [1]⟩,⟨5,.q []⟩,⟨6,.q [0]⟩,⟨7,.q []⟩,⟨8,.e 2 []⟩] mixed (by kernel_rfl) (by kernel_rfl) O O O<|t O<|t O<|t O<|t O<|t O<|t O<|t O<|t O<|t O<|zBj<|v O (by decide) O O (zN O O)<|v O (by decide) O O (zN O O)<|v O (by decide) O O (qU O O)<|v O (by decide) O O (zD O fd123_1 O)<|v O (by decide) O O (Q O zLl O (Y 0 O) O)<|v O (by decide) O O (zD O zAf O)<|v O (by decide) O O (Q O one9 O (Y 0 O) O)<|v O (by decide) O O (qS O zCr zr9 O O O O)<|zHq O O (by decide) O O (yD 0 O zCr O O O (by simp only [List.length_map,List.length_append,List.length_cons,List.length_nil];omega) (by simp only [List.length_map,List.length_append,List.length_cons,List.length_nil];omega)) ?_
    rintro _ _ ⟨sv3,rfl,rfl⟩
    refine ⟨_,O,?_⟩
    refine zBd O<|zX O (qU O O)<|zH O fd123_1<|D 1 sz105 O<|I<|zW _ (Weak.vecEq 2 O (rows':=(u++[s.Name]).map fun s=>[cS s]) (by first|rfl|simp|rw [List.take_of_length_le (by simp)]))<|kJ 9 0 [⟨0,.q []⟩,⟨1,.q []⟩,⟨2,.q []⟩,⟨3,.q []⟩,⟨4,.q [1]⟩,⟨5,.q []⟩,⟨6,.q [0]⟩,⟨7,.q []⟩,⟨8,.e 3 []⟩] mixed (by kernel_rfl) (by kernel_rfl) O O O<|t O<|t O<|t O<|t O<|t O<|t O<|t O<|t O<|t O<|zBj<|v O (by decide) O O (zN O O)<|v O (by decide) O O (zN O O)<|v O (by decide) O O (qU O O)<|v O (by decide) O O (zD O zIs O)<|v O (by decide) O O (Q O zLl O (Y 0 O) O)<|v O (by decide) O O (zD O zAf O)<|v O (by decide) O O (Q O one9 O (Y 0 O) O)<|v O (by decide) O O (qS O zCr zr9 O O O O)<|zHq O O (by decide) O O (yD 0 O zCr O O O (by simp only [List.length_map,List.length_append,List.length_cons,List.length_nil];omega) (by simp only [List.length_map,List.length_append,List.length_cons,List.length_nil];omega)) ?_
    rintro _ _ ⟨sv4,rfl,rfl⟩
    refine ⟨_,O,?_⟩
    refine zBd O<|zX O (qU O O)<|zH O zIs<|D 1 sz105 O<|I<|zJ<|zJ<|zW _ (Weak.vecEq 3 O (rows':=(S++[s.Name]).map fun s=>[cS s]) (by first|rfl|simp|rw [List.take_of_length_le (by simp)]))<|zW ⟨_,E.row _ _ _::ckN b _ _ _ n (u++[s.Name]) (S++[s.Name]) (W++[(k:Int)])⟩ (Weak.mem [true,true,true,true,true] O)<|zS O<|F O<|zH O kP<|zK kT (Y 0 O) O<|zU O O (zDl [1,1,1,1] O ok82 (ih s (zZ hs) _ _ _ (u++[s.Name]) (S++[s.Name]) (W++[(k:Int)]) (by first|omega|(simp;omega)) (by first|omega|(simp;omega)) (by simp;omega)) ⟨H,O,H,O,T⟩ O) ?_
    rintro _ _ ⟨_,⟨svL1,svS1,svP1,U1,S1,W1,rfl,hok,hno,rfl⟩,rfl⟩
    refine F O<|I<|G O<|F O<|yR O<|I<|zF O (fun c4=>?_) (fun c4=>?_)
    ·try simp only [R] at c4
     rw [←hin] at c4 hno
     refine G O<|F O<|F O<|I<|zW _ (Weak.mem [false,true,true,true,true] O)<|o<|X O ?_
     refine ⟨_,_,_,_,_,_,?_,fun h0=>?_,fun _=>?_,O⟩
     · rw [zDr hs hp c4,hin]
     · rw [zDr hs hp c4] at h0;exact absurd h0 c4
     · rw [zDr hs hp c4];exact hno c4
    ·try simp only [R] at c4
     rw [←hin] at c4 hok
     obtain ⟨hU1,hS1,hW1⟩:=hok c4
     have hS2:=hS1.symm
     subst hU1 hS2 hW1
     refine zI<|G O<|F O<|F O<|zX O (qU O O)<|zH O zIs<|zK zLl (Y 1 O) O<|F O<|zU O O (zGi (k:=S.length) 3 O zCr O O O (by simp) (by simp)) ?_
     rintro _ _ ⟨sv5,rfl,rfl⟩
     refine zX O (qU O O)<|zH O zIs<|D 1 sz105 O<|I<|zW _ (Weak.vecEq 3 O (rows':=S.map fun s=>[cS s]) (by first|rfl|simp|rw [List.take_of_length_le (by simp)]))<|kJ 12 0 [⟨0,.q []⟩,⟨1,.q []⟩,⟨2,.q []⟩,⟨3,.q []⟩,⟨4,.q [1]⟩,⟨5,.q []⟩,⟨6,.q []⟩,⟨7,.q []⟩,⟨8,.q [1]⟩,⟨9,.q [4]⟩,⟨10,.q []⟩,⟨11,.e 4 []⟩] mixed (by kernel_rfl) (by kernel_rfl) O O O<|t O<|t O<|t O<|t O<|t O<|t O<|t O<|t O<|t O<|t O<|t O<|t O<|zBj<|v O (by decide) O O (zN O O)<|v O (by decide) O O (zN O O)<|v O (by decide) O O (qU O O)<|v O (by decide) O O (zD O zGs O)<|v O (by decide) O O (Q O zFm O (Y 0 O) O)<|v O (by decide) O O (zN O O)<|v O (by decide) O O (qU O O)<|v O (by decide) O O (zD O zGs O)<|v O (by decide) O O (Q O zFm O (Y 0 O) O)<|v O (by decide) O O (kE 0 O el26 O O)<|v O (by decide) O O (qZ O O O (by simp only [List.length_map,List.length_append,List.length_cons,List.length_nil];exact ⟨by omega,by omega⟩))<|zHq O O (by decide) O O (zGi (k:=W.length) 0 O el26 O O O (by simp only [List.length_map,List.length_append,List.length_cons,List.length_nil];omega) (by simp)) ?_
     rintro _ _ ⟨sv6,rfl,rfl⟩
     refine ⟨_,O,?_⟩
     refine zBd O<|zX O (qU O O)<|zH O zGs<|D 1 sz26 O<|I<|zW _ (Weak.vecEq 4 O (rows':=W.map fun i=>[cI i]) (by first|rfl|simp|rw [List.take_of_length_le (by simp)]))<|zS O<|qH O ⟨by omega,by omega⟩<|F O<|I ?_
     refine ⟨⟨k+1,_,_,_,(chkS n.Bufs u S (W++[(k:Int)]) s).U⟩,⟨by omega,by omega,zMj hs hp c4⟩,(by show l.length-(k+1)<l.length-k;omega),Weak.mk [false,true,true,true,true] ⟨H,H,H,H,T⟩ O⟩
   ·try simp only [R] at c3
    rw [zPp c3,zPp c3] at hin
    refine zI<|zJ<|zJ<|zW ⟨_,E.row _ _ _::ckN b _ _ _ n u S (W++[(k:Int)])⟩ (Weak.mem [true,true,true,true,true] O)<|zS O<|F O<|zH O kP<|zK kT (Y 0 O) O<|zU O O (zDl [1,1,1,1] O ok82 (ih s (zZ hs) _ _ _ u S (W++[(k:Int)]) (by first|omega|(simp;omega)) (by first|omega|(simp;omega)) (by simp;omega)) ⟨H,O,H,O,T⟩ O) ?_
    rintro _ _ ⟨_,⟨svL1,svS1,svP1,U1,S1,W1,rfl,hok,hno,rfl⟩,rfl⟩
    refine F O<|I<|G O<|F O<|yR O<|I<|zF O (fun c4=>?_) (fun c4=>?_)
    ·try simp only [R] at c4
     rw [←hin] at c4 hno
     refine G O<|F O<|F O<|I<|zW _ (Weak.mem [false,true,true,true,true] O)<|o<|X O ?_
     refine ⟨_,_,_,_,_,_,?_,fun h0=>?_,fun _=>?_,O⟩
     · rw [zDr hs hp c4,hin]
     · rw [zDr hs hp c4] at h0;exact absurd h0 c4
     · rw [zDr hs hp c4];exact hno c4
    ·try simp only [R] at c4
     rw [←hin] at c4 hok
     obtain ⟨hU1,hS1,hW1⟩:=hok c4
     have hS2:=hS1.symm
     subst hU1 hS2 hW1
     refine zI<|G O<|F O<|F O<|zX O (qU O O)<|zH O zIs<|zK zLl (Y 1 O) O<|F O<|zU O O (zGi (k:=S.length) 3 O zCr O O O (by simp) (by simp)) ?_
     rintro _ _ ⟨sv7,rfl,rfl⟩
     refine zX O (qU O O)<|zH O zIs<|D 1 sz105 O<|I<|zW _ (Weak.vecEq 3 O (rows':=S.map fun s=>[cS s]) (by first|rfl|simp|rw [List.take_of_length_le (by simp)]))<|kJ 12 0 [⟨0,.q []⟩,⟨1,.q []⟩,⟨2,.q []⟩,⟨3,.q []⟩,⟨4,.q [1]⟩,⟨5,.q []⟩,⟨6,.q []⟩,⟨7,.q []⟩,⟨8,.q [1]⟩,⟨9,.q [4]⟩,⟨10,.q []⟩,⟨11,.e 4 []⟩] mixed (by kernel_rfl) (by kernel_rfl) O O O<|t O<|t O<|t O<|t O<|t O<|t O<|t O<|t O<|t O<|t O<|t O<|t O<|zBj<|v O (by decide) O O (zN O O)<|v O (by decide) O O (zN O O)<|v O (by decide) O O (qU O O)<|v O (by decide) O O (zD O zGs O)<|v O (by decide) O O (Q O zFm O (Y 0 O) O)<|v O (by decide) O O (zN O O)<|v O (by decide) O O (qU O O)<|v O (by decide) O O (zD O zGs O)<|v O (by decide) O O (Q O zFm O (Y 0 O) O)<|v O (by decide) O O (kE 0 O el26 O O)<|v O (by decide) O O (qZ O O O (by simp only [List.length_map,List.length_append,List.length_cons,List.length_nil];exact ⟨by omega,by omega⟩))<|zHq O O (by decide) O O (zGi (k:=W.length) 0 O el26 O O O (by simp only [List.length_map,List.length_append,List.length_cons,List.length_nil];omega) (by simp)) ?_
     rintro _ _ ⟨sv8,rfl,rfl⟩
     refine ⟨_,O,?_⟩
     refine zBd O<|zX O (qU O O)<|zH O zGs<|D 1 sz26 O<|I<|zW _ (Weak.vecEq 4 O (rows':=W.map fun i=>[cI i]) (by first|rfl|simp|rw [List.take_of_length_le (by simp)]))<|zS O<|qH O ⟨by omega,by omega⟩<|F O<|I ?_
     refine ⟨⟨k+1,_,_,_,(chkS n.Bufs u S (W++[(k:Int)]) s).U⟩,⟨by omega,by omega,zMj hs hp c4⟩,(by show l.length-(k+1)<l.length-k;omega),Weak.mk [false,true,true,true,true] ⟨H,H,H,H,T⟩ O⟩
 ·try simp only [R] at c1
  refine qN<|G O<|F O<|I<|o<|X O ?_
  refine ⟨_,_,_,_,_,_,?_,fun _=>⟨?_,O,O⟩,fun h0=>?_,O⟩
  · rw [zQc hp (by omega)]
  · rw [zQc hp (by omega)]
  · rw [zQc hp (by omega)] at h0;exact absurd rfl h0
theorem zMi (b:Nat) (n:Ns) (hn:n.Ok) (s:St) (hl:stsWt s.Body<=536870912):∀(svL svS svP:Value) (U S:List ByteArray) (W:List Int),U.length+stsN s.Body<=1000000->S.length+stsN s.Body<=1000000->W.length+stsN s.Body<=1000000->Con cfg 82 [vP b,vSts s.Body] (ckN b svL svS svP n U S W) fun r μ'=>∃svL' svS' svP' U' S' W',r=vI (chkL n.Bufs U S W 0 s.Body).E/\((chkL n.Bufs U S W 0 s.Body).E=0->U'=(chkL n.Bufs U S W 0 s.Body).U/\S'=S/\W'=W)/\(¬(chkL n.Bufs U S W 0 s.Body).E=0->W'=(chkL n.Bufs U S W 0 s.Body).W)/\μ'=ckN b svL' svS' svP' n U' S' W':=by
  induction s using St.ind with
  |_ s ih=>
    intro svL svS svP U S W hU hS hW
    refine zEw b svL svS svP n U S W s.Body hn hU hS hW hl fun a ha=>ih a ha ?_
    have:=yI ha;have:=St.body_wt a;omega
theorem ck_statements (b:Nat) (svL svS svP:Value) (n:Ns) (U S:List ByteArray) (W:List Int) (l:List St) (hn:n.Ok) (hU:U.length+stsN l<=1000000) (hS:S.length+stsN l<=1000000) (hW:W.length+stsN l<=1000000) (hl:stsWt l<=536870912):Con cfg 82 [vP b,vSts l] (ckN b svL svS svP n U S W) fun r μ'=>∃svL' svS' svP' U' S' W',r=vI (chkL n.Bufs U S W 0 l).E/\((chkL n.Bufs U S W 0 l).E=0->U'=(chkL n.Bufs U S W 0 l).U/\S'=S/\W'=W)/\(¬(chkL n.Bufs U S W 0 l).E=0->W'=(chkL n.Bufs U S W 0 l).W)/\μ'=ckN b svL' svS' svP' n U' S' W':=
  zEw b svL svS svP n U S W l hn hU hS hW hl fun s hs=>zMi b n hn s (by have:=yI hs;have:=St.body_wt s;omega)
theorem zDb (n:Ns) (hn:n.Ok):
    Pur cfg 34 [vNs n] (.tup [vIs (validN n).1,vI (validN n).2]):=by
 refine zR Tryz.func34 O Tryz.ntmps34 Tryz.results34 O ?_
 intro z hz
 have hnb:=hn.body
 refine G O<|zU O O (qM O O) ?_
 rintro _ _ ⟨b1,rfl,rfl⟩
 refine yA 1 O<|F O<|I<|zJ<|G O<|zH O zAc<|zK kT (Y 0 O) O<|qJ O ok79 (zSa 40 n.Body 40 (by omega) (by omega) O) ⟨H,O,H,O,T⟩<|kO O<|I<|zF O (fun c1=>?_) (fun c1=>?_)
 ·try simp only [R] at c1
  refine G O<|yA 1 O<|F O<|I<|o<|w (p O) (p O) ?_
  rw [zQo c1];rfl
 ·try simp only [R] at c1
  refine zI<|zJ<|G O<|zH O zAc<|zK kT (Y 0 O) O<|qJ O ok80 (zLr n.Body 2000 2000 (by omega) (by omega) O) ⟨H,O,H,O,T⟩<|zX O (yC O O O)<|F O<|rL0 O (fun g3_4=>zD O zAg O) O<|B 16 O (fun g3_4=>Q O zDm O (Y 0 O) O) O<|B 17 O (fun g3_4=>yB O el22 O) O<|B 18 O (fun g3_4=>yC O O O) O<|r_or O (fun h=>(lzf h))<|I<|zF O (fun c2=>?_) (fun c2=>?_)
  ·try simp only [R] at c2
   refine G O<|yA 1 O<|F O<|I<|o<|w (p O) (p O) ?_
   rw [validN_2 c1 (by omega)];rfl
  ·try simp only [R] at c2
   have hnum:=numB_ok (l:=n.Body) (m:=2000) (by omega)
   refine zI<|zJ<|G O<|zH O zAg<|zK zDm (Y 0 O) O<|qJ O ok81 (zIn n.Bufs hn.bufs hn.dims) ⟨H,O,T⟩<|F O<|I<|G O<|F O<|yR O<|I<|zF O (fun c3=>?_) (fun c3=>?_)
   ·try simp only [R] at c3
    refine G O<|F O<|yA 1 O<|F O<|I<|o<|w (p O) (p O) ?_
    rw [validN_b c1 (by omega) c3];rfl
   ·try simp only [R] at c3
    refine zI<|G O<|zO kG (Y 0 O) O<|yP O zr123 pl123<|zU O O (qM O O) ?_
    rintro _ _ ⟨b2,rfl,rfl⟩
    refine yN _ (kX 9 1)<|yN _ (kX 9 1)<|yN _ (kX 3 1)<|F O<|I<|zJ<|G O<|F O<|zH O zAc<|zK kT (Y 4 O) O<|zU O O (zDl [3,2,1,0] O ok82 (ck_statements b2 _ _ _ n [] [] [] n.Body hn (by simp;omega) (by simp;omega) (by simp;omega) hnb) ⟨H,O,H,O,T⟩ O) ?_
    rintro _ _ ⟨_,⟨svL1,svS1,svP1,U1,S1,W1,rfl,hok,hno,rfl⟩,rfl⟩
    refine F O<|I<|G O<|F O<|yR O<|I<|zF O (fun c4=>?_) (fun c4=>?_)
    ·try simp only [R] at c4
     have hW1:=hno c4
     subst hW1
     refine zW _ (yS 0 O (regs':=[]) (μ':=[_,_,_,_]) T ⟨EFle.refl _,EFle.refl _,EFle.row (ds:=[_,_,_,_,_]) ⟨.inl O,.inl O,.inl O,.inl O,.inr ⟨O,O⟩,T⟩,EFle.refl _,T⟩)<|G O<|F O<|zX O (qU O O)<|zH O zGs<|zK zFm (Y 2 O) O<|F O<|F O<|F O<|I<|o<|w (p O) (p O) ?_
     rw [zPc c1 (by omega) c3]
    ·try simp only [R] at c4
     refine zI<|G O<|yA 1 O<|F O<|I<|o<|w (p O) (p O) ?_
     rw [zPc c1 (by omega) c3,chkL_ok c4,c4];rfl
end Go.W
