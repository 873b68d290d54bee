/-
  Walks: what functions of the program compute. Printed by wip/gen/mk2.py.
  Conditions: none.
-/
import Derived.Test.YtlfjpejkoccibaaGreatDoorNA
set_option linter.unusedSimpArgs false
set_option linter.unusedVariables false
set_option maxRecDepth 10000
namespace Go.W
open Go Go.Eng Go.Proofs Go.L41 Go.Br
attribute [local irreducible] AWP RWP TD finQ
abbrev ckN (b:Nat) (svL svS svP:Value) (n:Ns) (U S:List ByteArray) (W:List Int):List E:=
  [.row b 123 [.sl 8 (n.Bufs.map Bf.cells),.sl 20 (n.Body.map St.cells),.lit svL,.lit svS,.lit svP],.vec svL 9 1 (U.map fun s=>[cS s]),.vec svS 9 1 (S.map fun s=>[cS s]),.vec svP 3 1 (W.map fun i=>[cI i])]
abbrev vP (b:Nat):V:=.c (.lit (.pointer (some ⟨b,0,none⟩)))
theorem yY:aggT Tryz.prog 25=some 2:=by kernel_rfl
theorem zAt:aggT Tryz.prog 46=some 20:=by kernel_rfl
theorem zAk:elemT Tryz.prog 228=some (38,5,40):=by kernel_rfl
theorem zAd:fieldT Tryz.prog 25 1=some (1,23):=by kernel_rfl
theorem zAm:fieldT Tryz.prog 46 0=some (0,3):=by kernel_rfl
theorem zAo:fieldT Tryz.prog 46 1=some (1,9):=by kernel_rfl
theorem zAl:fieldT Tryz.prog 46 2=some (2,3):=by kernel_rfl
theorem zFw:fieldT Tryz.prog 46 3=some (3,3):=by kernel_rfl
theorem zPx:fieldT Tryz.prog 46 4=some (4,3):=by kernel_rfl
theorem zDm:fieldT Tryz.prog 46 5=some (5,34):=by kernel_rfl
theorem zBd:fieldT Tryz.prog 46 6=some (6,44):=by kernel_rfl
theorem zPc:fieldT Tryz.prog 123 0=some (0,25):=by kernel_rfl
theorem fd123_1:fieldT Tryz.prog 123 1=some (2,105):=by kernel_rfl
theorem zJx:fieldT Tryz.prog 123 2=some (3,105):=by kernel_rfl
theorem zHv:fieldT Tryz.prog 123 3=some (4,26):=by kernel_rfl
theorem ok81:callOk Tryz.prog 81=true:=by kernel_rfl
theorem ok82:callOk Tryz.prog 82=true:=by kernel_rfl
theorem ok101:callOk Tryz.prog 101=true:=by kernel_rfl
theorem ok129:callOk Tryz.prog 129=true:=by kernel_rfl
theorem ok163:callOk Tryz.prog 163=true:=by kernel_rfl
theorem ok164:callOk Tryz.prog 164=true:=by kernel_rfl
theorem ok165:callOk Tryz.prog 165=true:=by kernel_rfl
theorem ok167:callOk Tryz.prog 167=true:=by kernel_rfl
theorem ok187:callOk Tryz.prog 187=true:=by kernel_rfl
theorem ok188:callOk Tryz.prog 188=true:=by kernel_rfl
theorem ok189:callOk Tryz.prog 189=true:=by kernel_rfl
theorem ok190:callOk Tryz.prog 190=true:=by kernel_rfl
theorem ok205:callOk Tryz.prog 205=true:=by kernel_rfl
theorem ok209:callOk Tryz.prog 209=true:=by kernel_rfl
theorem ok210:callOk Tryz.prog 210=true:=by kernel_rfl
theorem ok211:callOk Tryz.prog 211=true:=by kernel_rfl
theorem ok241:callOk Tryz.prog 241=true:=by kernel_rfl
theorem ok242:callOk Tryz.prog 242=true:=by kernel_rfl
theorem ok243:callOk Tryz.prog 243=true:=by kernel_rfl
theorem zPr:oneT Tryz.prog 121=true:=by kernel_rfl
theorem pl123:placesT Tryz.prog 123=some [(0,2),(2,1),(3,1),(4,1)]:=by kernel_rfl
theorem L:(Tryz.prog.info? 38).map (·.size)=some 5:=by kernel_rfl
theorem sz46:(Tryz.prog.info? 46).map (·.size)=some 20:=by kernel_rfl
theorem j:zeroT Tryz.prog 46=some [(Value.int IntKind.i64 0),(Value.string (ByteArray.mk #[])),(Value.int IntKind.i64 0),(Value.int IntKind.i64 0),(Value.int IntKind.i64 0),(Value.slice none 0 0),(Value.int IntKind.i64 0),(Value.string (ByteArray.mk #[])),(Value.int IntKind.i64 0),(Value.int IntKind.i64 0),(Value.int IntKind.i64 0),(Value.int IntKind.i64 0),(Value.int IntKind.i64 0),(Value.int IntKind.i64 0),(Value.int IntKind.i64 0),(Value.int IntKind.i64 0),(Value.slice none 0 0),(Value.slice none 0 0),(Value.slice none 0 0),(Value.slice none 0 0)]:=by kernel_rfl
theorem zr123:zeroT Tryz.prog 123=some [(Value.slice none 0 0),(Value.slice none 0 0),(Value.slice none 0 0),(Value.slice none 0 0),(Value.slice none 0 0)]:=by kernel_rfl
theorem zIk (l:List Mono) (c:C) (p:Mono->Bool) (μ:List E) (hl:l.length<=4294967296) (hc:∀x,x∈l->FnCon cfg c [vMono x] μ fun r μ'=>r=vB (p x)/\μ'=μ):
    Con cfg 281 [vMonos l,.c c] μ fun r μ'=>r=vI (idxOf p l)/\μ'=μ:=by
 refine zT Tryz.func281 O Tryz.ntmps281 Tryz.results281 O ?_
 intro z hz
 refine F O<|A O<|G<|zJ<|F O<|A O<|qC O N<|A O<|G<|zR<|zY ⟨[(8,.c _),(0,.c _),(1,.c _),(7,.c _)],_⟩ (Weak.regs ⟨H,H,H,H,T⟩)<|zDe 1 O (Nat) (fun k=>[(8,vI k)]) (fun k=>μ) (fun k=>k<=l.length/\((l.take k).any p=false)) (fun k=>l.length-k) ⟨0,⟨by omega,O⟩,Weak.regs ⟨H,H,H,H,T⟩⟩ ?_
 rintro k ⟨hk,hp⟩
 refine F O<|yD O<|G<|zJ<|zD O (fun c1=>?_) (fun c1=>?_)
 ·try simp only [I] at c1
  obtain ⟨x,hx⟩:=qV l k (by omega)
  refine zK<|zJ<|zR<|F O<|A O<|A O<|G<|F O<|A O<|A O<|A O<|qD O N (by omega) (Q (by assumption))<|zP zOd qA O<|zX O O (zAf O O (hc _ (qB hx)) ⟨H,O,T⟩) ?_
  rintro _ _ ⟨rfl,rfl⟩
  refine G<|zD O (fun c2=>?_) (fun c2=>?_)
  ·try simp only [I] at c2
   refine F O<|A O<|A O<|G<|o<|X O ?_
   exact ⟨by rw [zRj hx c2 hp],O⟩
  ·try simp only [I] at c2
   refine zK<|zQ O<|qJ O ⟨by omega,by omega⟩<|A O<|G ?_
   refine ⟨k+1,⟨by omega,zSa hx hp c2⟩,(by omega),Weak.regs ⟨H,H,H,H,T⟩⟩
 ·try simp only [I] at c1
  refine qQ<|F O<|A O<|G<|o<|X O ?_
  exact ⟨by rw [zKp (by rw [yO (by omega)] at hp;exact hp)],O⟩
theorem zGa (l:List Mono) (c:C) (p:Mono->Bool) (μ:List E) (hl:l.length<=4294967296) (hc:∀x,x∈l->FnCon cfg c [vMono x] μ fun r μ'=>r=vB (p x)/\μ'=μ):
    Con cfg 241 [vMonos l,.c c] μ fun r μ'=>r=vB (l.any p)/\μ'=μ:=by
 refine zT Tryz.func241 O Tryz.ntmps241 Tryz.results241 O ?_
 intro z hz
 refine F O<|A O<|G<|F O<|A O<|A O<|zX O O (zAu O ok281 (zIk l c p μ hl hc) ⟨H,O,H,O,T⟩) ?_
 rintro _ _ ⟨rfl,rfl⟩
 refine zU O (wH O O O)<|A O<|G<|o<|X O ?_
 exact ⟨by rw [zNk],O⟩
theorem zKx (l:List Lf) (c:C) (p:Lf->Bool) (μ:List E) (hl:l.length<=4294967296) (hc:∀x,x∈l->FnCon cfg c [vLin x] μ fun r μ'=>r=vB (p x)/\μ'=μ):
    Con cfg 243 [vLins l,.c c] μ fun r μ'=>r=vI (idxOf p l)/\μ'=μ:=by
 refine zT Tryz.func243 O Tryz.ntmps243 Tryz.results243 O ?_
 intro z hz
 refine F O<|A O<|G<|zJ<|F O<|A O<|qC O el70<|A O<|G<|zR<|zY ⟨[(8,.c _),(0,.c _),(1,.c _),(7,.c _)],_⟩ (Weak.regs ⟨H,H,H,H,T⟩)<|zDe 1 O (Nat) (fun k=>[(8,vI k)]) (fun k=>μ) (fun k=>k<=l.length/\((l.take k).any p=false)) (fun k=>l.length-k) ⟨0,⟨by omega,O⟩,Weak.regs ⟨H,H,H,H,T⟩⟩ ?_
 rintro k ⟨hk,hp⟩
 refine F O<|yD O<|G<|zJ<|zD O (fun c1=>?_) (fun c1=>?_)
 ·try simp only [I] at c1
  obtain ⟨x,hx⟩:=qV l k (by omega)
  refine zK<|zJ<|zR<|F O<|A O<|A O<|G<|F O<|A O<|A O<|A O<|qD O el70 (by omega) (Q (by assumption))<|zP yK qA O<|zX O O (zAf O O (hc _ (qB hx)) ⟨H,O,T⟩) ?_
  rintro _ _ ⟨rfl,rfl⟩
  refine G<|zD O (fun c2=>?_) (fun c2=>?_)
  ·try simp only [I] at c2
   refine F O<|A O<|A O<|G<|o<|X O ?_
   exact ⟨by rw [zRj hx c2 hp],O⟩
  ·try simp only [I] at c2
   refine zK<|zQ O<|qJ O ⟨by omega,by omega⟩<|A O<|G ?_
   refine ⟨k+1,⟨by omega,zSa hx hp c2⟩,(by omega),Weak.regs ⟨H,H,H,H,T⟩⟩
 ·try simp only [I] at c1
  refine qQ<|F O<|A O<|G<|o<|X O ?_
  exact ⟨by rw [zKp (by rw [yO (by omega)] at hp;exact hp)],O⟩
theorem zHg (l:List Lf) (c:C) (p:Lf->Bool) (μ:List E) (hl:l.length<=4294967296) (hc:∀x,x∈l->FnCon cfg c [vLin x] μ fun r μ'=>r=vB (p x)/\μ'=μ):
    Con cfg 210 [vLins l,.c c] μ fun r μ'=>r=vB (l.any p)/\μ'=μ:=by
 refine zT Tryz.func210 O Tryz.ntmps210 Tryz.results210 O ?_
 intro z hz
 refine F O<|A O<|G<|F O<|A O<|A O<|zX O O (zAu O ok243 (zKx l c p μ hl hc) ⟨H,O,H,O,T⟩) ?_
 rintro _ _ ⟨rfl,rfl⟩
 refine zU O (wH O O O)<|A O<|G<|o<|X O ?_
 exact ⟨by rw [zNk],O⟩
theorem inScope_1 (b:Nat) (svL svS svP:Value) (n:Ns) (U S:List ByteArray) (W:List Int) (m:Mono) (hS:S.length<=1000000):
    Con cfg 242 [vMono m,.c (.iptr [.lit (.pointer (some ⟨b,0,none⟩))])] (ckN b svL svS svP n U S W) fun r μ'=>r=vB (!hasB S m.Name)/\μ'=ckN b svL svS svP n U S W:=by
 refine zT Tryz.func242 O Tryz.ntmps242 Tryz.results242 O ?_
 intro z hz
 refine F O<|zX O O (qN O O) ?_
 rintro _ _ ⟨b1,rfl,rfl⟩
 refine A O<|G<|zJ<|qY 6 mixed (by kernel_rfl) O O<|M O O (zF O zPr O qA O)<|M O O (qW O O)<|M O O (zE O zJx O)<|M O O (zF O zMw O (R 1 O) O)<|M O O (zE O zAc O)<|M O O (zF O one9 O (R 0 O) O)<|kD<|zU O (zHx 3 O ok143 O (zCu S m.Name hS) O ⟨.inl ⟨O,O⟩,.inr ⟨H,O⟩,T⟩)<|kO O<|A O<|G<|zY _ (Weak.mem [false,true,true,true,true] O)<|o<|X O ?_
 exact ⟨O,O⟩
theorem zPl (b:Nat) (svL svS svP:Value) (n:Ns) (U S:List ByteArray) (W:List Int) (l:Lf) (hS:S.length<=1000000) (hl:l.L.length<=4294967296):
    Con cfg 209 [vP b,vLin l] (ckN b svL svS svP n U S W) fun r μ'=>r=vB (inSc S l)/\μ'=ckN b svL svS svP n U S W:=by
 refine zT Tryz.func209 O Tryz.ntmps209 Tryz.results209 O ?_
 intro z hz
 refine F O<|zX O O (qN O O) ?_
 rintro _ _ ⟨b1,rfl,rfl⟩
 refine yI _ (yW 0 O 2 _ PLe.ptr)<|zX O O (qN O O) ?_
 rintro _ _ ⟨b2,rfl,rfl⟩
 refine A O<|G<|F O<|zH O yT<|zM wE (R 0 O) O<|zU O (zDz O O O O O)<|zU O (kK [1,1,1,1] O ok241 (zGa l.L _ (fun m=> !hasB S m.Name) (ckN b svL svS svP n U S W) hl (fun m _=>FnCon.of_con (first:=[]) (cap:=[.iptr [.lit (.pointer (some ⟨b,0,none⟩))]]) ok242 (inScope_1 b svL svS svP n U S W m hS))) ⟨H,O,H,O,T⟩ O)<|kO O<|A O<|G<|zY _ (Weak.mem [false,true,true,true,true] O)<|o<|X O ?_
 exact ⟨by rw [zJn];rfl,O⟩
theorem node_1 (b:Nat) (svL svS svP:Value) (n:Ns) (U S:List ByteArray) (W:List Int) (l:Lf) (hS:S.length<=1000000) (hl:l.L.length<=4294967296):
    Con cfg 211 [vLin l,.c (.iptr [.lit (.pointer (some ⟨b,0,none⟩))])] (ckN b svL svS svP n U S W) fun r μ'=>r=vB (!inSc S l)/\μ'=ckN b svL svS svP n U S W:=by
 refine zT Tryz.func211 O Tryz.ntmps211 Tryz.results211 O ?_
 intro z hz
 refine F O<|zX O O (qN O O) ?_
 rintro _ _ ⟨b1,rfl,rfl⟩
 refine A O<|G<|F O<|zM zPr qA O<|zP yK (R 0 O) O<|zU O (kK [1,1,1,1] O ok209 (zPl b svL svS svP n U S W l hS hl) ⟨H,O,H,O,T⟩ O)<|kO O<|A O<|G<|zY _ (Weak.mem [false,true,true,true,true] O)<|o<|X O ?_
 exact ⟨O,O⟩
theorem ck_node (b:Nat) (svL svS svP:Value) (n:Ns) (U S:List ByteArray) (W:List Int) (e:Ex) (hn:n.Ok) (hS:S.length<=1000000) (he:e.wt<=1073741824):
    Con cfg 189 [vP b,vE e] (ckN b svL svS svP n U S W) fun r μ'=>r=vI (nodeN n.Bufs S e)/\μ'=ckN b svL svS svP n U S W:=by
 refine zT Tryz.func189 O Tryz.ntmps189 Tryz.results189 O ?_
 intro z hz
 obtain ⟨hL,hI,hA⟩:=e.parts he
 have hwt:=Ex.wt_eq e
 refine F O<|zX O O (qN O O) ?_
 rintro _ _ ⟨b1,rfl,rfl⟩
 refine yI _ (yW 0 O 2 _ PLe.ptr)<|zX O O (qN O O) ?_
 rintro _ _ ⟨b2,rfl,rfl⟩
 refine A O<|G<|F O<|zM zPr qA O<|zH O zDj<|zP yK (R 0 O) O<|zU O (kK [1,1,1,1] O ok209 (zPl b svL svS svP n U S W e.Lin hS (by omega)) ⟨H,O,H,O,T⟩ O)<|A O<|G<|zJ<|F O<|zH O wD<|zM wQ (R 0 O) O<|qC O d<|A O<|G<|zR<|zY ⟨[(20,.c _),(5,.c _),(2,.c _),(3,.c _),(18,.c _),(19,.c _)],[_,_,_,_,_]⟩ (Weak.mk [true,true,true,true,true] ⟨H,H,H,H,H,H,T⟩ O) ?_
 refine qK 2 0 O O (Nat) (fun k=>[(20,vI k),(5,vB (inSc S e.Lin&&(e.Idx.take k).all (ixSc S)))]) (fun k=>[]) (fun k=>k<=e.Idx.length) (fun k=>e.Idx.length-k) ⟨0,(by omega),Weak.mk [true,true,true,true,true] ⟨H,VLe.of_eq (congrArg vB (by simp)),H,H,H,H,T⟩ O⟩ ?_
 rintro k hk
 refine F O<|yD O<|G<|zJ<|zD O (fun c1=>?_) (fun c1=>?_)
 ·try simp only [I] at c1
  obtain ⟨x,hx⟩:=qV e.Idx k (by omega)
  refine zK<|zJ<|zR<|F O<|qD O d (by omega) (Q (by assumption))<|zP zIb qA O<|zX O O (qE [none,some 2,none,some 2] O zr72 O) ?_
  rintro _ _ ⟨b3,rfl,rfl⟩
  refine Y 0 sz72 O<|G<|zQ O<|A O<|A O<|rL0 O (fun g5_1=>zF O zPr O qA O) O<|rL0 O (fun g5_1=>zE O zEp O) O<|B 27 O (fun g5_1=>zZ O yK O (R 0 O) O) O<|rLz [(26,_),(28,_)] O gv1 ⟨O,O,O,O,T⟩ (fun g5_1=>kK [2,2,2,2] O ok209 (zPl b svL svS svP n U S W x.Lin hS (by have:=Ex.idx_wt (qB hx);omega)) ⟨H,O,H,O,T⟩ O) O<|yS O (fun h=>h)<|A O<|rL0 O (fun g5_7=>zE O zAq O) O<|B 32 O (fun g5_7=>zF O zEh O (R 0 O) O) O<|rL0 O (fun g5_7=>zDz O O O O O) O<|rLz [(33,_),(34,_)] O gv1 ⟨O,O,O,O,T⟩ (fun g5_7=>kK [2,2,2,2] O ok210 (zHg x.At _ (fun l=> !inSc S l) (ckN b svL svS svP n U S W) (by have:=Ex.idx_wt (qB hx);omega) (fun l hl=>FnCon.of_con (first:=[]) (cap:=[.iptr [.lit (.pointer (some ⟨b,0,none⟩))]]) ok211 (node_1 b svL svS svP n U S W l hS (by have:=Ex.idx_wt (qB hx);have:=zDb hl;omega)))) ⟨H,O,H,O,T⟩ O) O<|B 35 O (fun g5_7=>kX O O) O<|yS O (fun h=>h)<|A O<|G<|zQ O<|qJ O ⟨by omega,by omega⟩<|A O<|G ?_
  refine ⟨k+1,(by omega),(by omega),Weak.mk [false,true,true,true,true,true] ⟨H,VLe.of_eq (congrArg vB (by rw [zJn];exact scAll_next hx)),H,H,H,H,T⟩ O⟩
 ·try simp only [I] at c1
  rw [yO (l:=e.Idx) (k:=k) (by omega)]
  refine qQ<|zJ<|F O<|A O<|kO O<|G<|zD O (fun c2=>?_) (fun c2=>?_)
  ·have h9:nodeSc S e=false:=(Bool.not_eq_true' _).mp c2
   refine F O<|A O<|G<|zY _ (Weak.mem [false,true,true,true,true] O)<|o<|X O ?_
   exact ⟨by rw [nodeN_9 h9],O⟩
  ·have h9:nodeSc S e=true:=(Bool.not_eq_false' _).mp c2
   refine zK<|zJ<|F O<|zH O wF<|zM one3 (R 0 O) O<|yN O<|G<|zD O (fun c3=>?_) (fun c3=>?_)
   ·try simp only [I] at c3
    refine F O<|A O<|G<|zY _ (Weak.mem [false,true,true,true,true] O)<|o<|X O ?_
    exact ⟨by rw [nodeN_o h9 c3],O⟩
   ·try simp only [I] at c3
    refine zK<|zJ<|kH 12 1 [⟨0,.q []⟩,⟨1,.q []⟩,⟨2,.q []⟩,⟨3,.q [2]⟩,⟨4,.q []⟩,⟨5,.q [1]⟩,⟨6,.q []⟩,⟨7,.q []⟩,⟨8,.q []⟩,⟨9,.q []⟩,⟨10,.e 0 []⟩,⟨11,.e 0 []⟩] mixed (by kernel_rfl) (by kernel_rfl) O O O<|t O<|t O<|t O<|t O<|t O<|t O<|t O<|t O<|t O<|t O<|t O<|t O<|zAz<|v O (by decide) O O (zF O zPr O qA O)<|v O (by decide) O O (qW O O)<|v O (by decide) O O (zE O zPc O)<|v O (by decide) O O (zZ O yY O (R 0 O) O)<|v O (by decide) O O (zE O zFk O)<|v O (by decide) O O (zF O one9 O (R 0 O) O)<|v O (by decide) O O (qM O ok101 (zAj n e.Name hn) ⟨H,O,H,O,T⟩)<|v O (by decide) O O (kF O O)<|v O (by decide) O O (kY O O O)<|v O (by decide) O O (wA O O O)<|zHe O O (by decide) O O (qE [none,none,none,none,none,none,some 1,none] O zr65 O) ?_
    rintro _ _ ⟨b4,rfl,rfl⟩
    refine ⟨_,O,?_⟩
    refine zEe O O (by decide) O O (yU O sz65 O O O (zEd 0 O O)) ?_
    rintro _ _ ⟨rfl,rfl⟩
    refine ⟨_,O,?_⟩
    refine zAv O<|A O<|G<|zJ<|F O<|A O<|kO O<|G<|zD O (fun c4=>?_) (fun c4=>?_)
    ·try simp only [I] at c4
     refine F O<|A O<|G<|zY _ (Weak.mem [false,false,true,true,true,true] O)<|o<|X O ?_
     exact ⟨by rw [nodeN_n h9 (by omega) c4],O⟩
    ·try simp only [I] at c4
     refine zK<|zJ<|F O<|zH O zLh<|zM zGo (R 0 O) O<|qC O K<|zH O wD<|zM wQ (R 1 O) O<|qC O d<|yN O<|G<|zD O (fun c5=>?_) (fun c5=>?_)
     ·try simp only [I] at c5
      refine F O<|A O<|G<|zY _ (Weak.mem [false,false,true,true,true,true] O)<|o<|X O ?_
      exact ⟨by rw [nodeN_r h9 (by omega) c4 (by omega)],O⟩
     ·try simp only [I] at c5
      refine zK<|zJ<|F O<|zH O wD<|zM wQ (R 1 O) O<|qC O d<|A O<|G<|zR<|zY ⟨[(66,.c _),(2,.c _),(64,.c _),(65,.c _)],[_,_,_,_]⟩ (Weak.mk [false,false,true,true,true,true] ⟨H,H,H,H,T⟩ O)<|qK 1 0 O O (Nat) (fun j=>[(66,vI j)]) (fun j=>[]) (fun j=>j<=e.Idx.length/\(gathL n.Bufs e.Idx=gathL n.Bufs (e.Idx.drop j))) (fun j=>e.Idx.length-j) ⟨0,⟨by omega,O⟩,Weak.mk [true,true,true,true] ⟨H,H,H,H,T⟩ O⟩ ?_
      rintro j ⟨hk,hq⟩
      refine F O<|yD O<|G<|zJ<|zD O (fun c6=>?_) (fun c6=>?_)
      ·try simp only [I] at c6
       obtain ⟨y,hy⟩:=qV e.Idx j (by omega)
       refine zK<|zJ<|zR<|F O<|qD O d (by omega) (Q (by assumption))<|zP zIb qA O<|zX O O (qE [none,some 2,none,some 2] O zr72 O) ?_
       rintro _ _ ⟨b5,rfl,rfl⟩
       refine Y 0 sz72 O<|G<|zJ<|F O<|zH O zEo<|zM one9 (R 0 O) O<|zU O (yV O O O)<|G<|zD O (fun c7=>?_) (fun c7=>?_)
       ·try simp only [I] at c7
        refine qQ<|zQ O<|qJ O ⟨by omega,by omega⟩<|A O<|G ?_
        refine ⟨j+1,⟨by omega,hq.trans (zKr hy (by first|exact gathE_0 c7|exact zRk c7 c8 (by omega) (by omega)))⟩,(by omega),Weak.mk [false,true,true,true,true] ⟨H,H,H,H,T⟩ O⟩
       ·try simp only [I] at c7
        refine zK<|zJ<|kH 12 1 [⟨0,.q []⟩,⟨1,.q []⟩,⟨2,.q []⟩,⟨3,.q [2]⟩,⟨4,.q []⟩,⟨5,.q [1]⟩,⟨6,.q []⟩,⟨7,.q []⟩,⟨8,.q []⟩,⟨9,.q []⟩,⟨10,.e 0 []⟩,⟨11,.e 0 []⟩] mixed (by kernel_rfl) (by kernel_rfl) O O O<|t O<|t O<|t O<|t O<|t O<|t O<|t O<|t O<|t O<|t O<|t O<|t O<|zAz<|v O (by decide) O O (zF O zPr O qA O)<|v O (by decide) O O (qW O O)<|v O (by decide) O O (zE O zPc O)<|v O (by decide) O O (zZ O yY O (R 0 O) O)<|v O (by decide) O O (zE O zEo O)<|v O (by decide) O O (zF O one9 O (R 0 O) O)<|v O (by decide) O O (qM O ok101 (zAj n y.From hn) ⟨H,O,H,O,T⟩)<|v O (by decide) O O (kF O O)<|v O (by decide) O O (kY O O O)<|v O (by decide) O O (wA O O O)<|zHe O O (by decide) O O (qE [none,none,none,none,none,none,some 1,none] O zr65 O) ?_
        rintro _ _ ⟨b6,rfl,rfl⟩
        refine ⟨_,O,?_⟩
        refine zEe O O (by decide) O O (yU O sz65 O O O (zEd 0 O O)) ?_
        rintro _ _ ⟨rfl,rfl⟩
        refine ⟨_,O,?_⟩
        refine zAv O<|A O<|G<|zR<|F O<|A O<|kO O<|A O<|G<|zD O (fun c8=>?_) (fun c8=>?_)
        ·try simp only [I] at c8
         refine F O<|A O<|G<|zY _ (Weak.mem [false,false,true,true,true,true] O)<|o<|X O ?_
         exact ⟨by rw [zJo h9 (by omega) c4 (by omega),hq,zKq hy (by rw [gathE_9 c7 c8];decide),gathE_9 c7 c8],O⟩
        ·try simp only [I] at c8
         refine F O<|zH O zJv<|zH O zGu<|zM one3 (R 0 O) O<|yN O<|A O<|G<|zD O (fun c9=>?_) (fun c9=>?_)
         ·try simp only [I] at c9
          refine F O<|A O<|G<|zY _ (Weak.mem [false,false,true,true,true,true] O)<|o<|X O ?_
          exact ⟨by rw [zJo h9 (by omega) c4 (by omega),hq,zKq hy (by rw [zRm c7 c8 c9];decide),zRm c7 c8 c9],O⟩
         ·try simp only [I] at c9
          refine F O<|zH O zLh<|zM zGo (R 0 O) O<|qC O K<|zH O zAq<|zM zEh (R 1 O) O<|qC O el70<|yN O<|A O<|G<|zD O (fun c10=>?_) (fun c10=>?_)
          ·try simp only [I] at c10
           refine F O<|A O<|G<|zY _ (Weak.mem [false,false,true,true,true,true] O)<|o<|X O ?_
           exact ⟨by rw [zJo h9 (by omega) c4 (by omega),hq,zKq hy (by rw [zRl c7 c8 c9 (by omega)];decide),zRl c7 c8 c9 (by omega)],O⟩
          ·try simp only [I] at c10
           refine zK<|zQ O<|qJ O ⟨by omega,by omega⟩<|A O<|G ?_
           refine ⟨j+1,⟨by omega,hq.trans (zKr hy (by first|exact gathE_0 c7|exact zRk c7 c8 (by omega) (by omega)))⟩,(by omega),Weak.mk [false,false,true,true,true,true] ⟨H,H,H,H,T⟩ O⟩
      ·try simp only [I] at c6
       refine qQ<|F O<|A O<|G<|o<|X O ?_
       exact ⟨by rw [zJo h9 (by omega) c4 (by omega),hq,kA (by omega)];rfl,O⟩
theorem ck_typeOf_step (b:Nat) (svL svS svP:Value) (n:Ns) (U S:List ByteArray) (W:List Int) (hn:n.Ok) (e:Ex) (ih:∀a,a∈e.Args->partE a=0->a.wt<=1073741824->Con cfg 190 [vP b,vE a] (ckN b svL svS svP n U S W) fun r μ'=>r=.tup [vTy (nodeT (tyF n.Bufs) a).1,vI (nodeT (tyF n.Bufs) a).2]/\μ'=ckN b svL svS svP n U S W) (hpart:partE e=0) (he:e.wt<=1073741824):
    Con cfg 190 [vP b,vE e] (ckN b svL svS svP n U S W) fun r μ'=>r=.tup [vTy (nodeT (tyF n.Bufs) e).1,vI (nodeT (tyF n.Bufs) e).2]/\μ'=ckN b svL svS svP n U S W:=by
 refine Con.drop<|zT Tryz.func190 O Tryz.ntmps190 Tryz.results190 O ?_
 intro z hz
 obtain ⟨hLl,hIl,hAl⟩:=e.parts he
 have hwt:=Ex.wt_eq e
 refine F O<|zX O O (qN O O) ?_
 rintro _ _ ⟨b1,rfl,rfl⟩
 refine zX O O (yX O m) ?_
 rintro _ _ ⟨b2,rfl,rfl⟩
 refine A O<|G<|F O<|A O<|yI _ (kN 38 5)<|G<|zJ<|F O<|zH O wN<|zM zBk (R 2 O) O<|qC O el42<|A O<|G<|zR<|zY ⟨[(16,.c _),(6,.c _),(0,.c _),(3,.c _),(4,.c _),(14,.c _),(15,.c _)],[_,_,_,_,_,_,_]⟩ (Weak.mk [true,true,true,true,true,true,true] ⟨H,H,H,H,H,H,H,T⟩ O)<|qK 2 1 O O (Nat×Value) (fun ⟨k,sv⟩=>[(16,vI k),(6,.c (.lit sv))]) (fun ⟨k,sv⟩=>[E.vec sv 38 5 ((nodeL (tyF n.Bufs) (e.Args.take k)).1.map tyC)]) (fun ⟨k,sv⟩=>k<=e.Args.length/\((nodeL (tyF n.Bufs) (e.Args.take k)).2=0)) (fun ⟨k,sv⟩=>e.Args.length-k) ⟨⟨0,(.slice none 0 0)⟩,⟨by omega,O⟩,Weak.mk [true,true,true,true,true,true,true] ⟨H,H,H,H,H,H,H,T⟩ O⟩ ?_
 rintro ⟨k,sv⟩ ⟨hk,hp⟩
 show AWP _ _ _ _ _ ⟨[(16,vI k),(6,.c (.lit sv))]++_,[E.vec sv 38 5 ((nodeL (tyF n.Bufs) (e.Args.take k)).1.map tyC)]++_⟩
 refine F O<|yD O<|G<|zJ<|zD O (fun c1=>?_) (fun c1=>?_)
 ·try simp only [I] at c1
  obtain ⟨x,hx⟩:=qV e.Args k (by omega)
  have hll:=zGp _ _ hp
  refine zK<|zJ<|zR<|F O<|qD O el42 (by omega) (zEm (by assumption))<|zP kC qA O<|zX O O (qE [none,none,none,none,none,none,none,none,none,none,some 2,some 4,some 13] O zr44 O) ?_
  rintro _ _ ⟨b4,rfl,rfl⟩
  refine Y 0 sz44 O<|G<|F O<|A O<|zP kC (R 0 O) O<|zU O (kK [4,4,4,4] O ok190 (ih x (qB hx) (zTl hpart (qB hx)) (by have:=Ex.arg_wt (qB hx);omega)) ⟨H,O,H,O,T⟩ O)<|qO O<|yJ O<|qU O<|zX O O (yX O m) ?_
  rintro _ _ ⟨b5,rfl,rfl⟩
  refine Y 0 L O<|A O<|G<|zJ<|F O<|A O<|yN O<|G<|zD O (fun c2=>?_) (fun c2=>?_)
  ·try simp only [I] at c2
   refine F O<|zP yR (R 0 O) O<|A O<|Y 3 L O<|A O<|G<|zY _ (Weak.mem [false,false,false,true,false,true,true,true,true] O)<|o<|p (zV yR O (R 0 O) O) (J O) ?_
   exact ⟨by rw [nodeT_no hx hp c2,nodeT_zero c2];rfl,[_],O⟩
  ·try simp only [I] at c2
   refine zK<|zQ O<|A O<|zP yR (R 0 O) O<|yZ O zAk m<|zX O O (qX 2 O zAk O O O (by simp only [List.length_map,List.length_cons,List.length_nil,hll,List.length_take];omega) (by simp only [List.length_map,List.length_cons,List.length_nil,hll,List.length_take];omega)) ?_
   rintro _ _ ⟨sv6,rfl,rfl⟩
   refine A O<|G<|zQ O<|qJ O ⟨by omega,by omega⟩<|A O<|G ?_
   refine ⟨⟨k+1,sv6⟩,⟨by omega,by rw [zEu hx hp c2]⟩,(by show e.Args.length-(k+1)<e.Args.length-k;omega),Weak.mk [false,false,true,true,true,true,true,true,true] ⟨H,H,H,H,H,H,H,T⟩ (by show _=[E.vec sv6 _ 5 ((nodeL (tyF n.Bufs) (e.Args.take (k+1))).1.map tyC)]++_;rw [zEu hx hp c2];simp only [List.map_append];rfl)⟩
 ·try simp only [I] at c1
  have hll:=zGp _ _ hp
  have hta:e.Args.take k=e.Args:=yO (by omega)
  rw [hta] at hll
  have hg:∀i,i<e.Args.length->((nodeL (tyF n.Bufs) (e.Args.take k)).1.map tyC)[i]? =some (tyC (tyAt (nodeL (tyF n.Bufs) (e.Args.take k)).1 i)):=fun i hi=>zKi (by rw [hta];omega)
  have hgn:∀i:Nat,1<=i->i<=e.Args.length->∀j:Int,j=(((nodeL (tyF n.Bufs) (e.Args.take k)).1.length:Int)-i)->((nodeL (tyF n.Bufs) (e.Args.take k)).1.map tyC)[j.toNat]? =some (tyC (tyAt (nodeL (tyF n.Bufs) (e.Args.take k)).1 ((nodeL (tyF n.Bufs) (e.Args.take k)).1.length-i))):=fun i h1 h2 j hj=>by rw [hta] at *;rw [show j.toNat=(nodeL (tyF n.Bufs) e.Args).1.length-i by omega];exact zKi (by omega)
  have hT:nodeT (tyF n.Bufs) e=tyF n.Bufs e (nodeL (tyF n.Bufs) (e.Args.take k)).1:=nodeT_ok hta hp
  have hlk:(nodeL (tyF n.Bufs) (e.Args.take k)).1.length=e.Args.length:=by rw [hta];exact hll
  refine qQ<|zJ<|F O<|zH O wF<|zM one3 (R 2 O) O<|G<|zR<|zJ<|F O<|yF O<|A O<|G<|zD O (fun c3=>?_) (fun c3=>?_)
  ·try simp only [I] at c3
   refine zK<|zD O (fun c4=>?_) (fun c4=>?_)
   ·try simp only [I] at c4
    refine F O<|zH O zFj<|zP yR (R 2 O) O<|Y 1 L O<|A O<|G<|zY _ (Weak.mem [false,true,false,true,true,true,true] O)<|o<|p (zV yR O (R 0 O) O) (J O) ?_
    exact ⟨by rw [hT];first|(rw [zCb (by omega)];rfl)|(rw [zCj (by omega)];rfl)|(rw [zCa (by omega)];rfl)|(rw [zCi (by omega)];rfl)|(rw [wY (by omega)];rfl)|(rw [wZ ho h10];rfl)|(rw [zCh ho h10 c12];rfl)|(rw [zBz ho h10 c12];rfl),[_],O⟩
   ·try simp only [I] at c4
    refine F O<|yF O<|A O<|G<|zD O (fun c5=>?_) (fun c5=>?_)
    ·try simp only [I] at c5
     refine F O<|yP O m pl38<|Y 1 L O<|A O<|G<|zY _ (Weak.mem [false,true,false,true,true,true,true] O)<|o<|p (zV yR O (R 0 O) O) (J O) ?_
     exact ⟨by rw [hT];first|(rw [zCb (by omega)];rfl)|(rw [zCj (by omega)];rfl)|(rw [zCa (by omega)];rfl)|(rw [zCi (by omega)];rfl)|(rw [wY (by omega)];rfl)|(rw [wZ ho h10];rfl)|(rw [zCh ho h10 c12];rfl)|(rw [zBz ho h10 c12];rfl),[_],O⟩
    ·try simp only [I] at c5
     refine F O<|yF O<|A O<|G<|zD O (fun c6=>?_) (fun c6=>?_)
     ·try simp only [I] at c6
      refine zJ<|kH 12 1 [⟨0,.q []⟩,⟨1,.q []⟩,⟨2,.q []⟩,⟨3,.q [4]⟩,⟨4,.q []⟩,⟨5,.q [3]⟩,⟨6,.q []⟩,⟨7,.q []⟩,⟨8,.q []⟩,⟨9,.q []⟩,⟨10,.e 0 []⟩,⟨11,.e 0 []⟩] mixed (by kernel_rfl) (by kernel_rfl) O O O<|t O<|t O<|t O<|t O<|t O<|t O<|t O<|t O<|t O<|t O<|t O<|t O<|zAz<|v O (by decide) O O (w O O)<|v O (by decide) O O (qW O O)<|v O (by decide) O O (zE O zPc O)<|v O (by decide) O O (zZ O yY O (R 0 O) O)<|v O (by decide) O O (zE O zFk O)<|v O (by decide) O O (zF O one9 O (R 0 O) O)<|v O (by decide) O O (qM O ok101 (zAj n e.Name hn) ⟨H,O,H,O,T⟩)<|v O (by decide) O O (kF O O)<|v O (by decide) O O (kY O O O)<|v O (by decide) O O (wA O O O)<|zHe O O (by decide) O O (qE [none,none,none,none,none,none,some 1,none] O zr65 O) ?_
      rintro _ _ ⟨b7,rfl,rfl⟩
      refine ⟨_,O,?_⟩
      refine zEe O O (by decide) O O (yU O sz65 O O O (zEd 0 O O)) ?_
      rintro _ _ ⟨rfl,rfl⟩
      refine ⟨_,O,?_⟩
      refine zAv O<|A O<|G<|F O<|zH O zJv<|zP yR (R 0 O) O<|Y 2 L O<|A O<|G<|zY _ (Weak.mem [false,false,true,false,true,true,true,true] O)<|o<|p (zV yR O (R 0 O) O) (J O) ?_
      exact ⟨by rw [hT];first|(rw [zCb (by omega)];rfl)|(rw [zCj (by omega)];rfl)|(rw [zCa (by omega)];rfl)|(rw [zCi (by omega)];rfl)|(rw [wY (by omega)];rfl)|(rw [wZ ho h10];rfl)|(rw [zCh ho h10 c12];rfl)|(rw [zBz ho h10 c12];rfl),[_],O⟩
     ·try simp only [I] at c6
      refine F O<|yF O<|A O<|G<|zD O (fun c7=>?_) (fun c7=>?_)
      ·try simp only [I] at c7
       have hlen1:=args_len hpart (by omega)
       refine F O<|A O<|zU O (qS 0 O zAk O O O (by omega) (by simp only [List.length_map];omega))<|zP yR (wM 0 O (hg 0 (by omega))) O<|Y 1 L O<|A O<|G<|zY _ (Weak.mem [false,true,false,true,true,true,true] O)<|o<|p (zV yR O (R 0 O) O) (J O) ?_
       exact ⟨by rw [hT];first|(rw [zCb (by omega)];rfl)|(rw [zCj (by omega)];rfl)|(rw [zCa (by omega)];rfl)|(rw [zCi (by omega)];rfl)|(rw [wY (by omega)];rfl)|(rw [wZ ho h10];rfl)|(rw [zCh ho h10 c12];rfl)|(rw [zBz ho h10 c12];rfl),[_],O⟩
      ·try simp only [I] at c7
       refine zJ<|F O<|yF O<|A O<|G<|zD O (fun c8=>?_) (fun c8=>?_)
       ·try simp only [I] at c8
        refine zK<|zD O (fun c10=>?_) (fun c10=>?_)
        ·try simp only [I] at c10
         refine F O<|yP O m pl38<|Y 1 L O<|A O<|G<|zY _ (Weak.mem [false,true,false,true,true,true,true] O)<|o<|p (zV yR O (R 0 O) O) (J O) ?_
         exact ⟨by rw [hT];first|(rw [zCb (by omega)];rfl)|(rw [zCj (by omega)];rfl)|(rw [zCa (by omega)];rfl)|(rw [zCi (by omega)];rfl)|(rw [wY (by omega)];rfl)|(rw [wZ ho h10];rfl)|(rw [zCh ho h10 c12];rfl)|(rw [zBz ho h10 c12];rfl),[_],O⟩
        ·try simp only [I] at c10
         have hlen2:=zGy hpart (by omega)
         have ho:¬opLow e.Op:=by unfold opLow;omega
         refine zK<|zJ<|zJ<|qY 13 mixed (by kernel_rfl) O O<|M O O (w O O)<|M O O (w O O)<|M O O (kJ 0 O zAk O O)<|M O O (yB O O O (by simp only [List.length_map];exact ⟨by omega,by omega⟩))<|M O O (qS 0 O zAk O O O (by simp only [List.length_map];omega) (by simp only [List.length_map];omega))<|M O O (zZ O yR O (wM 0 O (hgn 2 (by omega) (by omega) _ (by simp only [List.length_map];rfl))) O)<|M O O (w O O)<|M O O (w O O)<|M O O (kJ 0 O zAk O O)<|M O O (yB O O O (by simp only [List.length_map];exact ⟨by omega,by omega⟩))<|M O O (qS 0 O zAk O O O (by simp only [List.length_map];omega) (by simp only [List.length_map];omega))<|M O O (zZ O yR O (wM 0 O (hgn 1 (by omega) (by omega) _ (by simp only [List.length_map];rfl))) O)<|M O O (zBj O fl38 O O O)<|kD<|G<|zD O (fun c11=>?_) (fun c11=>?_)
         ·have h10:=zHa c11
          refine F O<|yP O m pl38<|Y 1 L O<|A O<|G<|zY _ (Weak.mem [false,true,false,true,true,true,true] O)<|o<|p (zV yR O (R 0 O) O) (J O) ?_
          exact ⟨by rw [hT];first|(rw [zCb (by omega)];rfl)|(rw [zCj (by omega)];rfl)|(rw [zCa (by omega)];rfl)|(rw [zCi (by omega)];rfl)|(rw [wY (by omega)];rfl)|(rw [wZ ho h10];rfl)|(rw [zCh ho h10 c12];rfl)|(rw [zBz ho h10 c12];rfl),[_],O⟩
         ·have h10:=zHb c11
          refine zK<|zJ<|F O<|zP kC (R 2 O) O<|qI O ok166 (wJ e) ⟨H,O,T⟩<|G<|zD O (fun c12=>?_) (fun c12=>?_)
          ·try simp only [I] at c12
           refine F O<|yP O m pl38<|Y 1 L O<|A O<|G<|zY _ (Weak.mem [false,true,false,true,true,true,true] O)<|o<|p (zV yR O (R 0 O) O) (J O) ?_
           exact ⟨by rw [hT];first|(rw [zCb (by omega)];rfl)|(rw [zCj (by omega)];rfl)|(rw [zCa (by omega)];rfl)|(rw [zCi (by omega)];rfl)|(rw [wY (by omega)];rfl)|(rw [wZ ho h10];rfl)|(rw [zCh ho h10 c12];rfl)|(rw [zBz ho h10 c12];rfl),[_],O⟩
          ·try simp only [I] at c12
           refine zK<|F O<|A O<|A O<|zU O (kJ 0 O zAk O O)<|zU O (yB O O O (by simp only [List.length_map];exact ⟨by omega,by omega⟩))<|zU O (qS 0 O zAk O O O (by simp only [List.length_map];omega) (by simp only [List.length_map];omega))<|zP yR (wM 0 O (hgn 1 (by omega) (by omega) _ (by simp only [List.length_map];rfl))) O<|Y 1 L O<|A O<|G<|zY _ (Weak.mem [false,true,false,true,true,true,true] O)<|o<|p (zV yR O (R 0 O) O) (J O) ?_
           exact ⟨by rw [hT];first|(rw [zCb (by omega)];rfl)|(rw [zCj (by omega)];rfl)|(rw [zCa (by omega)];rfl)|(rw [zCi (by omega)];rfl)|(rw [wY (by omega)];rfl)|(rw [wZ ho h10];rfl)|(rw [zCh ho h10 c12];rfl)|(rw [zBz ho h10 c12];rfl),[_],O⟩
       ·try simp only [I] at c8
        refine F O<|yF O<|A O<|G<|zD O (fun c9=>?_) (fun c9=>?_)
        ·try simp only [I] at c9
         refine zK<|zD O (fun c10=>?_) (fun c10=>?_)
         ·try simp only [I] at c10
          refine F O<|yP O m pl38<|Y 1 L O<|A O<|G<|zY _ (Weak.mem [false,true,false,true,true,true,true] O)<|o<|p (zV yR O (R 0 O) O) (J O) ?_
          exact ⟨by rw [hT];first|(rw [zCb (by omega)];rfl)|(rw [zCj (by omega)];rfl)|(rw [zCa (by omega)];rfl)|(rw [zCi (by omega)];rfl)|(rw [wY (by omega)];rfl)|(rw [wZ ho h10];rfl)|(rw [zCh ho h10 c12];rfl)|(rw [zBz ho h10 c12];rfl),[_],O⟩
         ·try simp only [I] at c10
          have hlen2:=zGy hpart (by omega)
          have ho:¬opLow e.Op:=by unfold opLow;omega
          refine zK<|zJ<|zJ<|qY 13 mixed (by kernel_rfl) O O<|M O O (w O O)<|M O O (w O O)<|M O O (kJ 0 O zAk O O)<|M O O (yB O O O (by simp only [List.length_map];exact ⟨by omega,by omega⟩))<|M O O (qS 0 O zAk O O O (by simp only [List.length_map];omega) (by simp only [List.length_map];omega))<|M O O (zZ O yR O (wM 0 O (hgn 2 (by omega) (by omega) _ (by simp only [List.length_map];rfl))) O)<|M O O (w O O)<|M O O (w O O)<|M O O (kJ 0 O zAk O O)<|M O O (yB O O O (by simp only [List.length_map];exact ⟨by omega,by omega⟩))<|M O O (qS 0 O zAk O O O (by simp only [List.length_map];omega) (by simp only [List.length_map];omega))<|M O O (zZ O yR O (wM 0 O (hgn 1 (by omega) (by omega) _ (by simp only [List.length_map];rfl))) O)<|M O O (zBj O fl38 O O O)<|kD<|G<|zD O (fun c11=>?_) (fun c11=>?_)
          ·have h10:=zHa c11
           refine F O<|yP O m pl38<|Y 1 L O<|A O<|G<|zY _ (Weak.mem [false,true,false,true,true,true,true] O)<|o<|p (zV yR O (R 0 O) O) (J O) ?_
           exact ⟨by rw [hT];first|(rw [zCb (by omega)];rfl)|(rw [zCj (by omega)];rfl)|(rw [zCa (by omega)];rfl)|(rw [zCi (by omega)];rfl)|(rw [wY (by omega)];rfl)|(rw [wZ ho h10];rfl)|(rw [zCh ho h10 c12];rfl)|(rw [zBz ho h10 c12];rfl),[_],O⟩
          ·have h10:=zHb c11
           refine zK<|zJ<|F O<|zP kC (R 2 O) O<|qI O ok166 (wJ e) ⟨H,O,T⟩<|G<|zD O (fun c12=>?_) (fun c12=>?_)
           ·try simp only [I] at c12
            refine F O<|yP O m pl38<|Y 1 L O<|A O<|G<|zY _ (Weak.mem [false,true,false,true,true,true,true] O)<|o<|p (zV yR O (R 0 O) O) (J O) ?_
            exact ⟨by rw [hT];first|(rw [zCb (by omega)];rfl)|(rw [zCj (by omega)];rfl)|(rw [zCa (by omega)];rfl)|(rw [zCi (by omega)];rfl)|(rw [wY (by omega)];rfl)|(rw [wZ ho h10];rfl)|(rw [zCh ho h10 c12];rfl)|(rw [zBz ho h10 c12];rfl),[_],O⟩
           ·try simp only [I] at c12
            refine zK<|F O<|A O<|A O<|zU O (kJ 0 O zAk O O)<|zU O (yB O O O (by simp only [List.length_map];exact ⟨by omega,by omega⟩))<|zU O (qS 0 O zAk O O O (by simp only [List.length_map];omega) (by simp only [List.length_map];omega))<|zP yR (wM 0 O (hgn 1 (by omega) (by omega) _ (by simp only [List.length_map];rfl))) O<|Y 1 L O<|A O<|G<|zY _ (Weak.mem [false,true,false,true,true,true,true] O)<|o<|p (zV yR O (R 0 O) O) (J O) ?_
            exact ⟨by rw [hT];first|(rw [zCb (by omega)];rfl)|(rw [zCj (by omega)];rfl)|(rw [zCa (by omega)];rfl)|(rw [zCi (by omega)];rfl)|(rw [wY (by omega)];rfl)|(rw [wZ ho h10];rfl)|(rw [zCh ho h10 c12];rfl)|(rw [zBz ho h10 c12];rfl),[_],O⟩
        ·try simp only [I] at c9
         refine zQ O<|yF O<|A O<|G<|zD O (fun c10=>?_) (fun c10=>?_)
         ·try simp only [I] at c10
          refine F O<|yP O m pl38<|Y 1 L O<|A O<|G<|zY _ (Weak.mem [false,true,false,true,true,true,true] O)<|o<|p (zV yR O (R 0 O) O) (J O) ?_
          exact ⟨by rw [hT];first|(rw [zCb (by omega)];rfl)|(rw [zCj (by omega)];rfl)|(rw [zCa (by omega)];rfl)|(rw [zCi (by omega)];rfl)|(rw [wY (by omega)];rfl)|(rw [wZ ho h10];rfl)|(rw [zCh ho h10 c12];rfl)|(rw [zBz ho h10 c12];rfl),[_],O⟩
         ·try simp only [I] at c10
          have hlen2:=zGy hpart (by omega)
          have ho:¬opLow e.Op:=by unfold opLow;omega
          refine zK<|zJ<|zJ<|qY 13 mixed (by kernel_rfl) O O<|M O O (w O O)<|M O O (w O O)<|M O O (kJ 0 O zAk O O)<|M O O (yB O O O (by simp only [List.length_map];exact ⟨by omega,by omega⟩))<|M O O (qS 0 O zAk O O O (by simp only [List.length_map];omega) (by simp only [List.length_map];omega))<|M O O (zZ O yR O (wM 0 O (hgn 2 (by omega) (by omega) _ (by simp only [List.length_map];rfl))) O)<|M O O (w O O)<|M O O (w O O)<|M O O (kJ 0 O zAk O O)<|M O O (yB O O O (by simp only [List.length_map];exact ⟨by omega,by omega⟩))<|M O O (qS 0 O zAk O O O (by simp only [List.length_map];omega) (by simp only [List.length_map];omega))<|M O O (zZ O yR O (wM 0 O (hgn 1 (by omega) (by omega) _ (by simp only [List.length_map];rfl))) O)<|M O O (zBj O fl38 O O O)<|kD<|G<|zD O (fun c11=>?_) (fun c11=>?_)
          ·have h10:=zHa c11
           refine F O<|yP O m pl38<|Y 1 L O<|A O<|G<|zY _ (Weak.mem [false,true,false,true,true,true,true] O)<|o<|p (zV yR O (R 0 O) O) (J O) ?_
           exact ⟨by rw [hT];first|(rw [zCb (by omega)];rfl)|(rw [zCj (by omega)];rfl)|(rw [zCa (by omega)];rfl)|(rw [zCi (by omega)];rfl)|(rw [wY (by omega)];rfl)|(rw [wZ ho h10];rfl)|(rw [zCh ho h10 c12];rfl)|(rw [zBz ho h10 c12];rfl),[_],O⟩
          ·have h10:=zHb c11
           refine zK<|zJ<|F O<|zP kC (R 2 O) O<|qI O ok166 (wJ e) ⟨H,O,T⟩<|G<|zD O (fun c12=>?_) (fun c12=>?_)
           ·try simp only [I] at c12
            refine F O<|yP O m pl38<|Y 1 L O<|A O<|G<|zY _ (Weak.mem [false,true,false,true,true,true,true] O)<|o<|p (zV yR O (R 0 O) O) (J O) ?_
            exact ⟨by rw [hT];first|(rw [zCb (by omega)];rfl)|(rw [zCj (by omega)];rfl)|(rw [zCa (by omega)];rfl)|(rw [zCi (by omega)];rfl)|(rw [wY (by omega)];rfl)|(rw [wZ ho h10];rfl)|(rw [zCh ho h10 c12];rfl)|(rw [zBz ho h10 c12];rfl),[_],O⟩
           ·try simp only [I] at c12
            refine zK<|F O<|A O<|A O<|zU O (kJ 0 O zAk O O)<|zU O (yB O O O (by simp only [List.length_map];exact ⟨by omega,by omega⟩))<|zU O (qS 0 O zAk O O O (by simp only [List.length_map];omega) (by simp only [List.length_map];omega))<|zP yR (wM 0 O (hgn 1 (by omega) (by omega) _ (by simp only [List.length_map];rfl))) O<|Y 1 L O<|A O<|G<|zY _ (Weak.mem [false,true,false,true,true,true,true] O)<|o<|p (zV yR O (R 0 O) O) (J O) ?_
            exact ⟨by rw [hT];first|(rw [zCb (by omega)];rfl)|(rw [zCj (by omega)];rfl)|(rw [zCa (by omega)];rfl)|(rw [zCi (by omega)];rfl)|(rw [wY (by omega)];rfl)|(rw [wZ ho h10];rfl)|(rw [zCh ho h10 c12];rfl)|(rw [zBz ho h10 c12];rfl),[_],O⟩
  ·try simp only [I] at c3
   refine zQ O<|yF O<|A O<|G<|zD O (fun c4=>?_) (fun c4=>?_)
   ·try simp only [I] at c4
    refine F O<|zH O zFj<|zP yR (R 2 O) O<|Y 1 L O<|A O<|G<|zY _ (Weak.mem [false,true,false,true,true,true,true] O)<|o<|p (zV yR O (R 0 O) O) (J O) ?_
    exact ⟨by rw [hT];first|(rw [zCb (by omega)];rfl)|(rw [zCj (by omega)];rfl)|(rw [zCa (by omega)];rfl)|(rw [zCi (by omega)];rfl)|(rw [wY (by omega)];rfl)|(rw [wZ ho h10];rfl)|(rw [zCh ho h10 c12];rfl)|(rw [zBz ho h10 c12];rfl),[_],O⟩
   ·try simp only [I] at c4
    refine F O<|yF O<|A O<|G<|zD O (fun c5=>?_) (fun c5=>?_)
    ·try simp only [I] at c5
     refine F O<|yP O m pl38<|Y 1 L O<|A O<|G<|zY _ (Weak.mem [false,true,false,true,true,true,true] O)<|o<|p (zV yR O (R 0 O) O) (J O) ?_
     exact ⟨by rw [hT];first|(rw [zCb (by omega)];rfl)|(rw [zCj (by omega)];rfl)|(rw [zCa (by omega)];rfl)|(rw [zCi (by omega)];rfl)|(rw [wY (by omega)];rfl)|(rw [wZ ho h10];rfl)|(rw [zCh ho h10 c12];rfl)|(rw [zBz ho h10 c12];rfl),[_],O⟩
    ·try simp only [I] at c5
     refine F O<|yF O<|A O<|G<|zD O (fun c6=>?_) (fun c6=>?_)
     ·try simp only [I] at c6
      refine zJ<|kH 12 1 [⟨0,.q []⟩,⟨1,.q []⟩,⟨2,.q []⟩,⟨3,.q [4]⟩,⟨4,.q []⟩,⟨5,.q [3]⟩,⟨6,.q []⟩,⟨7,.q []⟩,⟨8,.q []⟩,⟨9,.q []⟩,⟨10,.e 0 []⟩,⟨11,.e 0 []⟩] mixed (by kernel_rfl) (by kernel_rfl) O O O<|t O<|t O<|t O<|t O<|t O<|t O<|t O<|t O<|t O<|t O<|t O<|t O<|zAz<|v O (by decide) O O (w O O)<|v O (by decide) O O (qW O O)<|v O (by decide) O O (zE O zPc O)<|v O (by decide) O O (zZ O yY O (R 0 O) O)<|v O (by decide) O O (zE O zFk O)<|v O (by decide) O O (zF O one9 O (R 0 O) O)<|v O (by decide) O O (qM O ok101 (zAj n e.Name hn) ⟨H,O,H,O,T⟩)<|v O (by decide) O O (kF O O)<|v O (by decide) O O (kY O O O)<|v O (by decide) O O (wA O O O)<|zHe O O (by decide) O O (qE [none,none,none,none,none,none,some 1,none] O zr65 O) ?_
      rintro _ _ ⟨b8,rfl,rfl⟩
      refine ⟨_,O,?_⟩
      refine zEe O O (by decide) O O (yU O sz65 O O O (zEd 0 O O)) ?_
      rintro _ _ ⟨rfl,rfl⟩
      refine ⟨_,O,?_⟩
      refine zAv O<|A O<|G<|F O<|zH O zJv<|zP yR (R 0 O) O<|Y 2 L O<|A O<|G<|zY _ (Weak.mem [false,false,true,false,true,true,true,true] O)<|o<|p (zV yR O (R 0 O) O) (J O) ?_
      exact ⟨by rw [hT];first|(rw [zCb (by omega)];rfl)|(rw [zCj (by omega)];rfl)|(rw [zCa (by omega)];rfl)|(rw [zCi (by omega)];rfl)|(rw [wY (by omega)];rfl)|(rw [wZ ho h10];rfl)|(rw [zCh ho h10 c12];rfl)|(rw [zBz ho h10 c12];rfl),[_],O⟩
     ·try simp only [I] at c6
      refine F O<|yF O<|A O<|G<|zD O (fun c7=>?_) (fun c7=>?_)
      ·try simp only [I] at c7
       have hlen1:=args_len hpart (by omega)
       refine F O<|A O<|zU O (qS 0 O zAk O O O (by omega) (by simp only [List.length_map];omega))<|zP yR (wM 0 O (hg 0 (by omega))) O<|Y 1 L O<|A O<|G<|zY _ (Weak.mem [false,true,false,true,true,true,true] O)<|o<|p (zV yR O (R 0 O) O) (J O) ?_
       exact ⟨by rw [hT];first|(rw [zCb (by omega)];rfl)|(rw [zCj (by omega)];rfl)|(rw [zCa (by omega)];rfl)|(rw [zCi (by omega)];rfl)|(rw [wY (by omega)];rfl)|(rw [wZ ho h10];rfl)|(rw [zCh ho h10 c12];rfl)|(rw [zBz ho h10 c12];rfl),[_],O⟩
      ·try simp only [I] at c7
       refine zJ<|F O<|yF O<|A O<|G<|zD O (fun c8=>?_) (fun c8=>?_)
       ·try simp only [I] at c8
        refine zK<|zD O (fun c10=>?_) (fun c10=>?_)
        ·try simp only [I] at c10
         refine F O<|yP O m pl38<|Y 1 L O<|A O<|G<|zY _ (Weak.mem [false,true,false,true,true,true,true] O)<|o<|p (zV yR O (R 0 O) O) (J O) ?_
         exact ⟨by rw [hT];first|(rw [zCb (by omega)];rfl)|(rw [zCj (by omega)];rfl)|(rw [zCa (by omega)];rfl)|(rw [zCi (by omega)];rfl)|(rw [wY (by omega)];rfl)|(rw [wZ ho h10];rfl)|(rw [zCh ho h10 c12];rfl)|(rw [zBz ho h10 c12];rfl),[_],O⟩
        ·try simp only [I] at c10
         have hlen2:=zGy hpart (by omega)
         have ho:¬opLow e.Op:=by unfold opLow;omega
         refine zK<|zJ<|zJ<|qY 13 mixed (by kernel_rfl) O O<|M O O (w O O)<|M O O (w O O)<|M O O (kJ 0 O zAk O O)<|M O O (yB O O O (by simp only [List.length_map];exact ⟨by omega,by omega⟩))<|M O O (qS 0 O zAk O O O (by simp only [List.length_map];omega) (by simp only [List.length_map];omega))<|M O O (zZ O yR O (wM 0 O (hgn 2 (by omega) (by omega) _ (by simp only [List.length_map];rfl))) O)<|M O O (w O O)<|M O O (w O O)<|M O O (kJ 0 O zAk O O)<|M O O (yB O O O (by simp only [List.length_map];exact ⟨by omega,by omega⟩))<|M O O (qS 0 O zAk O O O (by simp only [List.length_map];omega) (by simp only [List.length_map];omega))<|M O O (zZ O yR O (wM 0 O (hgn 1 (by omega) (by omega) _ (by simp only [List.length_map];rfl))) O)<|M O O (zBj O fl38 O O O)<|kD<|G<|zD O (fun c11=>?_) (fun c11=>?_)
         ·have h10:=zHa c11
          refine F O<|yP O m pl38<|Y 1 L O<|A O<|G<|zY _ (Weak.mem [false,true,false,true,true,true,true] O)<|o<|p (zV yR O (R 0 O) O) (J O) ?_
          exact ⟨by rw [hT];first|(rw [zCb (by omega)];rfl)|(rw [zCj (by omega)];rfl)|(rw [zCa (by omega)];rfl)|(rw [zCi (by omega)];rfl)|(rw [wY (by omega)];rfl)|(rw [wZ ho h10];rfl)|(rw [zCh ho h10 c12];rfl)|(rw [zBz ho h10 c12];rfl),[_],O⟩
         ·have h10:=zHb c11
          refine zK<|zJ<|F O<|zP kC (R 2 O) O<|qI O ok166 (wJ e) ⟨H,O,T⟩<|G<|zD O (fun c12=>?_) (fun c12=>?_)
          ·try simp only [I] at c12
           refine F O<|yP O m pl38<|Y 1 L O<|A O<|G<|zY _ (Weak.mem [false,true,false,true,true,true,true] O)<|o<|p (zV yR O (R 0 O) O) (J O) ?_
           exact ⟨by rw [hT];first|(rw [zCb (by omega)];rfl)|(rw [zCj (by omega)];rfl)|(rw [zCa (by omega)];rfl)|(rw [zCi (by omega)];rfl)|(rw [wY (by omega)];rfl)|(rw [wZ ho h10];rfl)|(rw [zCh ho h10 c12];rfl)|(rw [zBz ho h10 c12];rfl),[_],O⟩
          ·try simp only [I] at c12
           refine zK<|F O<|A O<|A O<|zU O (kJ 0 O zAk O O)<|zU O (yB O O O (by simp only [List.length_map];exact ⟨by omega,by omega⟩))<|zU O (qS 0 O zAk O O O (by simp only [List.length_map];omega) (by simp only [List.length_map];omega))<|zP yR (wM 0 O (hgn 1 (by omega) (by omega) _ (by simp only [List.length_map];rfl))) O<|Y 1 L O<|A O<|G<|zY _ (Weak.mem [false,true,false,true,true,true,true] O)<|o<|p (zV yR O (R 0 O) O) (J O) ?_
           exact ⟨by rw [hT];first|(rw [zCb (by omega)];rfl)|(rw [zCj (by omega)];rfl)|(rw [zCa (by omega)];rfl)|(rw [zCi (by omega)];rfl)|(rw [wY (by omega)];rfl)|(rw [wZ ho h10];rfl)|(rw [zCh ho h10 c12];rfl)|(rw [zBz ho h10 c12];rfl),[_],O⟩
       ·try simp only [I] at c8
        refine F O<|yF O<|A O<|G<|zD O (fun c9=>?_) (fun c9=>?_)
        ·try simp only [I] at c9
         refine zK<|zD O (fun c10=>?_) (fun c10=>?_)
         ·try simp only [I] at c10
          refine F O<|yP O m pl38<|Y 1 L O<|A O<|G<|zY _ (Weak.mem [false,true,false,true,true,true,true] O)<|o<|p (zV yR O (R 0 O) O) (J O) ?_
          exact ⟨by rw [hT];first|(rw [zCb (by omega)];rfl)|(rw [zCj (by omega)];rfl)|(rw [zCa (by omega)];rfl)|(rw [zCi (by omega)];rfl)|(rw [wY (by omega)];rfl)|(rw [wZ ho h10];rfl)|(rw [zCh ho h10 c12];rfl)|(rw [zBz ho h10 c12];rfl),[_],O⟩
         ·try simp only [I] at c10
          have hlen2:=zGy hpart (by omega)
          have ho:¬opLow e.Op:=by unfold opLow;omega
          refine zK<|zJ<|zJ<|qY 13 mixed (by kernel_rfl) O O<|M O O (w O O)<|M O O (w O O)<|M O O (kJ 0 O zAk O O)<|M O O (yB O O O (by simp only [List.length_map];exact ⟨by omega,by omega⟩))<|M O O (qS 0 O zAk O O O (by simp only [List.length_map];omega) (by simp only [List.length_map];omega))<|M O O (zZ O yR O (wM 0 O (hgn 2 (by omega) (by omega) _ (by simp only [List.length_map];rfl))) O)<|M O O (w O O)<|M O O (w O O)<|M O O (kJ 0 O zAk O O)<|M O O (yB O O O (by simp only [List.length_map];exact ⟨by omega,by omega⟩))<|M O O (qS 0 O zAk O O O (by simp only [List.length_map];omega) (by simp only [List.length_map];omega))<|M O O (zZ O yR O (wM 0 O (hgn 1 (by omega) (by omega) _ (by simp only [List.length_map];rfl))) O)<|M O O (zBj O fl38 O O O)<|kD<|G<|zD O (fun c11=>?_) (fun c11=>?_)
          ·have h10:=zHa c11
           refine F O<|yP O m pl38<|Y 1 L O<|A O<|G<|zY _ (Weak.mem [false,true,false,true,true,true,true] O)<|o<|p (zV yR O (R 0 O) O) (J O) ?_
           exact ⟨by rw [hT];first|(rw [zCb (by omega)];rfl)|(rw [zCj (by omega)];rfl)|(rw [zCa (by omega)];rfl)|(rw [zCi (by omega)];rfl)|(rw [wY (by omega)];rfl)|(rw [wZ ho h10];rfl)|(rw [zCh ho h10 c12];rfl)|(rw [zBz ho h10 c12];rfl),[_],O⟩
          ·have h10:=zHb c11
           refine zK<|zJ<|F O<|zP kC (R 2 O) O<|qI O ok166 (wJ e) ⟨H,O,T⟩<|G<|zD O (fun c12=>?_) (fun c12=>?_)
           ·try simp only [I] at c12
            refine F O<|yP O m pl38<|Y 1 L O<|A O<|G<|zY _ (Weak.mem [false,true,false,true,true,true,true] O)<|o<|p (zV yR O (R 0 O) O) (J O) ?_
            exact ⟨by rw [hT];first|(rw [zCb (by omega)];rfl)|(rw [zCj (by omega)];rfl)|(rw [zCa (by omega)];rfl)|(rw [zCi (by omega)];rfl)|(rw [wY (by omega)];rfl)|(rw [wZ ho h10];rfl)|(rw [zCh ho h10 c12];rfl)|(rw [zBz ho h10 c12];rfl),[_],O⟩
           ·try simp only [I] at c12
            refine zK<|F O<|A O<|A O<|zU O (kJ 0 O zAk O O)<|zU O (yB O O O (by simp only [List.length_map];exact ⟨by omega,by omega⟩))<|zU O (qS 0 O zAk O O O (by simp only [List.length_map];omega) (by simp only [List.length_map];omega))<|zP yR (wM 0 O (hgn 1 (by omega) (by omega) _ (by simp only [List.length_map];rfl))) O<|Y 1 L O<|A O<|G<|zY _ (Weak.mem [false,true,false,true,true,true,true] O)<|o<|p (zV yR O (R 0 O) O) (J O) ?_
            exact ⟨by rw [hT];first|(rw [zCb (by omega)];rfl)|(rw [zCj (by omega)];rfl)|(rw [zCa (by omega)];rfl)|(rw [zCi (by omega)];rfl)|(rw [wY (by omega)];rfl)|(rw [wZ ho h10];rfl)|(rw [zCh ho h10 c12];rfl)|(rw [zBz ho h10 c12];rfl),[_],O⟩
        ·try simp only [I] at c9
         refine zQ O<|yF O<|A O<|G<|zD O (fun c10=>?_) (fun c10=>?_)
         ·try simp only [I] at c10
          refine F O<|yP O m pl38<|Y 1 L O<|A O<|G<|zY _ (Weak.mem [false,true,false,true,true,true,true] O)<|o<|p (zV yR O (R 0 O) O) (J O) ?_
          exact ⟨by rw [hT];first|(rw [zCb (by omega)];rfl)|(rw [zCj (by omega)];rfl)|(rw [zCa (by omega)];rfl)|(rw [zCi (by omega)];rfl)|(rw [wY (by omega)];rfl)|(rw [wZ ho h10];rfl)|(rw [zCh ho h10 c12];rfl)|(rw [zBz ho h10 c12];rfl),[_],O⟩
         ·try simp only [I] at c10
          have hlen2:=zGy hpart (by omega)
          have ho:¬opLow e.Op:=by unfold opLow;omega
          refine zK<|zJ<|zJ<|qY 13 mixed (by kernel_rfl) O O<|M O O (w O O)<|M O O (w O O)<|M O O (kJ 0 O zAk O O)<|M O O (yB O O O (by simp only [List.length_map];exact ⟨by omega,by omega⟩))<|M O O (qS 0 O zAk O O O (by simp only [List.length_map];omega) (by simp only [List.length_map];omega))<|M O O (zZ O yR O (wM 0 O (hgn 2 (by omega) (by omega) _ (by simp only [List.length_map];rfl))) O)<|M O O (w O O)<|M O O (w O O)<|M O O (kJ 0 O zAk O O)<|M O O (yB O O O (by simp only [List.length_map];exact ⟨by omega,by omega⟩))<|M O O (qS 0 O zAk O O O (by simp only [List.length_map];omega) (by simp only [List.length_map];omega))<|M O O (zZ O yR O (wM 0 O (hgn 1 (by omega) (by omega) _ (by simp only [List.length_map];rfl))) O)<|M O O (zBj O fl38 O O O)<|kD<|G<|zD O (fun c11=>?_) (fun c11=>?_)
          ·have h10:=zHa c11
           refine F O<|yP O m pl38<|Y 1 L O<|A O<|G<|zY _ (Weak.mem [false,true,false,true,true,true,true] O)<|o<|p (zV yR O (R 0 O) O) (J O) ?_
           exact ⟨by rw [hT];first|(rw [zCb (by omega)];rfl)|(rw [zCj (by omega)];rfl)|(rw [zCa (by omega)];rfl)|(rw [zCi (by omega)];rfl)|(rw [wY (by omega)];rfl)|(rw [wZ ho h10];rfl)|(rw [zCh ho h10 c12];rfl)|(rw [zBz ho h10 c12];rfl),[_],O⟩
          ·have h10:=zHb c11
           refine zK<|zJ<|F O<|zP kC (R 2 O) O<|qI O ok166 (wJ e) ⟨H,O,T⟩<|G<|zD O (fun c12=>?_) (fun c12=>?_)
           ·try simp only [I] at c12
            refine F O<|yP O m pl38<|Y 1 L O<|A O<|G<|zY _ (Weak.mem [false,true,false,true,true,true,true] O)<|o<|p (zV yR O (R 0 O) O) (J O) ?_
            exact ⟨by rw [hT];first|(rw [zCb (by omega)];rfl)|(rw [zCj (by omega)];rfl)|(rw [zCa (by omega)];rfl)|(rw [zCi (by omega)];rfl)|(rw [wY (by omega)];rfl)|(rw [wZ ho h10];rfl)|(rw [zCh ho h10 c12];rfl)|(rw [zBz ho h10 c12];rfl),[_],O⟩
           ·try simp only [I] at c12
            refine zK<|F O<|A O<|A O<|zU O (kJ 0 O zAk O O)<|zU O (yB O O O (by simp only [List.length_map];exact ⟨by omega,by omega⟩))<|zU O (qS 0 O zAk O O O (by simp only [List.length_map];omega) (by simp only [List.length_map];omega))<|zP yR (wM 0 O (hgn 1 (by omega) (by omega) _ (by simp only [List.length_map];rfl))) O<|Y 1 L O<|A O<|G<|zY _ (Weak.mem [false,true,false,true,true,true,true] O)<|o<|p (zV yR O (R 0 O) O) (J O) ?_
            exact ⟨by rw [hT];first|(rw [zCb (by omega)];rfl)|(rw [zCj (by omega)];rfl)|(rw [zCa (by omega)];rfl)|(rw [zCi (by omega)];rfl)|(rw [wY (by omega)];rfl)|(rw [wZ ho h10];rfl)|(rw [zCh ho h10 c12];rfl)|(rw [zBz ho h10 c12];rfl),[_],O⟩
theorem ck_typeOf (b:Nat) (svL svS svP:Value) (n:Ns) (U S:List ByteArray) (W:List Int)  (e:Ex) (hn:n.Ok) (hpart:partE e=0) (he:e.wt<=1073741824):Con cfg 190 [vP b,vE e] (ckN b svL svS svP n U S W) fun r μ'=>r=.tup [vTy (nodeT (tyF n.Bufs) e).1,vI (nodeT (tyF n.Bufs) e).2]/\μ'=ckN b svL svS svP n U S W:=by
  induction e using Ex.ind with
  |_ e ih=>exact ck_typeOf_step b svL svS svP n U S W hn e (fun a ha h1 h2=>ih a ha h1 h2) hpart he
theorem zIa (b:Nat) (svL svS svP:Value) (n:Ns) (U S:List ByteArray) (W:List Int) (e:Ex) (hn:n.Ok) (hS:S.length<=1000000) (he:e.wt<=1000000000):
    Con cfg 165 [vP b,vE e] (ckN b svL svS svP n U S W) fun r μ'=>r=.tup [vTy (exprT n.Bufs S e).1,vI (exprT n.Bufs S e).2]/\μ'=ckN b svL svS svP n U S W:=by
 refine Con.drop<|zT Tryz.func165 O Tryz.ntmps165 Tryz.results165 O ?_
 intro z hz
 refine F O<|zX O O (qN O O) ?_
 rintro _ _ ⟨b1,rfl,rfl⟩
 refine yI _ (yW 0 O 2 _ PLe.ptr)<|zX O O (qN O O) ?_
 rintro _ _ ⟨b2,rfl,rfl⟩
 refine zX O O (yX O m) ?_
 rintro _ _ ⟨b3,rfl,rfl⟩
 refine zX O O (yX O zr51) ?_
 rintro _ _ ⟨b4,rfl,rfl⟩
 refine G<|zJ<|F O<|zP kC (R 2 O) O<|qI O ok188 (expr_Validate e (by omega)) ⟨H,O,T⟩<|A O<|G<|F O<|A O<|yN O<|G<|zD O (fun c1=>?_) (fun c1=>?_)
 ·try simp only [I] at c1
  refine F O<|yP O m pl38<|A O<|Y 1 L O<|Y 0 sz51 O<|G<|zY _ (Weak.mem [true,true,false,true,true,true,true] O)<|o<|p (zV yR O (R 1 O) O) (wC zJm O (R 0 O) O) ?_
  exact ⟨by rw [exprT_1 c1];rfl,[_,_],O⟩
 ·try simp only [I] at c1
  refine zK<|zJ<|F O<|zP kC (R 2 O) O<|qI O ok123 (zNn _) ⟨H,O,T⟩<|G<|zR<|zFl (ps:=[17]) hz 2 O O ok158 (zMe e (by omega)) (fun _ _=>O) O (fun pre=>nodesN n.Bufs S pre=0) (fun pre=>[E.row b4 51 [cI 0],E.row b3 38 [cI 0,cI 0,cI 0,cI 0,cI 0]]) (fun c pre=>(c=.ret/\¬nodesN n.Bufs S pre=0)) (fun c pre=>[E.row b4 51 [cI (nodesN n.Bufs S pre)],E.row b3 38 [cI 0,cI 0,cI 0,cI 0,cI 0]]) ⟨O,O⟩ ?_ ?_ ?_ ?_
  ·intro pre x suf hxs hi z hz
   have hxw:x.wt<=e.wt:=zFe e x (by rw [hxs];simp)
   refine zQ O<|zX O O (qE [none,none,none,none,none,none,none,none,none,none,some 2,some 4,some 13] O zr44 O) ?_
   rintro _ _ ⟨b5,rfl,rfl⟩
   refine Y 0 sz44 O<|G ?_
   intro z hz
   refine zR<|F O<|zM zPr qA O<|zP kC (R 0 O) O<|zU O (kK [4,4,4,4] O ok189 (ck_node b svL svS svP n U S W x hn hS (by omega)) ⟨H,O,H,O,T⟩ O)<|A O<|G<|F O<|A O<|yN O<|G<|zD O (fun c2=>?_) (fun c2=>?_)
   ·try simp only [I] at c2
    refine F O<|yP O m pl38<|A O<|Y 2 L O<|Y 1 sz51 O<|G<|o ?_
    exact zCn (τ:=⟨[],_⟩) (Weak.mk [false,true,true,true,true,true,true,true] T O) ⟨⟨O,by rw [zOw hi];exact c2⟩,(by dsimp only;rw [zOw hi];rfl)⟩
   ·try simp only [I] at c2
    refine zK ?_
    exact zCn (τ:=⟨[],_⟩) (Weak.mk [false,true,true,true,true,true,true,true] T O) ⟨(by dsimp only;rw [zOw hi];exact c2),O⟩
  ·intro hd
   refine F O<|zM zPr qA O<|zP kC (R 2 O) O<|zU O (kK [3,3,3,3] O ok190 (ck_typeOf b svL svS svP n U S W e hn (zOi c1) (by omega)) ⟨H,O,H,O,T⟩ O)<|yJ O<|qU O<|Y 1 L O<|Y 0 sz51 O<|G<|zY _ (Weak.mem [true,true,false,true,true,true,true] O)<|o<|p (zV yR O (R 1 O) O) (wC zJm O (R 0 O) O) ?_
   exact ⟨by rw [exprT_3 c1 hd];rfl,[_,_],O⟩
  ·rintro pre x suf hxs hx
   rcases hx with ⟨hc,hx⟩
   clear hc
   repeat (first|refine zMh ?_|refine zKu ?_)
   refine p (zV yR O (R 1 O) O) (wC zJm O (R 0 O) O) ?_
   exact ⟨by rw [exprT_2 c1 (by rw [hxs,nodesN_pre hx];exact hx),hxs,nodesN_pre (suf:=suf) hx];rfl,[_,_,_],O⟩
  ·rintro i pre x suf hxs hx
   rcases hx with ⟨hc,hx⟩
   cases hc
theorem ck_store (b:Nat) (svL svS svP:Value) (n:Ns) (U S:List ByteArray) (W:List Int) (s:St) (hn:n.Ok) (hS:S.length<=1000000) (hs:s.wt<=900000000):
    Con cfg 167 [vP b,vSt s] (ckN b svL svS svP n U S W) fun r μ'=>r=vI (storeE n.Bufs S s)/\μ'=ckN b svL svS svP n U S W:=by
 refine zT Tryz.func167 O Tryz.ntmps167 Tryz.results167 O ?_
 intro z hz
 obtain ⟨hE,hI,hIw,hB,hBw⟩:=St.parts hs
 have hrd:=rdE_wt s
 refine F O<|zX O O (qN O O) ?_
 rintro _ _ ⟨b1,rfl,rfl⟩
 refine A O<|G<|F O<|A O<|zH O zAo<|zM one9 (R 0 O) O<|zH O zDm<|zM wQ (R 0 O) O<|qT [none,none,none,none,none,none,none,none,none,none,some 2,none,some 13] O zr44 pl44<|zU O (kK [1,1,1,1] O ok165 (zIa b svL svS svP n U S W (rdE s) hn hS (by omega)) ⟨H,O,H,O,T⟩ O)<|qO O<|yJ O<|qU O<|zX O O (yX O m) ?_
 rintro _ _ ⟨b2,rfl,rfl⟩
 refine Y 0 L O<|A O<|G<|zJ<|F O<|A O<|yN O<|G<|zD O (fun c1=>?_) (fun c1=>?_)
 ·try simp only [I] at c1
  refine F O<|A O<|A O<|G<|zY _ (Weak.mem [false,false,true,true,true,true] O)<|o<|X O ?_
  exact ⟨by rw [storeE_1 c1],O⟩
 ·try simp only [I] at c1
  have hT:=exprT_rd c1
  refine zK<|zJ<|zJ<|kH 12 1 [⟨0,.q []⟩,⟨1,.q []⟩,⟨2,.q []⟩,⟨3,.q [3]⟩,⟨4,.q []⟩,⟨5,.q [2]⟩,⟨6,.q []⟩,⟨7,.q []⟩,⟨8,.q []⟩,⟨9,.q []⟩,⟨10,.e 0 []⟩,⟨11,.e 0 []⟩] mixed (by kernel_rfl) (by kernel_rfl) O O O<|t O<|t O<|t O<|t O<|t O<|t O<|t O<|t O<|t O<|t O<|t O<|t O<|zAz<|v O (by decide) O O (w O O)<|v O (by decide) O O (qW O O)<|v O (by decide) O O (zE O zPc O)<|v O (by decide) O O (zZ O yY O (R 0 O) O)<|v O (by decide) O O (zE O zAo O)<|v O (by decide) O O (zF O one9 O (R 0 O) O)<|v O (by decide) O O (qM O ok101 (zAj n s.Name hn) ⟨H,O,H,O,T⟩)<|v O (by decide) O O (kF O O)<|v O (by decide) O O (kY O O O)<|v O (by decide) O O (wA O O O)<|zHe O O (by decide) O O (qE [none,none,none,none,none,none,some 1,none] O zr65 O) ?_
  rintro _ _ ⟨b3,rfl,rfl⟩
  refine ⟨_,O,?_⟩
  refine zEe O O (by decide) O O (yU O sz65 O O O (zEd 0 O O)) ?_
  rintro _ _ ⟨rfl,rfl⟩
  refine ⟨_,O,?_⟩
  refine zAv O<|A O<|G<|F O<|zH O zPw<|zM one3 (R 0 O) O<|yF O<|G<|zD O (fun c2=>?_) (fun c2=>?_)
  ·try simp only [I] at c2
   refine F O<|A O<|G<|zY _ (Weak.mem [false,false,false,true,true,true,true] O)<|o<|X O ?_
   exact ⟨by rw [storeE_u c1 (.inl c2)],O⟩
  ·try simp only [I] at c2
   refine zK<|zJ<|F O<|zH O zAm<|zM one3 (R 2 O) O<|yF O<|A O<|rL0 O (fun g7_3=>zE O zPx O) O<|B 40 O (fun g7_3=>zF O one3 O (R 2 O) O) O<|B 41 O (fun g7_3=>zBa O O O) O<|B 42 O (fun g7_3=>w O O) O<|rLz [] O P T (fun g7_7=>zE O zPx O) O<|rLz [(44,_)] O P ⟨O,O,T⟩ (fun g7_7=>zF O one3 O (R 2 O) O) O<|rLz [(45,_)] O P ⟨O,O,T⟩ (fun g7_7=>yG O O O) O<|B 43 O (fun g7_3=>zAs O O O O (fun h=>kE (by assumption) (lzf h))) O<|yS O (fun h=>h)<|G<|zD O (fun c3=>?_) (fun c3=>?_)
   ·try simp only [I] at c3
    refine F O<|A O<|G<|zY _ (Weak.mem [false,false,false,true,true,true,true] O)<|o<|X O ?_
    exact ⟨by rw [storeE_u c1 (.inr c3)],O⟩
   ·try simp only [I] at c3
    refine zK<|F O<|A O<|zH O zBd<|zP kC (R 2 O) O<|zU O (kK [3,3,3,3] O ok165 (zIa b svL svS svP n U S W s.E hn hS (by omega)) ⟨H,O,H,O,T⟩ O)<|qO O<|yJ O<|qU O<|zX O O (yX O m) ?_
    rintro _ _ ⟨b4,rfl,rfl⟩
    refine Y 0 L O<|A O<|G<|zJ<|F O<|A O<|yN O<|G<|zD O (fun c4=>?_) (fun c4=>?_)
    ·try simp only [I] at c4
     refine F O<|A O<|A O<|G<|zY _ (Weak.mem [false,false,false,false,true,true,true,true] O)<|o<|X O ?_
     exact ⟨by rw [storeE_2 c1 (by omega) c4],O⟩
    ·try simp only [I] at c4
     refine zK<|zJ<|F O<|zH O zBd<|zP kC (R 3 O) O<|qI O ok166 (wJ s.E) ⟨H,O,T⟩<|A O<|rL0 O (fun g12_3=>zZ O yR O (R 0 O) O) O<|rL0 O (fun g12_3=>zZ O yR O (R 2 O) O) O<|rLz [(63,_),(64,_)] O gv1 ⟨O,O,O,O,T⟩ (fun g12_3=>zBj O fl38 O O O) O<|r_or O (fun h=>(lzf h))<|G<|zD O (fun c5=>?_) (fun c5=>?_)
     ·have h10:=st10_t c5
      rw [hT] at h10
      refine F O<|A O<|G<|zY _ (Weak.mem [false,false,false,false,true,true,true,true] O)<|o<|X O ?_
      exact ⟨by rw [storeE_10 c1 (by omega) c4 h10],O⟩
     ·have h10:=st10_f c5
      rw [hT] at h10
      refine zK<|F O<|A O<|G<|zY _ (Weak.mem [false,false,false,false,true,true,true,true] O)<|o<|X O ?_
      exact ⟨by rw [storeE_0 c1 (by omega) c4 h10],O⟩
theorem ck_loop (b:Nat) (svL svS svP:Value) (n:Ns) (U S:List ByteArray) (W:List Int) (s:St) (hn:n.Ok) (hU:U.length<=1000000):
    Con cfg 164 [vP b,vSt s] (ckN b svL svS svP n U S W) fun r μ'=>r=vI (loopE n.Bufs U s)/\μ'=ckN b svL svS svP n U S W:=by
 refine zT Tryz.func164 O Tryz.ntmps164 Tryz.results164 O ?_
 intro z hz
 refine F O<|zX O O (qN O O) ?_
 rintro _ _ ⟨b1,rfl,rfl⟩
 refine A O<|G<|zJ<|F O<|zH O zAo<|zM one9 (R 0 O) O<|qI O ok49 (zBc _) ⟨H,O,T⟩<|kO O<|G<|zD O (fun c1=>?_) (fun c1=>?_)
 ·try simp only [I] at c1
  refine F O<|A O<|G<|zY _ (Weak.mem [false,true,true,true,true] O)<|o<|X O ?_
  exact ⟨by rw [loopE_7 c1],O⟩
 ·try simp only [I] at c1
  refine zK<|zJ<|zJ<|kH 12 1 [⟨0,.q []⟩,⟨1,.q []⟩,⟨2,.q []⟩,⟨3,.q [2]⟩,⟨4,.q []⟩,⟨5,.q [1]⟩,⟨6,.q []⟩,⟨7,.q []⟩,⟨8,.q []⟩,⟨9,.q []⟩,⟨10,.e 0 []⟩,⟨11,.e 0 []⟩] mixed (by kernel_rfl) (by kernel_rfl) O O O<|t O<|t O<|t O<|t O<|t O<|t O<|t O<|t O<|t O<|t O<|t O<|t O<|zAz<|v O (by decide) O O (w O O)<|v O (by decide) O O (qW O O)<|v O (by decide) O O (zE O zPc O)<|v O (by decide) O O (zZ O yY O (R 0 O) O)<|v O (by decide) O O (zE O zAo O)<|v O (by decide) O O (zF O one9 O (R 0 O) O)<|v O (by decide) O O (qM O ok101 (zAj n s.Name hn) ⟨H,O,H,O,T⟩)<|v O (by decide) O O (kF O O)<|v O (by decide) O O (kY O O O)<|v O (by decide) O O (wA O O O)<|zHe O O (by decide) O O (qE [none,none,none,none,none,none,some 1,none] O zr65 O) ?_
  rintro _ _ ⟨b2,rfl,rfl⟩
  refine ⟨_,O,?_⟩
  refine zEe O O (by decide) O O (yU O sz65 O O O (zEd 0 O O)) ?_
  rintro _ _ ⟨rfl,rfl⟩
  refine ⟨_,O,?_⟩
  refine zAv O<|A O<|G<|zJ<|qY 10 mixed (by kernel_rfl) O O<|M O O (w O O)<|M O O (w O O)<|f [] O O O O gv1 T (fun g4_1=>w O O) O<|f [(23,_)] O O O O gv1 ⟨O,O,T⟩ (fun g4_1=>qW O O) O<|f [(24,_)] O O O O gv1 ⟨O,O,T⟩ (fun g4_1=>zE O fd123_1 O) O<|f [(25,_)] O O O O gv1 ⟨O,O,T⟩ (fun g4_1=>zF O zMw O (R 2 O) O) O<|f [] O O O O gv1 T (fun g4_1=>zE O zAo O) O<|f [(27,_)] O O O O gv1 ⟨O,O,T⟩ (fun g4_1=>zF O one9 O (R 1 O) O) O<|f [(26,_),(28,_)] O O O O gv1 ⟨O,O,O,O,T⟩ (fun g4_1=>zHx 3 O ok143 O (zCu U s.Name hU) O ⟨.inl ⟨O,O⟩,.inr ⟨H,O⟩,T⟩) O<|M O O (zAs O O O O (fun h=>(lzf h)))<|kD<|G<|zD O (fun c2=>?_) (fun c2=>?_)
  ·try simp only [I] at c2
   refine F O<|A O<|G<|zY _ (Weak.mem [false,false,true,true,true,true] O)<|o<|X O ?_
   exact ⟨by rw [loopE_8 c1 c2],O⟩
  ·try simp only [I] at c2
   have h8:¬(hasBf n.Bufs s.Name=true∨hasB U s.Name=true):=by rw [c2.1,c2.2];simp
   refine zK<|zJ<|F O<|zH O zAl<|zM one3 (R 1 O) O<|yD O<|A O<|rL0 O (fun g6_3=>zE O zAl O) O<|B 35 O (fun g6_3=>zF O one3 O (R 1 O) O) O<|B 36 O (fun g6_3=>yG O O O) O<|r_or O (fun h=>(lzf h))<|A O<|rL0 O (fun g6_8=>zE O zFw O) O<|B 40 O (fun g6_8=>zF O one3 O (R 1 O) O) O<|B 41 O (fun g6_8=>zBa O O O) O<|r_or O (fun h=>(lzf h))<|A O<|rL0 O (fun g6_13=>zE O zFw O) O<|B 45 O (fun g6_13=>zF O one3 O (R 1 O) O) O<|B 46 O (fun g6_13=>yG O O O) O<|r_or O (fun h=>(lzf h))<|G<|zD O (fun c3=>?_) (fun c3=>?_)
   ·try simp only [I] at c3
    refine F O<|A O<|G<|zY _ (Weak.mem [false,false,true,true,true,true] O)<|o<|X O ?_
    exact ⟨by rw [loopE_1 c1 h8 (by omega)],O⟩
   ·try simp only [I] at c3
    refine zK<|F O<|A O<|G<|zY _ (Weak.mem [false,false,true,true,true,true] O)<|o<|X O ?_
    exact ⟨by rw [loopE_0 c1 h8 (by omega)],O⟩
theorem zUa (e:Ex) (he:e.wt<=4294967296):
    Pur cfg 187 [vE e] (vB (emptyE e)):=by
 refine zT Tryz.func187 O Tryz.ntmps187 Tryz.results187 O ?_
 intro z hz
 refine F O<|zX O O (qN O O) ?_
 rintro _ _ ⟨b1,rfl,rfl⟩
 refine A O<|G<|F O<|zP kC (R 0 O) O<|qT [none,none,none,none,none,none,none,none,none,none,some 2,some 4,some 13] O zr44 pl44<|qI O ok205 (expr_Same e zEx he (by decide)) ⟨H,O,H,O,T⟩<|A O<|G<|o<|X O ?_
 exact O
theorem zTz (s:St) (hs:s.wt<=900000000):
    Pur cfg 163 [vSt s] (vB (synSt s)):=by
 refine zT Tryz.func163 O Tryz.ntmps163 Tryz.results163 O ?_
 intro z hz
 obtain ⟨hE,hI,hIw,hB,hBw⟩:=St.parts hs
 refine F O<|zX O O (qN O O) ?_
 rintro _ _ ⟨b1,rfl,rfl⟩
 refine A O<|G<|zJ<|qY 17 mixed (by kernel_rfl) O O<|M O O (zE O zAm O)<|M O O (zF O one3 O (R 0 O) O)<|M O O (yL O O O)<|M O O (zE O zAm O)<|M O O (zF O one3 O (R 0 O) O)<|M O O (yL O O O)<|M O O (w O O)<|f [] O O O O gv1 T (fun g1_6=>zE O zAm O) O<|f [(13,_)] O O O O gv1 ⟨O,O,T⟩ (fun g1_6=>zF O one3 O (R 0 O) O) O<|f [(14,_)] O O O O gv1 ⟨O,O,T⟩ (fun g1_6=>yL O O O) O<|M O O (zAs O O O O (fun h=>(lzf h)))<|M O O (zE O zAm O)<|M O O (zF O one3 O (R 0 O) O)<|M O O (yL O O O)<|M O O (yA O O)<|M O O (yA O O)<|M O O (yA O O)<|kD<|G<|zJ<|zR<|F O<|A O<|kO O<|A O<|rL0 O (fun g2_2=>w O O) O<|B 24 O (fun g2_2=>kX O O) O<|yS O (fun h=>h)<|A O<|rL0 O (fun g2_6=>w O O) O<|B 28 O (fun g2_6=>kX O O) O<|yS O (fun h=>h)<|A O<|G<|zD O (fun c1=>?_) (fun c1=>?_)
 ·refine F O<|A O<|G<|o<|X O ?_
  exact congrArg vB (syn_1 c1)
 ·refine F O<|A O<|A O<|rL0 O (fun g4_1=>zE O zAo O) O<|B 34 O (fun g4_1=>zF O one9 O (R 0 O) O) O<|B 35 O (fun g4_1=>zAp O O O) O<|yS O (fun h=>h)<|A O<|G<|zD O (fun c2=>?_) (fun c2=>?_)
  ·refine F O<|A O<|G<|o<|X O ?_
   exact congrArg vB (syn_2 c2)
  ·refine F O<|A O<|kO O<|A O<|rL0 O (fun g6_2=>zE O zAl O) O<|B 42 O (fun g6_2=>zF O one3 O (R 0 O) O) O<|B 43 O (fun g6_2=>kR O O O) O<|B 44 O (fun g6_2=>w O O) O<|rLz [] O P T (fun g6_6=>zE O zFw O) O<|rLz [(46,_)] O P ⟨O,O,T⟩ (fun g6_6=>zF O one3 O (R 0 O) O) O<|rLz [(47,_)] O P ⟨O,O,T⟩ (fun g6_6=>kR O O O) O<|B 45 O (fun g6_2=>zAs O O O O (fun h=>kE (by assumption) (lzf h))) O<|yS O (fun h=>h)<|A O<|G<|zD O (fun c3=>?_) (fun c3=>?_)
   ·refine F O<|A O<|G<|o<|X O ?_
    exact congrArg vB (syn_3 c3)
   ·refine F O<|zH O zAm<|zM one3 (R 0 O) O<|yN O<|A O<|rL0 O (fun g8_3=>zE O zPx O) O<|B 56 O (fun g8_3=>zF O one3 O (R 0 O) O) O<|B 57 O (fun g8_3=>kR O O O) O<|yS O (fun h=>h)<|A O<|G<|zD O (fun c4=>?_) (fun c4=>?_)
    ·refine F O<|A O<|G<|o<|X O ?_
     exact congrArg vB (syn_4 c4)
    ·refine F O<|A O<|kO O<|A O<|rL0 O (fun g10_2=>zE O zDm O) O<|B 64 O (fun g10_2=>zF O wQ O (R 0 O) O) O<|B 65 O (fun g10_2=>yC O d O) O<|B 66 O (fun g10_2=>yG O O O) O<|yS O (fun h=>h)<|A O<|G<|zD O (fun c5=>?_) (fun c5=>?_)
     ·refine F O<|A O<|G<|o<|X O ?_
      exact congrArg vB (syn_5 c5)
     ·refine F O<|A O<|A O<|rL0 O (fun g12_1=>zE O zBd O) O<|B 72 O (fun g12_1=>zZ O kC O (R 0 O) O) O<|B 73 O (fun g12_1=>qM O ok187 (zUa s.E (by omega)) ⟨H,O,T⟩) O<|B 74 O (fun g12_1=>kX O O) O<|yS O (fun h=>h)<|A O<|G<|zD O (fun c6=>?_) (fun c6=>?_)
      ·refine F O<|A O<|G<|o<|X O ?_
       exact congrArg vB (syn_6 c6)
      ·refine zK<|F O<|A O<|kO O<|A O<|rL0 O (fun g14_2=>zE O kM O) O<|B 80 O (fun g14_2=>zF O kQ O (R 0 O) O) O<|B 81 O (fun g14_2=>yC O D O) O<|B 82 O (fun g14_2=>yL O O O) O<|r_or O (fun h=>(lzf h))<|A O<|G<|o<|X O ?_
       exact congrArg vB (syn_7 c1 c2 c3 c4 c5 c6)
theorem ck_statement (b:Nat) (svL svS svP:Value) (n:Ns) (U S:List ByteArray) (W:List Int) (s:St) (hn:n.Ok) (hS:S.length<=1000000) (hU:U.length<=1000000) (hs:s.wt<=900000000):
    Con cfg 129 [vP b,vSt s] (ckN b svL svS svP n U S W) fun r μ'=>r=vI (stE n.Bufs U S s)/\μ'=ckN b svL svS svP n U S W:=by
 refine zT Tryz.func129 O Tryz.ntmps129 Tryz.results129 O ?_
 intro z hz
 obtain ⟨hE,hI,hIw,hB,hBw⟩:=St.parts hs
 refine F O<|zX O O (qN O O) ?_
 rintro _ _ ⟨b1,rfl,rfl⟩
 refine A O<|G<|zJ<|F O<|zP zAt (R 0 O) O<|qI O ok163 (zTz s hs) ⟨H,O,T⟩<|kO O<|G<|zD O (fun c1=>?_) (fun c1=>?_)
 ·try simp only [I] at c1
  refine F O<|A O<|G<|zY _ (Weak.mem [false,true,true,true,true] O)<|o<|X O ?_
  exact ⟨by rw [stE_5 c1],O⟩
 ·try simp only [I] at c1
  refine zK<|zJ<|F O<|zH O zAm<|zM one3 (R 0 O) O<|G<|zR<|F O<|yF O<|A O<|G<|zD O (fun c2=>?_) (fun c2=>?_)
  ·try simp only [I] at c2
   refine F O<|A O<|zP zAt (R 0 O) O<|zU O (kK [1,1,1,1] O ok164 (ck_loop b svL svS svP n U S W s hn hU) ⟨H,O,H,O,T⟩ O)<|A O<|G<|zY _ (Weak.mem [false,true,true,true,true] O)<|o<|X O ?_
   exact ⟨by rw [stE_l c1 c2],O⟩
  ·try simp only [I] at c2
   refine F O<|yF O<|A O<|G<|zD O (fun c3=>?_) (fun c3=>?_)
   ·try simp only [I] at c3
    refine zJ<|F O<|A O<|zH O zBd<|zP kC (R 0 O) O<|zU O (kK [1,1,1,1] O ok165 (zIa b svL svS svP n U S W s.E hn hS (by omega)) ⟨H,O,H,O,T⟩ O)<|qO O<|yJ O<|qU O<|zX O O (yX O m) ?_
    rintro _ _ ⟨b2,rfl,rfl⟩
    refine Y 0 L O<|A O<|G<|F O<|A O<|yN O<|G<|zD O (fun c4=>?_) (fun c4=>?_)
    ·try simp only [I] at c4
     refine F O<|A O<|A O<|G<|zY _ (Weak.mem [false,false,true,true,true,true] O)<|o<|X O ?_
     exact ⟨by rw [stE_i c1 c3,ifE_x c4],O⟩
    ·try simp only [I] at c4
     refine zK<|zJ<|F O<|zH O zBd<|zP kC (R 1 O) O<|qI O ok166 (wJ s.E) ⟨H,O,T⟩<|kO O<|G<|zD O (fun c5=>?_) (fun c5=>?_)
     ·try simp only [I] at c5
      refine F O<|A O<|G<|zY _ (Weak.mem [false,false,true,true,true,true] O)<|o<|X O ?_
      exact ⟨by rw [stE_i c1 c3,ifE_10 c4 c5],O⟩
     ·try simp only [I] at c5
      refine zK<|F O<|A O<|G<|zY _ (Weak.mem [false,false,true,true,true,true] O)<|o<|X O ?_
      exact ⟨by rw [stE_i c1 c3,ifE_0 c4 c5],O⟩
   ·try simp only [I] at c3
    refine zK<|F O<|A O<|zP zAt (R 0 O) O<|zU O (kK [1,1,1,1] O ok167 (ck_store b svL svS svP n U S W s hn hS hs) ⟨H,O,H,O,T⟩ O)<|A O<|G<|zY _ (Weak.mem [false,true,true,true,true] O)<|o<|X O ?_
    exact ⟨by rw [stE_s c1 c2 c3],O⟩
set_option maxHeartbeats 2000000 in
theorem zFz (b:Nat) (svL svS svP:Value) (n:Ns) (U S:List ByteArray) (W:List Int) (l:List St) (hn:n.Ok) (hU:U.length+stsN l<=1000000) (hS:S.length+stsN l<=1000000) (hW:W.length+stsN l<=1000000) (hl:stsWt l<=536870912) (ih:∀s,s∈l->∀(svL svS svP:Value) (U S:List ByteArray) (W:List Int),U.length+stsN s.Body<=1000000->S.length+stsN s.Body<=1000000->W.length+stsN s.Body<=1000000->Con cfg 82 [vP b,vSts s.Body] (ckN b svL svS svP n U S W) fun r μ'=>∃svL' svS' svP' U' S' W',r=vI (chkL n.Bufs U S W 0 s.Body).E/\((chkL n.Bufs U S W 0 s.Body).E=0->U'=(chkL n.Bufs U S W 0 s.Body).U/\S'=S/\W'=W)/\(¬(chkL n.Bufs U S W 0 s.Body).E=0->W'=(chkL n.Bufs U S W 0 s.Body).W)/\μ'=ckN b svL' svS' svP' n U' S' W'):
    Con cfg 82 [vP b,vSts l] (ckN b svL svS svP n U S W) fun r μ'=>∃svL' svS' svP' U' S' W',r=vI (chkL n.Bufs U S W 0 l).E/\((chkL n.Bufs U S W 0 l).E=0->U'=(chkL n.Bufs U S W 0 l).U/\S'=S/\W'=W)/\(¬(chkL n.Bufs U S W 0 l).E=0->W'=(chkL n.Bufs U S W 0 l).W)/\μ'=ckN b svL' svS' svP' n U' S' W':=by
 refine zT Tryz.func82 O Tryz.ntmps82 Tryz.results82 O ?_
 intro z hz
 have hll:=kP l
 have hlN:=zDv l
 refine F O<|A O<|G<|zJ<|F O<|A O<|qC O D<|A O<|G<|zR<|zY ⟨[(12,.c _),(0,.c _),(1,.c _),(11,.c _)],[_,_,_,_]⟩ (Weak.mk [true,true,true,true] ⟨H,H,H,H,T⟩ O)<|qK 1 4 O O (Nat×Value×Value×Value×List ByteArray) (fun ⟨k,vL,vS,vP_,u⟩=>[(12,vI k)]) (fun ⟨k,vL,vS,vP_,u⟩=>[E.row b 123 [.sl 8 (n.Bufs.map Bf.cells),.sl 20 (n.Body.map St.cells),.lit vL,.lit vS,.lit vP_],E.vec vL 9 1 (u.map fun s=>[cS s]),E.vec vS 9 1 (S.map fun s=>[cS s]),E.vec vP_ 3 1 (W.map fun i=>[cI i])]) (fun ⟨k,vL,vS,vP_,u⟩=>k<=l.length/\(u.length+stsN (l.drop k)<=1000000)/\((chkL n.Bufs U S W 0 l)=chkL n.Bufs u S W k (l.drop k))) (fun ⟨k,vL,vS,vP_,u⟩=>l.length-k) ⟨⟨0,svL,svS,svP,U⟩,⟨by omega,by simpa using hU,O⟩,Weak.mk [true,true,true,true] ⟨H,H,H,H,T⟩ O⟩ ?_
 rintro ⟨k,vL,vS,vP_,u⟩ ⟨hk,hub,hp⟩
 show AWP _ _ _ _ _ ⟨[(12,vI k)]++_,[E.row b 123 [.sl 8 (n.Bufs.map Bf.cells),.sl 20 (n.Body.map St.cells),.lit vL,.lit vS,.lit vP_],E.vec vL 9 1 (u.map fun s=>[cS s]),E.vec vS 9 1 (S.map fun s=>[cS s]),E.vec vP_ 3 1 (W.map fun i=>[cI i])]++_⟩
 refine F O<|yD O<|G<|zJ<|zD O (fun c1=>?_) (fun c1=>?_)
 ·try simp only [I] at c1
  obtain ⟨s,hs⟩:=qV l k (by omega)
  have hsw:=yE (qB hs)
  have hsb:=St.body_wt s
  have hsn:=stsN_drop hs
  have hse:=zGi s
  have hsm:=zHd (qB hs)
  have hcl:=chkS_len n.Bufs s u S (W++[(k:Int)])
  refine zK<|zJ<|zR<|F O<|A O<|A O<|G<|F O<|A O<|A O<|qD O D (by omega) (wG (by assumption))<|zP zAt qA O<|zX O O (qE [none,none,none,none,none,some 4,none,none,none,none,none,none,none,none,none,none,some 2,some 4,some 13,some 20] O j O) ?_
  rintro _ _ ⟨b1,rfl,rfl⟩
  refine Y 0 sz46 O<|G<|F O<|A O<|A O<|zU O (qW O O)<|zH O zHv<|zM zGo (R 1 O) O<|A O<|yZ O K zr3<|zX O O (qX 4 O K O O O (by simp only [List.length_map,List.length_append,List.length_cons,List.length_nil];omega) (by simp only [List.length_map,List.length_append,List.length_cons,List.length_nil];omega)) ?_
  rintro _ _ ⟨sv2,rfl,rfl⟩
  refine zU O (qW O O)<|zH O zHv<|Y 1 sz26 O<|G<|zJ<|zJ<|zY _ (Weak.vecEq 4 O (rows':=(W++[(k:Int)]).map fun i=>[cI i]) (by first|rfl|simp|rw [List.take_of_length_le (by simp)]))<|zQ O<|A O<|zP zAt (R 0 O) O<|zU O (kK [1,1,1,1] O ok129 (ck_statement b vL vS _ n u S (W++[(k:Int)]) s hn (by omega) (by omega) (by omega)) ⟨H,O,H,O,T⟩ O)<|A O<|G<|F O<|A O<|yN O<|G<|zD O (fun c2=>?_) (fun c2=>?_)
  ·try simp only [I] at c2
   have hx0:=chkS_no (here:=W++[(k:Int)]) (B:=n.Bufs) (U:=u) (sc:=S) (s:=s) c2
   refine F O<|A O<|A O<|G<|zY _ (Weak.mem [false,true,true,true,true] O)<|o<|X O ?_
   refine ⟨_,_,_,_,_,_,?_,fun h0=>?_,fun _=>?_,O⟩
   · rw [zEn hs hp (by rw [hx0];exact c2),hx0]
   · rw [zEn hs hp (by rw [hx0];exact c2),hx0] at h0;exact absurd h0 c2
   · rw [zEn hs hp (by rw [hx0];exact c2),hx0]
  ·try simp only [I] at c2
   have hin:=chkS_in (here:=W++[(k:Int)]) (B:=n.Bufs) (U:=u) (sc:=S) (s:=s) c2
   refine zK<|F O<|A O<|zU O (qW O O)<|zH O zJx<|zM zMw (R 1 O) O<|zU O (kJ 3 O zCl O O)<|A O<|G<|zJ<|F O<|zH O zAm<|zM one3 (R 0 O) O<|yF O<|G<|zD O (fun c3=>?_) (fun c3=>?_)
   ·try simp only [I] at c3
    rw [zMy c3,zMy c3] at hin
    refine zJ<|kH 9 0 [⟨0,.q []⟩,⟨1,.q []⟩,⟨2,.q []⟩,⟨3,.q []⟩,⟨4,.q [1]⟩,⟨5,.q []⟩,⟨6,.q [0]⟩,⟨7,.q []⟩,⟨8,.e 2 []⟩] mixed (by kernel_rfl) (by kernel_rfl) O O O<|t O<|t O<|t O<|t O<|t O<|t O<|t O<|t O<|t O<|zAz<|v O (by decide) O O (w O O)<|v O (by decide) O O (w O O)<|v O (by decide) O O (qW O O)<|v O (by decide) O O (zE O fd123_1 O)<|v O (by decide) O O (zF O zMw O (R 0 O) O)<|v O (by decide) O O (zE O zAo O)<|v O (by decide) O O (zF O one9 O (R 0 O) O)<|v O (by decide) O O (wI O zCl zr9 O O O O)<|zHe O O (by decide) O O (qX 0 O zCl O O O (by simp only [List.length_map,List.length_append,List.length_cons,List.length_nil];omega) (by simp only [List.length_map,List.length_append,List.length_cons,List.length_nil];omega)) ?_
    rintro _ _ ⟨sv3,rfl,rfl⟩
    refine ⟨_,O,?_⟩
    refine zAv O<|zU O (qW O O)<|zH O fd123_1<|Y 1 sz105 O<|G<|zY _ (Weak.vecEq 2 O (rows':=(u++[s.Name]).map fun s=>[cS s]) (by first|rfl|simp|rw [List.take_of_length_le (by simp)]))<|kH 9 0 [⟨0,.q []⟩,⟨1,.q []⟩,⟨2,.q []⟩,⟨3,.q []⟩,⟨4,.q [1]⟩,⟨5,.q []⟩,⟨6,.q [0]⟩,⟨7,.q []⟩,⟨8,.e 3 []⟩] mixed (by kernel_rfl) (by kernel_rfl) O O O<|t O<|t O<|t O<|t O<|t O<|t O<|t O<|t O<|t O<|zAz<|v O (by decide) O O (w O O)<|v O (by decide) O O (w O O)<|v O (by decide) O O (qW O O)<|v O (by decide) O O (zE O zJx O)<|v O (by decide) O O (zF O zMw O (R 0 O) O)<|v O (by decide) O O (zE O zAo O)<|v O (by decide) O O (zF O one9 O (R 0 O) O)<|v O (by decide) O O (wI O zCl zr9 O O O O)<|zHe O O (by decide) O O (qX 0 O zCl O O O (by simp only [List.length_map,List.length_append,List.length_cons,List.length_nil];omega) (by simp only [List.length_map,List.length_append,List.length_cons,List.length_nil];omega)) ?_
    rintro _ _ ⟨sv4,rfl,rfl⟩
    refine ⟨_,O,?_⟩
    refine zAv O<|zU O (qW O O)<|zH O zJx<|Y 1 sz105 O<|G<|zJ<|zJ<|zY _ (Weak.vecEq 3 O (rows':=(S++[s.Name]).map fun s=>[cS s]) (by first|rfl|simp|rw [List.take_of_length_le (by simp)]))<|zY ⟨_,E.row _ _ _::ckN b _ _ _ n (u++[s.Name]) (S++[s.Name]) (W++[(k:Int)])⟩ (Weak.mem [true,true,true,true,true] O)<|zQ O<|A O<|zH O kM<|zM kQ (R 0 O) O<|zX O O (zEg [1,1,1,1] O ok82 (ih s (qB hs) _ _ _ (u++[s.Name]) (S++[s.Name]) (W++[(k:Int)]) (by first|omega|(simp;omega)) (by first|omega|(simp;omega)) (by simp;omega)) ⟨H,O,H,O,T⟩ O) ?_
    rintro _ _ ⟨_,⟨svL1,svS1,svP1,U1,S1,W1,rfl,hok,hno,rfl⟩,rfl⟩
    refine A O<|G<|F O<|A O<|yN O<|G<|zD O (fun c4=>?_) (fun c4=>?_)
    ·try simp only [I] at c4
     rw [←hin] at c4 hno
     refine F O<|A O<|A O<|G<|zY _ (Weak.mem [false,true,true,true,true] O)<|o<|X O ?_
     refine ⟨_,_,_,_,_,_,?_,fun h0=>?_,fun _=>?_,O⟩
     · rw [zEn hs hp c4,hin]
     · rw [zEn hs hp c4] at h0;exact absurd h0 c4
     · rw [zEn hs hp c4];exact hno c4
    ·try simp only [I] at c4
     rw [←hin] at c4 hok
     obtain ⟨hU1,hS1,hW1⟩:=hok c4
     have hS2:=hS1.symm
     subst hU1 hS2 hW1
     refine zK<|F O<|A O<|A O<|zU O (qW O O)<|zH O zJx<|zM zMw (R 1 O) O<|A O<|zX O O (zHl (k:=S.length) 3 O zCl O O O (by simp) (by simp)) ?_
     rintro _ _ ⟨sv5,rfl,rfl⟩
     refine zU O (qW O O)<|zH O zJx<|Y 1 sz105 O<|G<|zY _ (Weak.vecEq 3 O (rows':=S.map fun s=>[cS s]) (by first|rfl|simp|rw [List.take_of_length_le (by simp)]))<|kH 12 0 [⟨0,.q []⟩,⟨1,.q []⟩,⟨2,.q []⟩,⟨3,.q []⟩,⟨4,.q [1]⟩,⟨5,.q []⟩,⟨6,.q []⟩,⟨7,.q []⟩,⟨8,.q [1]⟩,⟨9,.q [4]⟩,⟨10,.q []⟩,⟨11,.e 4 []⟩] mixed (by kernel_rfl) (by kernel_rfl) O O O<|t O<|t O<|t O<|t O<|t O<|t O<|t O<|t O<|t O<|t O<|t O<|t O<|zAz<|v O (by decide) O O (w O O)<|v O (by decide) O O (w O O)<|v O (by decide) O O (qW O O)<|v O (by decide) O O (zE O zHv O)<|v O (by decide) O O (zF O zGo O (R 0 O) O)<|v O (by decide) O O (w O O)<|v O (by decide) O O (qW O O)<|v O (by decide) O O (zE O zHv O)<|v O (by decide) O O (zF O zGo O (R 0 O) O)<|v O (by decide) O O (kJ 0 O K O O)<|v O (by decide) O O (yB O O O (by simp only [List.length_map,List.length_append,List.length_cons,List.length_nil];exact ⟨by omega,by omega⟩))<|zHe O O (by decide) O O (zHl (k:=W.length) 0 O K O O O (by simp only [List.length_map,List.length_append,List.length_cons,List.length_nil];omega) (by simp)) ?_
     rintro _ _ ⟨sv6,rfl,rfl⟩
     refine ⟨_,O,?_⟩
     refine zAv O<|zU O (qW O O)<|zH O zHv<|Y 1 sz26 O<|G<|zY _ (Weak.vecEq 4 O (rows':=W.map fun i=>[cI i]) (by first|rfl|simp|rw [List.take_of_length_le (by simp)]))<|zQ O<|qJ O ⟨by omega,by omega⟩<|A O<|G ?_
     refine ⟨⟨k+1,_,_,_,(chkS n.Bufs u S (W++[(k:Int)]) s).U⟩,⟨by omega,by omega,zNx hs hp c4⟩,(by show l.length-(k+1)<l.length-k;omega),Weak.mk [false,true,true,true,true] ⟨H,H,H,H,T⟩ O⟩
   ·try simp only [I] at c3
    rw [zRf c3,zRf c3] at hin
    refine zK<|zJ<|zJ<|zY ⟨_,E.row _ _ _::ckN b _ _ _ n u S (W++[(k:Int)])⟩ (Weak.mem [true,true,true,true,true] O)<|zQ O<|A O<|zH O kM<|zM kQ (R 0 O) O<|zX O O (zEg [1,1,1,1] O ok82 (ih s (qB hs) _ _ _ u S (W++[(k:Int)]) (by first|omega|(simp;omega)) (by first|omega|(simp;omega)) (by simp;omega)) ⟨H,O,H,O,T⟩ O) ?_
    rintro _ _ ⟨_,⟨svL1,svS1,svP1,U1,S1,W1,rfl,hok,hno,rfl⟩,rfl⟩
    refine A O<|G<|F O<|A O<|yN O<|G<|zD O (fun c4=>?_) (fun c4=>?_)
    ·try simp only [I] at c4
     rw [←hin] at c4 hno
     refine F O<|A O<|A O<|G<|zY _ (Weak.mem [false,true,true,true,true] O)<|o<|X O ?_
     refine ⟨_,_,_,_,_,_,?_,fun h0=>?_,fun _=>?_,O⟩
     · rw [zEn hs hp c4,hin]
     · rw [zEn hs hp c4] at h0;exact absurd h0 c4
     · rw [zEn hs hp c4];exact hno c4
    ·try simp only [I] at c4
     rw [←hin] at c4 hok
     obtain ⟨hU1,hS1,hW1⟩:=hok c4
     have hS2:=hS1.symm
     subst hU1 hS2 hW1
     refine zK<|F O<|A O<|A O<|zU O (qW O O)<|zH O zJx<|zM zMw (R 1 O) O<|A O<|zX O O (zHl (k:=S.length) 3 O zCl O O O (by simp) (by simp)) ?_
     rintro _ _ ⟨sv7,rfl,rfl⟩
     refine zU O (qW O O)<|zH O zJx<|Y 1 sz105 O<|G<|zY _ (Weak.vecEq 3 O (rows':=S.map fun s=>[cS s]) (by first|rfl|simp|rw [List.take_of_length_le (by simp)]))<|kH 12 0 [⟨0,.q []⟩,⟨1,.q []⟩,⟨2,.q []⟩,⟨3,.q []⟩,⟨4,.q [1]⟩,⟨5,.q []⟩,⟨6,.q []⟩,⟨7,.q []⟩,⟨8,.q [1]⟩,⟨9,.q [4]⟩,⟨10,.q []⟩,⟨11,.e 4 []⟩] mixed (by kernel_rfl) (by kernel_rfl) O O O<|t O<|t O<|t O<|t O<|t O<|t O<|t O<|t O<|t O<|t O<|t O<|t O<|zAz<|v O (by decide) O O (w O O)<|v O (by decide) O O (w O O)<|v O (by decide) O O (qW O O)<|v O (by decide) O O (zE O zHv O)<|v O (by decide) O O (zF O zGo O (R 0 O) O)<|v O (by decide) O O (w O O)<|v O (by decide) O O (qW O O)<|v O (by decide) O O (zE O zHv O)<|v O (by decide) O O (zF O zGo O (R 0 O) O)<|v O (by decide) O O (kJ 0 O K O O)<|v O (by decide) O O (yB O O O (by simp only [List.length_map,List.length_append,List.length_cons,List.length_nil];exact ⟨by omega,by omega⟩))<|zHe O O (by decide) O O (zHl (k:=W.length) 0 O K O O O (by simp only [List.length_map,List.length_append,List.length_cons,List.length_nil];omega) (by simp)) ?_
     rintro _ _ ⟨sv8,rfl,rfl⟩
     refine ⟨_,O,?_⟩
     refine zAv O<|zU O (qW O O)<|zH O zHv<|Y 1 sz26 O<|G<|zY _ (Weak.vecEq 4 O (rows':=W.map fun i=>[cI i]) (by first|rfl|simp|rw [List.take_of_length_le (by simp)]))<|zQ O<|qJ O ⟨by omega,by omega⟩<|A O<|G ?_
     refine ⟨⟨k+1,_,_,_,(chkS n.Bufs u S (W++[(k:Int)]) s).U⟩,⟨by omega,by omega,zNx hs hp c4⟩,(by show l.length-(k+1)<l.length-k;omega),Weak.mk [false,true,true,true,true] ⟨H,H,H,H,T⟩ O⟩
 ·try simp only [I] at c1
  refine qQ<|F O<|A O<|G<|o<|X O ?_
  refine ⟨_,_,_,_,_,_,?_,fun _=>⟨?_,O,O⟩,fun h0=>?_,O⟩
  · rw [zRv hp (by omega)]
  · rw [zRv hp (by omega)]
  · rw [zRv hp (by omega)] at h0;exact absurd rfl h0
theorem zNw (b:Nat) (n:Ns) (hn:n.Ok) (s:St) (hl:stsWt s.Body<=536870912):∀(svL svS svP:Value) (U S:List ByteArray) (W:List Int),U.length+stsN s.Body<=1000000->S.length+stsN s.Body<=1000000->W.length+stsN s.Body<=1000000->Con cfg 82 [vP b,vSts s.Body] (ckN b svL svS svP n U S W) fun r μ'=>∃svL' svS' svP' U' S' W',r=vI (chkL n.Bufs U S W 0 s.Body).E/\((chkL n.Bufs U S W 0 s.Body).E=0->U'=(chkL n.Bufs U S W 0 s.Body).U/\S'=S/\W'=W)/\(¬(chkL n.Bufs U S W 0 s.Body).E=0->W'=(chkL n.Bufs U S W 0 s.Body).W)/\μ'=ckN b svL' svS' svP' n U' S' W':=by
  induction s using St.ind with
  |_ s ih=>
    intro svL svS svP U S W hU hS hW
    refine zFz b svL svS svP n U S W s.Body hn hU hS hW hl fun a ha=>ih a ha ?_
    have:=yE ha;have:=St.body_wt a;omega
theorem ck_statements (b:Nat) (svL svS svP:Value) (n:Ns) (U S:List ByteArray) (W:List Int) (l:List St) (hn:n.Ok) (hU:U.length+stsN l<=1000000) (hS:S.length+stsN l<=1000000) (hW:W.length+stsN l<=1000000) (hl:stsWt l<=536870912):Con cfg 82 [vP b,vSts l] (ckN b svL svS svP n U S W) fun r μ'=>∃svL' svS' svP' U' S' W',r=vI (chkL n.Bufs U S W 0 l).E/\((chkL n.Bufs U S W 0 l).E=0->U'=(chkL n.Bufs U S W 0 l).U/\S'=S/\W'=W)/\(¬(chkL n.Bufs U S W 0 l).E=0->W'=(chkL n.Bufs U S W 0 l).W)/\μ'=ckN b svL' svS' svP' n U' S' W':=
  zFz b svL svS svP n U S W l hn hU hS hW hl fun s hs=>zNw b n hn s (by have:=yE hs;have:=St.body_wt s;omega)
theorem zDr (n:Ns) (hn:n.Ok):
    Pur cfg 34 [vNs n] (.tup [vIs (validN n).1,vI (validN n).2]):=by
 refine zT Tryz.func34 O Tryz.ntmps34 Tryz.results34 O ?_
 intro z hz
 have hnb:=hn.body
 refine F O<|zX O O (qN O O) ?_
 rintro _ _ ⟨b1,rfl,rfl⟩
 refine qZ 1 O<|A O<|G<|zJ<|F O<|zH O zAd<|zM kQ (R 0 O) O<|qI O ok79 (zTx 40 n.Body 40 (by omega) (by omega) O) ⟨H,O,H,O,T⟩<|kO O<|G<|zD O (fun c1=>?_) (fun c1=>?_)
 ·try simp only [I] at c1
  refine F O<|qZ 1 O<|A O<|G<|o<|p (J O) (J O) ?_
  rw [zSj c1];rfl
 ·try simp only [I] at c1
  refine zK<|zJ<|F O<|zH O zAd<|zM kQ (R 0 O) O<|qI O ok80 (zNc n.Body 2000 2000 (by omega) (by omega) O) ⟨H,O,H,O,T⟩<|zU O (yG O O O)<|A O<|rL0 O (fun g3_4=>zE O zAr O) O<|B 16 O (fun g3_4=>zF O zEi O (R 0 O) O) O<|B 17 O (fun g3_4=>yC O el22 O) O<|B 18 O (fun g3_4=>yG O O O) O<|r_or O (fun h=>(lzf h))<|G<|zD O (fun c2=>?_) (fun c2=>?_)
  ·try simp only [I] at c2
   refine F O<|qZ 1 O<|A O<|G<|o<|p (J O) (J O) ?_
   rw [validN_2 c1 (by omega)];rfl
  ·try simp only [I] at c2
   have hnum:=numB_ok (l:=n.Body) (m:=2000) (by omega)
   refine zK<|zJ<|F O<|zH O zAr<|zM zEi (R 0 O) O<|qI O ok81 (zJr n.Bufs hn.bufs hn.dims) ⟨H,O,T⟩<|A O<|G<|F O<|A O<|yN O<|G<|zD O (fun c3=>?_) (fun c3=>?_)
   ·try simp only [I] at c3
    refine F O<|A O<|qZ 1 O<|A O<|G<|o<|p (J O) (J O) ?_
    rw [validN_b c1 (by omega) c3];rfl
   ·try simp only [I] at c3
    refine zK<|F O<|zP yY (R 0 O) O<|yP O zr123 pl123<|zX O O (qN O O) ?_
    rintro _ _ ⟨b2,rfl,rfl⟩
    refine yI _ (kN 9 1)<|yI _ (kN 9 1)<|yI _ (kN 3 1)<|A O<|G<|zJ<|F O<|A O<|zH O zAd<|zM kQ (R 4 O) O<|zX O O (zEg [3,2,1,0] O ok82 (ck_statements b2 _ _ _ n [] [] [] n.Body hn (by simp;omega) (by simp;omega) (by simp;omega) hnb) ⟨H,O,H,O,T⟩ O) ?_
    rintro _ _ ⟨_,⟨svL1,svS1,svP1,U1,S1,W1,rfl,hok,hno,rfl⟩,rfl⟩
    refine A O<|G<|F O<|A O<|yN O<|G<|zD O (fun c4=>?_) (fun c4=>?_)
    ·try simp only [I] at c4
     have hW1:=hno c4
     subst hW1
     refine zY _ (yH 0 O (regs':=[]) (μ':=[_,_,_,_]) T ⟨EFle.refl _,EFle.refl _,EFle.row (ds:=[_,_,_,_,_]) ⟨.inl O,.inl O,.inl O,.inl O,.inr ⟨O,O⟩,T⟩,EFle.refl _,T⟩)<|F O<|A O<|zU O (qW O O)<|zH O zHv<|zM zGo (R 2 O) O<|A O<|A O<|A O<|G<|o<|p (J O) (J O) ?_
     rw [zQr c1 (by omega) c3]
    ·try simp only [I] at c4
     refine zK<|F O<|qZ 1 O<|A O<|G<|o<|p (J O) (J O) ?_
     rw [zQr c1 (by omega) c3,chkL_ok c4,c4];rfl
end Go.W
