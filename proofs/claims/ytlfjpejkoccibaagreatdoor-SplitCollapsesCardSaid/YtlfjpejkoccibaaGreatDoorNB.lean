/-
  What functions compute.
  Conditions: none.
-/
import Derived.Test.YtlfjpejkoccibaaGreatDoorNA
set_option linter.unusedSimpArgs false
set_option linter.unusedVariables false
set_option maxRecDepth 10000
namespace Go.W
open Go Go.Eng Go.Proofs Go.L41 Go.Br
attribute [local irreducible] AWP RWP TD fH
abbrev ckN (b:Nat) (svL svS svP:Value) (n:Ns) (U S:List ByteArray) (W:List Int):List E:=
  [.row b 123 [.sl 8 (n.Bufs.map Bf.cells),.sl 20 (n.Body.map St.cells),.lit svL,.lit svS,.lit svP],.vec svL 9 1 (U.map fun s=>[cS s]),.vec svS 9 1 (S.map fun s=>[cS s]),.vec svP 3 1 (W.map fun i=>[cI i])]
abbrev vP (b:Nat):V:=.c (.lit (.pointer (some ⟨b,0,none⟩)))
theorem yY:nG Tryz.prog 25=some 2:=by kernel_rfl
theorem zAv:nG Tryz.prog 46=some 20:=by kernel_rfl
theorem zAo:dY Tryz.prog 228=some (38,5,40):=by kernel_rfl
theorem zAd:bY Tryz.prog 25 1=some (1,23):=by kernel_rfl
theorem zAp:bY Tryz.prog 46 0=some (0,3):=by kernel_rfl
theorem zAj:bY Tryz.prog 46 1=some (1,9):=by kernel_rfl
theorem zAc:bY Tryz.prog 46 2=some (2,3):=by kernel_rfl
theorem zHg:bY Tryz.prog 46 3=some (3,3):=by kernel_rfl
theorem zRe:bY Tryz.prog 46 4=some (4,3):=by kernel_rfl
theorem zDo:bY Tryz.prog 46 5=some (5,34):=by kernel_rfl
theorem zAz:bY Tryz.prog 46 6=some (6,44):=by kernel_rfl
theorem zQk:bY Tryz.prog 123 0=some (0,25):=by kernel_rfl
theorem fd123_1:bY Tryz.prog 123 1=some (2,105):=by kernel_rfl
theorem zKo:bY Tryz.prog 123 2=some (3,105):=by kernel_rfl
theorem zIj:bY Tryz.prog 123 3=some (4,26):=by kernel_rfl
theorem ok81:bA Tryz.prog 81=true:=by kernel_rfl
theorem ok82:bA Tryz.prog 82=true:=by kernel_rfl
theorem ok101:bA Tryz.prog 101=true:=by kernel_rfl
theorem ok129:bA Tryz.prog 129=true:=by kernel_rfl
theorem ok163:bA Tryz.prog 163=true:=by kernel_rfl
theorem ok164:bA Tryz.prog 164=true:=by kernel_rfl
theorem ok165:bA Tryz.prog 165=true:=by kernel_rfl
theorem ok167:bA Tryz.prog 167=true:=by kernel_rfl
theorem ok187:bA Tryz.prog 187=true:=by kernel_rfl
theorem ok188:bA Tryz.prog 188=true:=by kernel_rfl
theorem ok189:bA Tryz.prog 189=true:=by kernel_rfl
theorem ok190:bA Tryz.prog 190=true:=by kernel_rfl
theorem ok205:bA Tryz.prog 205=true:=by kernel_rfl
theorem ok209:bA Tryz.prog 209=true:=by kernel_rfl
theorem ok210:bA Tryz.prog 210=true:=by kernel_rfl
theorem ok211:bA Tryz.prog 211=true:=by kernel_rfl
theorem ok241:bA Tryz.prog 241=true:=by kernel_rfl
theorem ok242:bA Tryz.prog 242=true:=by kernel_rfl
theorem ok243:bA Tryz.prog 243=true:=by kernel_rfl
theorem zQx:lV Tryz.prog 121=true:=by kernel_rfl
theorem pl123:gG Tryz.prog 123=some [(0,2),(2,1),(3,1),(4,1)]:=by kernel_rfl
theorem L:(Tryz.prog.info? 38).map (·.size)=some 5:=by kernel_rfl
theorem sz46:(Tryz.prog.info? 46).map (·.size)=some 20:=by kernel_rfl
theorem j:fS Tryz.prog 46=some [(Value.int IntKind.i64 0),(Value.string (ByteArray.mk #[])),(Value.int IntKind.i64 0),(Value.int IntKind.i64 0),(Value.int IntKind.i64 0),(Value.slice none 0 0),(Value.int IntKind.i64 0),(Value.string (ByteArray.mk #[])),(Value.int IntKind.i64 0),(Value.int IntKind.i64 0),(Value.int IntKind.i64 0),(Value.int IntKind.i64 0),(Value.int IntKind.i64 0),(Value.int IntKind.i64 0),(Value.int IntKind.i64 0),(Value.int IntKind.i64 0),(Value.slice none 0 0),(Value.slice none 0 0),(Value.slice none 0 0),(Value.slice none 0 0)]:=by kernel_rfl
theorem zr123:fS Tryz.prog 123=some [(Value.slice none 0 0),(Value.slice none 0 0),(Value.slice none 0 0),(Value.slice none 0 0),(Value.slice none 0 0)]:=by kernel_rfl
theorem zIx (l:List Mono) (c:C) (p:Mono->Bool) (μ:List E) (hl:l.length<=4294967296) (hc:∀x,x∈l->FnCon cfg c [rC x] μ fun r μ'=>r=vB (p x)/\μ'=μ):
    Con cfg 281 [tH l,.c c] μ fun r μ'=>r=vI (jR p l)/\μ'=μ:=by
 refine zT Tryz.func281 O Tryz.ntmps281 Tryz.results281 O ?_
 intro z hz
 refine F O<|A O<|H<|zK<|F O<|A O<|qC O P<|A O<|H<|zR<|zY ⟨[(8,.c _),(0,.c _),(1,.c _),(7,.c _)],_⟩ (Weak.regs ⟨G,G,G,G,T⟩)<|zDf 1 O (Nat) (fun k=>[(8,vI k)]) (fun k=>μ) (fun k=>k<=l.length/\((l.take k).any p=false)) (fun k=>l.length-k) ⟨0,⟨by omega,O⟩,Weak.regs ⟨G,G,G,G,T⟩⟩ ?_
 rintro k ⟨hk,hp⟩
 refine F O<|yD O<|H<|zK<|zD O (fun c1=>?_) (fun c1=>?_)
 ·try simp only [I] at c1
  obtain ⟨x,hx⟩:=qY l k (by omega)
  refine zM<|zK<|zR<|F O<|A O<|A O<|H<|F O<|A O<|A O<|A O<|qD O P (by omega) (Q (by assumption))<|zP zPk qA O<|zV O O (zAh O O (hc _ (zZ hx)) ⟨G,O,T⟩) ?_
  rintro _ _ ⟨rfl,rfl⟩
  refine H<|zD O (fun c2=>?_) (fun c2=>?_)
  ·try simp only [I] at c2
   refine F O<|A O<|A O<|H<|o<|X O ?_
   exact ⟨by rw [zSk hx c2 hp],O⟩
  ·try simp only [I] at c2
   refine zM<|zQ O<|qJ O ⟨by omega,by omega⟩<|A O<|H ?_
   refine ⟨k+1,⟨by omega,zTg hx hp c2⟩,(by omega),Weak.regs ⟨G,G,G,G,T⟩⟩
 ·try simp only [I] at c1
  refine qQ<|F O<|A O<|H<|o<|X O ?_
  exact ⟨by rw [zLn (by rw [yU (by omega)] at hp;exact hp)],O⟩
theorem zGk (l:List Mono) (c:C) (p:Mono->Bool) (μ:List E) (hl:l.length<=4294967296) (hc:∀x,x∈l->FnCon cfg c [rC x] μ fun r μ'=>r=vB (p x)/\μ'=μ):
    Con cfg 241 [tH l,.c c] μ fun r μ'=>r=vB (l.any p)/\μ'=μ:=by
 refine zT Tryz.func241 O Tryz.ntmps241 Tryz.results241 O ?_
 intro z hz
 refine F O<|A O<|H<|F O<|A O<|A O<|zV O O (zBe O ok281 (zIx l c p μ hl hc) ⟨G,O,G,O,T⟩) ?_
 rintro _ _ ⟨rfl,rfl⟩
 refine zU O (wI O O O)<|A O<|H<|o<|X O ?_
 exact ⟨by rw [zOp],O⟩
theorem zLw (l:List Lf) (c:C) (p:Lf->Bool) (μ:List E) (hl:l.length<=4294967296) (hc:∀x,x∈l->FnCon cfg c [bZ x] μ fun r μ'=>r=vB (p x)/\μ'=μ):
    Con cfg 243 [rZ l,.c c] μ fun r μ'=>r=vI (jR p l)/\μ'=μ:=by
 refine zT Tryz.func243 O Tryz.ntmps243 Tryz.results243 O ?_
 intro z hz
 refine F O<|A O<|H<|zK<|F O<|A O<|qC O el70<|A O<|H<|zR<|zY ⟨[(8,.c _),(0,.c _),(1,.c _),(7,.c _)],_⟩ (Weak.regs ⟨G,G,G,G,T⟩)<|zDf 1 O (Nat) (fun k=>[(8,vI k)]) (fun k=>μ) (fun k=>k<=l.length/\((l.take k).any p=false)) (fun k=>l.length-k) ⟨0,⟨by omega,O⟩,Weak.regs ⟨G,G,G,G,T⟩⟩ ?_
 rintro k ⟨hk,hp⟩
 refine F O<|yD O<|H<|zK<|zD O (fun c1=>?_) (fun c1=>?_)
 ·try simp only [I] at c1
  obtain ⟨x,hx⟩:=qY l k (by omega)
  refine zM<|zK<|zR<|F O<|A O<|A O<|H<|F O<|A O<|A O<|A O<|qD O el70 (by omega) (Q (by assumption))<|zP yX qA O<|zV O O (zAh O O (hc _ (zZ hx)) ⟨G,O,T⟩) ?_
  rintro _ _ ⟨rfl,rfl⟩
  refine H<|zD O (fun c2=>?_) (fun c2=>?_)
  ·try simp only [I] at c2
   refine F O<|A O<|A O<|H<|o<|X O ?_
   exact ⟨by rw [zSk hx c2 hp],O⟩
  ·try simp only [I] at c2
   refine zM<|zQ O<|qJ O ⟨by omega,by omega⟩<|A O<|H ?_
   refine ⟨k+1,⟨by omega,zTg hx hp c2⟩,(by omega),Weak.regs ⟨G,G,G,G,T⟩⟩
 ·try simp only [I] at c1
  refine qQ<|F O<|A O<|H<|o<|X O ?_
  exact ⟨by rw [zLn (by rw [yU (by omega)] at hp;exact hp)],O⟩
theorem zHt (l:List Lf) (c:C) (p:Lf->Bool) (μ:List E) (hl:l.length<=4294967296) (hc:∀x,x∈l->FnCon cfg c [bZ x] μ fun r μ'=>r=vB (p x)/\μ'=μ):
    Con cfg 210 [rZ l,.c c] μ fun r μ'=>r=vB (l.any p)/\μ'=μ:=by
 refine zT Tryz.func210 O Tryz.ntmps210 Tryz.results210 O ?_
 intro z hz
 refine F O<|A O<|H<|F O<|A O<|A O<|zV O O (zBe O ok243 (zLw l c p μ hl hc) ⟨G,O,G,O,T⟩) ?_
 rintro _ _ ⟨rfl,rfl⟩
 refine zU O (wI O O O)<|A O<|H<|o<|X O ?_
 exact ⟨by rw [zOp],O⟩
theorem inScope_1 (b:Nat) (svL svS svP:Value) (n:Ns) (U S:List ByteArray) (W:List Int) (m:Mono) (hS:S.length<=1000000):
    Con cfg 242 [rC m,.c (.iptr [.lit (.pointer (some ⟨b,0,none⟩))])] (ckN b svL svS svP n U S W) fun r μ'=>r=vB (!bK S m.Name)/\μ'=ckN b svL svS svP n U S W:=by
 refine zT Tryz.func242 O Tryz.ntmps242 Tryz.results242 O ?_
 intro z hz
 refine F O<|zV O O (qN O O) ?_
 rintro _ _ ⟨b1,rfl,rfl⟩
 refine A O<|H<|zK<|qZ 6 mixed (by kernel_rfl) O O<|M O O (zF O zQx O qA O)<|M O O (qW O O)<|M O O (zE O zKo O)<|M O O (zF O zOc O (R 1 O) O)<|M O O (zE O zAn O)<|M O O (zF O one9 O (R 0 O) O)<|kE<|zU O (zOv 3 O ok143 O (zCs S m.Name hS) O ⟨.inl ⟨O,O⟩,.inr ⟨G,O⟩,T⟩)<|kQ O<|A O<|H<|zY _ (Weak.mem [false,true,true,true,true] O)<|o<|X O ?_
 exact ⟨O,O⟩
theorem zQs (b:Nat) (svL svS svP:Value) (n:Ns) (U S:List ByteArray) (W:List Int) (l:Lf) (hS:S.length<=1000000) (hl:l.L.length<=4294967296):
    Con cfg 209 [vP b,bZ l] (ckN b svL svS svP n U S W) fun r μ'=>r=vB (gS S l)/\μ'=ckN b svL svS svP n U S W:=by
 refine zT Tryz.func209 O Tryz.ntmps209 Tryz.results209 O ?_
 intro z hz
 refine F O<|zV O O (qN O O) ?_
 rintro _ _ ⟨b1,rfl,rfl⟩
 refine yI _ (yS 0 O 2 _ PLe.ptr)<|zV O O (qN O O) ?_
 rintro _ _ ⟨b2,rfl,rfl⟩
 refine A O<|H<|F O<|zG O kC<|zJ wN (R 0 O) O<|zU O (zEe O O O O O)<|zU O (kH [1,1,1,1] O ok241 (zGk l.L _ (fun m=> !bK S m.Name) (ckN b svL svS svP n U S W) hl (fun m _=>FnCon.of_con (first:=[]) (cap:=[.iptr [.lit (.pointer (some ⟨b,0,none⟩))]]) ok242 (inScope_1 b svL svS svP n U S W m hS))) ⟨G,O,G,O,T⟩ O)<|kQ O<|A O<|H<|zY _ (Weak.mem [false,true,true,true,true] O)<|o<|X O ?_
 exact ⟨by rw [zKd];rfl,O⟩
theorem node_1 (b:Nat) (svL svS svP:Value) (n:Ns) (U S:List ByteArray) (W:List Int) (l:Lf) (hS:S.length<=1000000) (hl:l.L.length<=4294967296):
    Con cfg 211 [bZ l,.c (.iptr [.lit (.pointer (some ⟨b,0,none⟩))])] (ckN b svL svS svP n U S W) fun r μ'=>r=vB (!gS S l)/\μ'=ckN b svL svS svP n U S W:=by
 refine zT Tryz.func211 O Tryz.ntmps211 Tryz.results211 O ?_
 intro z hz
 refine F O<|zV O O (qN O O) ?_
 rintro _ _ ⟨b1,rfl,rfl⟩
 refine A O<|H<|F O<|zJ zQx qA O<|zP yX (R 0 O) O<|zU O (kH [1,1,1,1] O ok209 (zQs b svL svS svP n U S W l hS hl) ⟨G,O,G,O,T⟩ O)<|kQ O<|A O<|H<|zY _ (Weak.mem [false,true,true,true,true] O)<|o<|X O ?_
 exact ⟨O,O⟩
theorem ck_node (b:Nat) (svL svS svP:Value) (n:Ns) (U S:List ByteArray) (W:List Int) (e:Ex) (hn:n.Ok) (hS:S.length<=1000000) (he:e.wt<=1073741824):
    Con cfg 189 [vP b,vE e] (ckN b svL svS svP n U S W) fun r μ'=>r=vI (gP n.Bufs S e)/\μ'=ckN b svL svS svP n U S W:=by
 refine zT Tryz.func189 O Tryz.ntmps189 Tryz.results189 O ?_
 intro z hz
 obtain ⟨hL,hI,hA⟩:=e.parts he
 have hwt:=Ex.wt_eq e
 refine F O<|zV O O (qN O O) ?_
 rintro _ _ ⟨b1,rfl,rfl⟩
 refine yI _ (yS 0 O 2 _ PLe.ptr)<|zV O O (qN O O) ?_
 rintro _ _ ⟨b2,rfl,rfl⟩
 refine A O<|H<|F O<|zJ zQx qA O<|zG O zDe<|zP yX (R 0 O) O<|zU O (kH [1,1,1,1] O ok209 (zQs b svL svS svP n U S W e.Lin hS (by omega)) ⟨G,O,G,O,T⟩ O)<|A O<|H<|zK<|F O<|zG O kX<|zJ wO (R 0 O) O<|qC O d<|A O<|H<|zR<|zY ⟨[(20,.c _),(5,.c _),(2,.c _),(3,.c _),(18,.c _),(19,.c _)],[_,_,_,_,_]⟩ (Weak.mk [true,true,true,true,true] ⟨G,G,G,G,G,G,T⟩ O) ?_
 refine qK 2 0 O O (Nat) (fun k=>[(20,vI k),(5,vB (gS S e.Lin&&(e.Idx.take k).all (sL S)))]) (fun k=>[]) (fun k=>k<=e.Idx.length) (fun k=>e.Idx.length-k) ⟨0,(by omega),Weak.mk [true,true,true,true,true] ⟨G,VLe.of_eq (congrArg vB (by simp)),G,G,G,G,T⟩ O⟩ ?_
 rintro k hk
 refine F O<|yD O<|H<|zK<|zD O (fun c1=>?_) (fun c1=>?_)
 ·try simp only [I] at c1
  obtain ⟨x,hx⟩:=qY e.Idx k (by omega)
  refine zM<|zK<|zR<|F O<|qD O d (by omega) (Q (by assumption))<|zP zIn qA O<|zV O O (qE [none,some 2,none,some 2] O zr72 O) ?_
  rintro _ _ ⟨b3,rfl,rfl⟩
  refine Y 0 sz72 O<|H<|zQ O<|A O<|A O<|rL0 O (fun g5_1=>zF O zQx O qA O) O<|rL0 O (fun g5_1=>zE O zEp O) O<|B 27 O (fun g5_1=>qB O yX O (R 0 O) O) O<|rLz [(26,_),(28,_)] O gv1 ⟨O,O,O,O,T⟩ (fun g5_1=>kH [2,2,2,2] O ok209 (zQs b svL svS svP n U S W x.Lin hS (by have:=Ex.idx_wt (zZ hx);omega)) ⟨G,O,G,O,T⟩ O) O<|yQ O (fun h=>h)<|A O<|rL0 O (fun g5_7=>zE O zAr O) O<|B 32 O (fun g5_7=>zF O zDw O (R 0 O) O) O<|rL0 O (fun g5_7=>zEe O O O O O) O<|rLz [(33,_),(34,_)] O gv1 ⟨O,O,O,O,T⟩ (fun g5_7=>kH [2,2,2,2] O ok210 (zHt x.At _ (fun l=> !gS S l) (ckN b svL svS svP n U S W) (by have:=Ex.idx_wt (zZ hx);omega) (fun l hl=>FnCon.of_con (first:=[]) (cap:=[.iptr [.lit (.pointer (some ⟨b,0,none⟩))]]) ok211 (node_1 b svL svS svP n U S W l hS (by have:=Ex.idx_wt (zZ hx);have:=zDc hl;omega)))) ⟨G,O,G,O,T⟩ O) O<|B 35 O (fun g5_7=>kW O O) O<|yQ O (fun h=>h)<|A O<|H<|zQ O<|qJ O ⟨by omega,by omega⟩<|A O<|H ?_
  refine ⟨k+1,(by omega),(by omega),Weak.mk [false,true,true,true,true,true] ⟨G,VLe.of_eq (congrArg vB (by rw [zKd];exact scAll_next hx)),G,G,G,G,T⟩ O⟩
 ·try simp only [I] at c1
  rw [yU (l:=e.Idx) (k:=k) (by omega)]
  refine qQ<|zK<|F O<|A O<|kQ O<|H<|zD O (fun c2=>?_) (fun c2=>?_)
  ·have h9:hC S e=false:=(Bool.not_eq_true' _).mp c2
   refine F O<|A O<|H<|zY _ (Weak.mem [false,true,true,true,true] O)<|o<|X O ?_
   exact ⟨by rw [nodeN_9 h9],O⟩
  ·have h9:hC S e=true:=(Bool.not_eq_false' _).mp c2
   refine zM<|zK<|F O<|zG O wF<|zJ one3 (R 0 O) O<|yM O<|H<|zD O (fun c3=>?_) (fun c3=>?_)
   ·try simp only [I] at c3
    refine F O<|A O<|H<|zY _ (Weak.mem [false,true,true,true,true] O)<|o<|X O ?_
    exact ⟨by rw [nodeN_o h9 c3],O⟩
   ·try simp only [I] at c3
    refine zM<|zK<|kL 12 1 [⟨0,.q []⟩,⟨1,.q []⟩,⟨2,.q []⟩,⟨3,.q [2]⟩,⟨4,.q []⟩,⟨5,.q [1]⟩,⟨6,.q []⟩,⟨7,.q []⟩,⟨8,.q []⟩,⟨9,.q []⟩,⟨10,.e 0 []⟩,⟨11,.e 0 []⟩] mixed (by kernel_rfl) (by kernel_rfl) O O O<|p O<|p O<|p O<|p O<|p O<|p O<|p O<|p O<|p O<|p O<|p O<|p O<|zBo<|t O (by decide) O O (zF O zQx O qA O)<|t O (by decide) O O (qW O O)<|t O (by decide) O O (zE O zQk O)<|t O (by decide) O O (qB O yY O (R 0 O) O)<|t O (by decide) O O (zE O zFu O)<|t O (by decide) O O (zF O one9 O (R 0 O) O)<|t O (by decide) O O (qM O ok101 (zAm n e.Name hn) ⟨G,O,G,O,T⟩)<|t O (by decide) O O (kI O O)<|t O (by decide) O O (wH O O O)<|t O (by decide) O O (wG O O O)<|zHr O O (by decide) O O (qE [none,none,none,none,none,none,some 1,none] O zr65 O) ?_
    rintro _ _ ⟨b4,rfl,rfl⟩
    refine ⟨_,O,?_⟩
    refine zFm O O (by decide) O O (kB O sz65 O O O (zFl 0 O O)) ?_
    rintro _ _ ⟨rfl,rfl⟩
    refine ⟨_,O,?_⟩
    refine zBl O<|A O<|H<|zK<|F O<|A O<|kQ O<|H<|zD O (fun c4=>?_) (fun c4=>?_)
    ·try simp only [I] at c4
     refine F O<|A O<|H<|zY _ (Weak.mem [false,false,true,true,true,true] O)<|o<|X O ?_
     exact ⟨by rw [nodeN_n h9 (by omega) c4],O⟩
    ·try simp only [I] at c4
     refine zM<|zK<|F O<|zG O zMh<|zJ zGy (R 0 O) O<|qC O K<|zG O kX<|zJ wO (R 1 O) O<|qC O d<|yM O<|H<|zD O (fun c5=>?_) (fun c5=>?_)
     ·try simp only [I] at c5
      refine F O<|A O<|H<|zY _ (Weak.mem [false,false,true,true,true,true] O)<|o<|X O ?_
      exact ⟨by rw [nodeN_r h9 (by omega) c4 (by omega)],O⟩
     ·try simp only [I] at c5
      refine zM<|zK<|F O<|zG O kX<|zJ wO (R 1 O) O<|qC O d<|A O<|H<|zR<|zY ⟨[(66,.c _),(2,.c _),(64,.c _),(65,.c _)],[_,_,_,_]⟩ (Weak.mk [false,false,true,true,true,true] ⟨G,G,G,G,T⟩ O)<|qK 1 0 O O (Nat) (fun j=>[(66,vI j)]) (fun j=>[]) (fun j=>j<=e.Idx.length/\(lE n.Bufs e.Idx=lE n.Bufs (e.Idx.drop j))) (fun j=>e.Idx.length-j) ⟨0,⟨by omega,O⟩,Weak.mk [true,true,true,true] ⟨G,G,G,G,T⟩ O⟩ ?_
      rintro j ⟨hk,hq⟩
      refine F O<|yD O<|H<|zK<|zD O (fun c6=>?_) (fun c6=>?_)
      ·try simp only [I] at c6
       obtain ⟨y,hy⟩:=qY e.Idx j (by omega)
       refine zM<|zK<|zR<|F O<|qD O d (by omega) (Q (by assumption))<|zP zIn qA O<|zV O O (qE [none,some 2,none,some 2] O zr72 O) ?_
       rintro _ _ ⟨b5,rfl,rfl⟩
       refine Y 0 sz72 O<|H<|zK<|F O<|zG O zEw<|zJ one9 (R 0 O) O<|zU O (yR O O O)<|H<|zD O (fun c7=>?_) (fun c7=>?_)
       ·try simp only [I] at c7
        refine qQ<|zQ O<|qJ O ⟨by omega,by omega⟩<|A O<|H ?_
        refine ⟨j+1,⟨by omega,hq.trans (zLp hy (by first|exact gathE_0 c7|exact zSl c7 c8 (by omega) (by omega)))⟩,(by omega),Weak.mk [false,true,true,true,true] ⟨G,G,G,G,T⟩ O⟩
       ·try simp only [I] at c7
        refine zM<|zK<|kL 12 1 [⟨0,.q []⟩,⟨1,.q []⟩,⟨2,.q []⟩,⟨3,.q [2]⟩,⟨4,.q []⟩,⟨5,.q [1]⟩,⟨6,.q []⟩,⟨7,.q []⟩,⟨8,.q []⟩,⟨9,.q []⟩,⟨10,.e 0 []⟩,⟨11,.e 0 []⟩] mixed (by kernel_rfl) (by kernel_rfl) O O O<|p O<|p O<|p O<|p O<|p O<|p O<|p O<|p O<|p O<|p O<|p O<|p O<|zBo<|t O (by decide) O O (zF O zQx O qA O)<|t O (by decide) O O (qW O O)<|t O (by decide) O O (zE O zQk O)<|t O (by decide) O O (qB O yY O (R 0 O) O)<|t O (by decide) O O (zE O zEw O)<|t O (by decide) O O (zF O one9 O (R 0 O) O)<|t O (by decide) O O (qM O ok101 (zAm n y.From hn) ⟨G,O,G,O,T⟩)<|t O (by decide) O O (kI O O)<|t O (by decide) O O (wH O O O)<|t O (by decide) O O (wG O O O)<|zHr O O (by decide) O O (qE [none,none,none,none,none,none,some 1,none] O zr65 O) ?_
        rintro _ _ ⟨b6,rfl,rfl⟩
        refine ⟨_,O,?_⟩
        refine zFm O O (by decide) O O (kB O sz65 O O O (zFl 0 O O)) ?_
        rintro _ _ ⟨rfl,rfl⟩
        refine ⟨_,O,?_⟩
        refine zBl O<|A O<|H<|zR<|F O<|A O<|kQ O<|A O<|H<|zD O (fun c8=>?_) (fun c8=>?_)
        ·try simp only [I] at c8
         refine F O<|A O<|H<|zY _ (Weak.mem [false,false,true,true,true,true] O)<|o<|X O ?_
         exact ⟨by rw [zKe h9 (by omega) c4 (by omega),hq,zLo hy (by rw [gathE_9 c7 c8];decide),gathE_9 c7 c8],O⟩
        ·try simp only [I] at c8
         refine F O<|zG O zKm<|zG O zHh<|zJ one3 (R 0 O) O<|yM O<|A O<|H<|zD O (fun c9=>?_) (fun c9=>?_)
         ·try simp only [I] at c9
          refine F O<|A O<|H<|zY _ (Weak.mem [false,false,true,true,true,true] O)<|o<|X O ?_
          exact ⟨by rw [zKe h9 (by omega) c4 (by omega),hq,zLo hy (by rw [zSn c7 c8 c9];decide),zSn c7 c8 c9],O⟩
         ·try simp only [I] at c9
          refine F O<|zG O zMh<|zJ zGy (R 0 O) O<|qC O K<|zG O zAr<|zJ zDw (R 1 O) O<|qC O el70<|yM O<|A O<|H<|zD O (fun c10=>?_) (fun c10=>?_)
          ·try simp only [I] at c10
           refine F O<|A O<|H<|zY _ (Weak.mem [false,false,true,true,true,true] O)<|o<|X O ?_
           exact ⟨by rw [zKe h9 (by omega) c4 (by omega),hq,zLo hy (by rw [zSm c7 c8 c9 (by omega)];decide),zSm c7 c8 c9 (by omega)],O⟩
          ·try simp only [I] at c10
           refine zM<|zQ O<|qJ O ⟨by omega,by omega⟩<|A O<|H ?_
           refine ⟨j+1,⟨by omega,hq.trans (zLp hy (by first|exact gathE_0 c7|exact zSl c7 c8 (by omega) (by omega)))⟩,(by omega),Weak.mk [false,false,true,true,true,true] ⟨G,G,G,G,T⟩ O⟩
      ·try simp only [I] at c6
       refine qQ<|F O<|A O<|H<|o<|X O ?_
       exact ⟨by rw [zKe h9 (by omega) c4 (by omega),hq,yW (by omega)];rfl,O⟩
theorem ck_typeOf_step (b:Nat) (svL svS svP:Value) (n:Ns) (U S:List ByteArray) (W:List Int) (hn:n.Ok) (e:Ex) (ih:∀a,a∈e.Args->fZ a=0->a.wt<=1073741824->Con cfg 190 [vP b,vE a] (ckN b svL svS svP n U S W) fun r μ'=>r=.tup [vTy (dT (tyF n.Bufs) a).1,vI (dT (tyF n.Bufs) a).2]/\μ'=ckN b svL svS svP n U S W) (hpart:fZ e=0) (he:e.wt<=1073741824):
    Con cfg 190 [vP b,vE e] (ckN b svL svS svP n U S W) fun r μ'=>r=.tup [vTy (dT (tyF n.Bufs) e).1,vI (dT (tyF n.Bufs) e).2]/\μ'=ckN b svL svS svP n U S W:=by
 refine Con.drop<|zT Tryz.func190 O Tryz.ntmps190 Tryz.results190 O ?_
 intro z hz
 obtain ⟨hLl,hIl,hAl⟩:=e.parts he
 have hwt:=Ex.wt_eq e
 refine F O<|zV O O (qN O O) ?_
 rintro _ _ ⟨b1,rfl,rfl⟩
 refine zV O O (yT O m) ?_
 rintro _ _ ⟨b2,rfl,rfl⟩
 refine A O<|H<|F O<|A O<|yI _ (kR 38 5)<|H<|zK<|F O<|zG O wL<|zJ zBa (R 2 O) O<|qC O g<|A O<|H<|zR<|zY ⟨[(16,.c _),(6,.c _),(0,.c _),(3,.c _),(4,.c _),(14,.c _),(15,.c _)],[_,_,_,_,_,_,_]⟩ (Weak.mk [true,true,true,true,true,true,true] ⟨G,G,G,G,G,G,G,T⟩ O)<|qK 2 1 O O (Nat×Value) (fun ⟨k,sv⟩=>[(16,vI k),(6,.c (.lit sv))]) (fun ⟨k,sv⟩=>[E.vec sv 38 5 ((bT (tyF n.Bufs) (e.Args.take k)).1.map tyC)]) (fun ⟨k,sv⟩=>k<=e.Args.length/\((bT (tyF n.Bufs) (e.Args.take k)).2=0)) (fun ⟨k,sv⟩=>e.Args.length-k) ⟨⟨0,(.slice none 0 0)⟩,⟨by omega,O⟩,Weak.mk [true,true,true,true,true,true,true] ⟨G,G,G,G,G,G,G,T⟩ O⟩ ?_
 rintro ⟨k,sv⟩ ⟨hk,hp⟩
 show AWP _ _ _ _ _ ⟨[(16,vI k),(6,.c (.lit sv))]++_,[E.vec sv 38 5 ((bT (tyF n.Bufs) (e.Args.take k)).1.map tyC)]++_⟩
 refine F O<|yD O<|H<|zK<|zD O (fun c1=>?_) (fun c1=>?_)
 ·try simp only [I] at c1
  obtain ⟨x,hx⟩:=qY e.Args k (by omega)
  have hll:=zGz _ _ hp
  refine zM<|zK<|zR<|F O<|qD O g (by omega) (zEn (by assumption))<|zP kA qA O<|zV O O (qE [none,none,none,none,none,none,none,none,none,none,some 2,some 4,some 13] O zr44 O) ?_
  rintro _ _ ⟨b4,rfl,rfl⟩
  refine Y 0 sz44 O<|H<|F O<|A O<|zP kA (R 0 O) O<|zU O (kH [4,4,4,4] O ok190 (ih x (zZ hx) (zUv hpart (zZ hx)) (by have:=Ex.arg_wt (zZ hx);omega)) ⟨G,O,G,O,T⟩ O)<|qP O<|yJ O<|qU O<|zV O O (yT O m) ?_
  rintro _ _ ⟨b5,rfl,rfl⟩
  refine Y 0 L O<|A O<|H<|zK<|F O<|A O<|yM O<|H<|zD O (fun c2=>?_) (fun c2=>?_)
  ·try simp only [I] at c2
   refine F O<|zP yN (R 0 O) O<|A O<|Y 3 L O<|A O<|H<|zY _ (Weak.mem [false,false,false,true,false,true,true,true,true] O)<|o<|w (y yN O (R 0 O) O) (J O) ?_
   exact ⟨by rw [nodeT_no hx hp c2,nodeT_zero c2];rfl,[_],O⟩
  ·try simp only [I] at c2
   refine zM<|zQ O<|A O<|zP yN (R 0 O) O<|yV O zAo m<|zV O O (qV 2 O zAo O O O (by simp only [List.length_map,List.length_cons,List.length_nil,hll,List.length_take];omega) (by simp only [List.length_map,List.length_cons,List.length_nil,hll,List.length_take];omega)) ?_
   rintro _ _ ⟨sv6,rfl,rfl⟩
   refine A O<|H<|zQ O<|qJ O ⟨by omega,by omega⟩<|A O<|H ?_
   refine ⟨⟨k+1,sv6⟩,⟨by omega,by rw [zFf hx hp c2]⟩,(by show e.Args.length-(k+1)<e.Args.length-k;omega),Weak.mk [false,false,true,true,true,true,true,true,true] ⟨G,G,G,G,G,G,G,T⟩ (by show _=[E.vec sv6 _ 5 ((bT (tyF n.Bufs) (e.Args.take (k+1))).1.map tyC)]++_;rw [zFf hx hp c2];simp only [List.map_append];rfl)⟩
 ·try simp only [I] at c1
  have hll:=zGz _ _ hp
  have hta:e.Args.take k=e.Args:=yU (by omega)
  rw [hta] at hll
  have hg:∀i,i<e.Args.length->((bT (tyF n.Bufs) (e.Args.take k)).1.map tyC)[i]? =some (tyC (dV (bT (tyF n.Bufs) (e.Args.take k)).1 i)):=fun i hi=>zLf (by rw [hta];omega)
  have hgn:∀i:Nat,1<=i->i<=e.Args.length->∀j:Int,j=(((bT (tyF n.Bufs) (e.Args.take k)).1.length:Int)-i)->((bT (tyF n.Bufs) (e.Args.take k)).1.map tyC)[j.toNat]? =some (tyC (dV (bT (tyF n.Bufs) (e.Args.take k)).1 ((bT (tyF n.Bufs) (e.Args.take k)).1.length-i))):=fun i h1 h2 j hj=>by rw [hta] at *;rw [show j.toNat=(bT (tyF n.Bufs) e.Args).1.length-i by omega];exact zLf (by omega)
  have hT:dT (tyF n.Bufs) e=tyF n.Bufs e (bT (tyF n.Bufs) (e.Args.take k)).1:=nodeT_ok hta hp
  have hlk:(bT (tyF n.Bufs) (e.Args.take k)).1.length=e.Args.length:=by rw [hta];exact hll
  refine qQ<|zK<|F O<|zG O wF<|zJ one3 (R 2 O) O<|H<|zR<|zK<|F O<|yF O<|A O<|H<|zD O (fun c3=>?_) (fun c3=>?_)
  ·try simp only [I] at c3
   refine zM<|zD O (fun c4=>?_) (fun c4=>?_)
   ·try simp only [I] at c4
    refine F O<|zG O zFt<|zP yN (R 2 O) O<|Y 1 L O<|A O<|H<|zY _ (Weak.mem [false,true,false,true,true,true,true] O)<|o<|w (y yN O (R 0 O) O) (J O) ?_
    exact ⟨by rw [hT];first|(rw [zCd (by omega)];rfl)|(rw [zCk (by omega)];rfl)|(rw [zCc (by omega)];rfl)|(rw [zCj (by omega)];rfl)|(rw [wZ (by omega)];rfl)|(rw [zAa ho h10];rfl)|(rw [zCi ho h10 c12];rfl)|(rw [zCb ho h10 c12];rfl),[_],O⟩
   ·try simp only [I] at c4
    refine F O<|yF O<|A O<|H<|zD O (fun c5=>?_) (fun c5=>?_)
    ·try simp only [I] at c5
     refine F O<|yP O m pl38<|Y 1 L O<|A O<|H<|zY _ (Weak.mem [false,true,false,true,true,true,true] O)<|o<|w (y yN O (R 0 O) O) (J O) ?_
     exact ⟨by rw [hT];first|(rw [zCd (by omega)];rfl)|(rw [zCk (by omega)];rfl)|(rw [zCc (by omega)];rfl)|(rw [zCj (by omega)];rfl)|(rw [wZ (by omega)];rfl)|(rw [zAa ho h10];rfl)|(rw [zCi ho h10 c12];rfl)|(rw [zCb ho h10 c12];rfl),[_],O⟩
    ·try simp only [I] at c5
     refine F O<|yF O<|A O<|H<|zD O (fun c6=>?_) (fun c6=>?_)
     ·try simp only [I] at c6
      refine zK<|kL 12 1 [⟨0,.q []⟩,⟨1,.q []⟩,⟨2,.q []⟩,⟨3,.q [4]⟩,⟨4,.q []⟩,⟨5,.q [3]⟩,⟨6,.q []⟩,⟨7,.q []⟩,⟨8,.q []⟩,⟨9,.q []⟩,⟨10,.e 0 []⟩,⟨11,.e 0 []⟩] mixed (by kernel_rfl) (by kernel_rfl) O O O<|p O<|p O<|p O<|p O<|p O<|p O<|p O<|p O<|p O<|p O<|p O<|p O<|zBo<|t O (by decide) O O (zN O O)<|t O (by decide) O O (qW O O)<|t O (by decide) O O (zE O zQk O)<|t O (by decide) O O (qB O yY O (R 0 O) O)<|t O (by decide) O O (zE O zFu O)<|t O (by decide) O O (zF O one9 O (R 0 O) O)<|t O (by decide) O O (qM O ok101 (zAm n e.Name hn) ⟨G,O,G,O,T⟩)<|t O (by decide) O O (kI O O)<|t O (by decide) O O (wH O O O)<|t O (by decide) O O (wG O O O)<|zHr O O (by decide) O O (qE [none,none,none,none,none,none,some 1,none] O zr65 O) ?_
      rintro _ _ ⟨b7,rfl,rfl⟩
      refine ⟨_,O,?_⟩
      refine zFm O O (by decide) O O (kB O sz65 O O O (zFl 0 O O)) ?_
      rintro _ _ ⟨rfl,rfl⟩
      refine ⟨_,O,?_⟩
      refine zBl O<|A O<|H<|F O<|zG O zKm<|zP yN (R 0 O) O<|Y 2 L O<|A O<|H<|zY _ (Weak.mem [false,false,true,false,true,true,true,true] O)<|o<|w (y yN O (R 0 O) O) (J O) ?_
      exact ⟨by rw [hT];first|(rw [zCd (by omega)];rfl)|(rw [zCk (by omega)];rfl)|(rw [zCc (by omega)];rfl)|(rw [zCj (by omega)];rfl)|(rw [wZ (by omega)];rfl)|(rw [zAa ho h10];rfl)|(rw [zCi ho h10 c12];rfl)|(rw [zCb ho h10 c12];rfl),[_],O⟩
     ·try simp only [I] at c6
      refine F O<|yF O<|A O<|H<|zD O (fun c7=>?_) (fun c7=>?_)
      ·try simp only [I] at c7
       have hlen1:=args_len hpart (by omega)
       refine F O<|A O<|zU O (qS 0 O zAo O O O (by omega) (by simp only [List.length_map];omega))<|zP yN (wV 0 O (hg 0 (by omega))) O<|Y 1 L O<|A O<|H<|zY _ (Weak.mem [false,true,false,true,true,true,true] O)<|o<|w (y yN O (R 0 O) O) (J O) ?_
       exact ⟨by rw [hT];first|(rw [zCd (by omega)];rfl)|(rw [zCk (by omega)];rfl)|(rw [zCc (by omega)];rfl)|(rw [zCj (by omega)];rfl)|(rw [wZ (by omega)];rfl)|(rw [zAa ho h10];rfl)|(rw [zCi ho h10 c12];rfl)|(rw [zCb ho h10 c12];rfl),[_],O⟩
      ·try simp only [I] at c7
       refine zK<|F O<|yF O<|A O<|H<|zD O (fun c8=>?_) (fun c8=>?_)
       ·try simp only [I] at c8
        refine zM<|zD O (fun c10=>?_) (fun c10=>?_)
        ·try simp only [I] at c10
         refine F O<|yP O m pl38<|Y 1 L O<|A O<|H<|zY _ (Weak.mem [false,true,false,true,true,true,true] O)<|o<|w (y yN O (R 0 O) O) (J O) ?_
         exact ⟨by rw [hT];first|(rw [zCd (by omega)];rfl)|(rw [zCk (by omega)];rfl)|(rw [zCc (by omega)];rfl)|(rw [zCj (by omega)];rfl)|(rw [wZ (by omega)];rfl)|(rw [zAa ho h10];rfl)|(rw [zCi ho h10 c12];rfl)|(rw [zCb ho h10 c12];rfl),[_],O⟩
        ·try simp only [I] at c10
         have hlen2:=zHl hpart (by omega)
         have ho:¬jC e.Op:=by unfold jC;omega
         refine zM<|zK<|zK<|qZ 13 mixed (by kernel_rfl) O O<|M O O (zN O O)<|M O O (zN O O)<|M O O (kJ 0 O zAo O O)<|M O O (yE O O O (by simp only [List.length_map];exact ⟨by omega,by omega⟩))<|M O O (qS 0 O zAo O O O (by simp only [List.length_map];omega) (by simp only [List.length_map];omega))<|M O O (qB O yN O (wV 0 O (hgn 2 (by omega) (by omega) _ (by simp only [List.length_map];rfl))) O)<|M O O (zN O O)<|M O O (zN O O)<|M O O (kJ 0 O zAo O O)<|M O O (yE O O O (by simp only [List.length_map];exact ⟨by omega,by omega⟩))<|M O O (qS 0 O zAo O O O (by simp only [List.length_map];omega) (by simp only [List.length_map];omega))<|M O O (qB O yN O (wV 0 O (hgn 1 (by omega) (by omega) _ (by simp only [List.length_map];rfl))) O)<|M O O (zBk O fl38 O O O)<|kE<|H<|zD O (fun c11=>?_) (fun c11=>?_)
         ·have h10:=zHn c11
          refine F O<|yP O m pl38<|Y 1 L O<|A O<|H<|zY _ (Weak.mem [false,true,false,true,true,true,true] O)<|o<|w (y yN O (R 0 O) O) (J O) ?_
          exact ⟨by rw [hT];first|(rw [zCd (by omega)];rfl)|(rw [zCk (by omega)];rfl)|(rw [zCc (by omega)];rfl)|(rw [zCj (by omega)];rfl)|(rw [wZ (by omega)];rfl)|(rw [zAa ho h10];rfl)|(rw [zCi ho h10 c12];rfl)|(rw [zCb ho h10 c12];rfl),[_],O⟩
         ·have h10:=zHo c11
          refine zM<|zK<|F O<|zP kA (R 2 O) O<|qI O ok166 (wJ e) ⟨G,O,T⟩<|H<|zD O (fun c12=>?_) (fun c12=>?_)
          ·try simp only [I] at c12
           refine F O<|yP O m pl38<|Y 1 L O<|A O<|H<|zY _ (Weak.mem [false,true,false,true,true,true,true] O)<|o<|w (y yN O (R 0 O) O) (J O) ?_
           exact ⟨by rw [hT];first|(rw [zCd (by omega)];rfl)|(rw [zCk (by omega)];rfl)|(rw [zCc (by omega)];rfl)|(rw [zCj (by omega)];rfl)|(rw [wZ (by omega)];rfl)|(rw [zAa ho h10];rfl)|(rw [zCi ho h10 c12];rfl)|(rw [zCb ho h10 c12];rfl),[_],O⟩
          ·try simp only [I] at c12
           refine zM<|F O<|A O<|A O<|zU O (kJ 0 O zAo O O)<|zU O (yE O O O (by simp only [List.length_map];exact ⟨by omega,by omega⟩))<|zU O (qS 0 O zAo O O O (by simp only [List.length_map];omega) (by simp only [List.length_map];omega))<|zP yN (wV 0 O (hgn 1 (by omega) (by omega) _ (by simp only [List.length_map];rfl))) O<|Y 1 L O<|A O<|H<|zY _ (Weak.mem [false,true,false,true,true,true,true] O)<|o<|w (y yN O (R 0 O) O) (J O) ?_
           exact ⟨by rw [hT];first|(rw [zCd (by omega)];rfl)|(rw [zCk (by omega)];rfl)|(rw [zCc (by omega)];rfl)|(rw [zCj (by omega)];rfl)|(rw [wZ (by omega)];rfl)|(rw [zAa ho h10];rfl)|(rw [zCi ho h10 c12];rfl)|(rw [zCb ho h10 c12];rfl),[_],O⟩
       ·try simp only [I] at c8
        refine F O<|yF O<|A O<|H<|zD O (fun c9=>?_) (fun c9=>?_)
        ·try simp only [I] at c9
         refine zM<|zD O (fun c10=>?_) (fun c10=>?_)
         ·try simp only [I] at c10
          refine F O<|yP O m pl38<|Y 1 L O<|A O<|H<|zY _ (Weak.mem [false,true,false,true,true,true,true] O)<|o<|w (y yN O (R 0 O) O) (J O) ?_
          exact ⟨by rw [hT];first|(rw [zCd (by omega)];rfl)|(rw [zCk (by omega)];rfl)|(rw [zCc (by omega)];rfl)|(rw [zCj (by omega)];rfl)|(rw [wZ (by omega)];rfl)|(rw [zAa ho h10];rfl)|(rw [zCi ho h10 c12];rfl)|(rw [zCb ho h10 c12];rfl),[_],O⟩
         ·try simp only [I] at c10
          have hlen2:=zHl hpart (by omega)
          have ho:¬jC e.Op:=by unfold jC;omega
          refine zM<|zK<|zK<|qZ 13 mixed (by kernel_rfl) O O<|M O O (zN O O)<|M O O (zN O O)<|M O O (kJ 0 O zAo O O)<|M O O (yE O O O (by simp only [List.length_map];exact ⟨by omega,by omega⟩))<|M O O (qS 0 O zAo O O O (by simp only [List.length_map];omega) (by simp only [List.length_map];omega))<|M O O (qB O yN O (wV 0 O (hgn 2 (by omega) (by omega) _ (by simp only [List.length_map];rfl))) O)<|M O O (zN O O)<|M O O (zN O O)<|M O O (kJ 0 O zAo O O)<|M O O (yE O O O (by simp only [List.length_map];exact ⟨by omega,by omega⟩))<|M O O (qS 0 O zAo O O O (by simp only [List.length_map];omega) (by simp only [List.length_map];omega))<|M O O (qB O yN O (wV 0 O (hgn 1 (by omega) (by omega) _ (by simp only [List.length_map];rfl))) O)<|M O O (zBk O fl38 O O O)<|kE<|H<|zD O (fun c11=>?_) (fun c11=>?_)
          ·have h10:=zHn c11
           refine F O<|yP O m pl38<|Y 1 L O<|A O<|H<|zY _ (Weak.mem [false,true,false,true,true,true,true] O)<|o<|w (y yN O (R 0 O) O) (J O) ?_
           exact ⟨by rw [hT];first|(rw [zCd (by omega)];rfl)|(rw [zCk (by omega)];rfl)|(rw [zCc (by omega)];rfl)|(rw [zCj (by omega)];rfl)|(rw [wZ (by omega)];rfl)|(rw [zAa ho h10];rfl)|(rw [zCi ho h10 c12];rfl)|(rw [zCb ho h10 c12];rfl),[_],O⟩
          ·have h10:=zHo c11
           refine zM<|zK<|F O<|zP kA (R 2 O) O<|qI O ok166 (wJ e) ⟨G,O,T⟩<|H<|zD O (fun c12=>?_) (fun c12=>?_)
           ·try simp only [I] at c12
            refine F O<|yP O m pl38<|Y 1 L O<|A O<|H<|zY _ (Weak.mem [false,true,false,true,true,true,true] O)<|o<|w (y yN O (R 0 O) O) (J O) ?_
            exact ⟨by rw [hT];first|(rw [zCd (by omega)];rfl)|(rw [zCk (by omega)];rfl)|(rw [zCc (by omega)];rfl)|(rw [zCj (by omega)];rfl)|(rw [wZ (by omega)];rfl)|(rw [zAa ho h10];rfl)|(rw [zCi ho h10 c12];rfl)|(rw [zCb ho h10 c12];rfl),[_],O⟩
           ·try simp only [I] at c12
            refine zM<|F O<|A O<|A O<|zU O (kJ 0 O zAo O O)<|zU O (yE O O O (by simp only [List.length_map];exact ⟨by omega,by omega⟩))<|zU O (qS 0 O zAo O O O (by simp only [List.length_map];omega) (by simp only [List.length_map];omega))<|zP yN (wV 0 O (hgn 1 (by omega) (by omega) _ (by simp only [List.length_map];rfl))) O<|Y 1 L O<|A O<|H<|zY _ (Weak.mem [false,true,false,true,true,true,true] O)<|o<|w (y yN O (R 0 O) O) (J O) ?_
            exact ⟨by rw [hT];first|(rw [zCd (by omega)];rfl)|(rw [zCk (by omega)];rfl)|(rw [zCc (by omega)];rfl)|(rw [zCj (by omega)];rfl)|(rw [wZ (by omega)];rfl)|(rw [zAa ho h10];rfl)|(rw [zCi ho h10 c12];rfl)|(rw [zCb ho h10 c12];rfl),[_],O⟩
        ·try simp only [I] at c9
         refine zQ O<|yF O<|A O<|H<|zD O (fun c10=>?_) (fun c10=>?_)
         ·try simp only [I] at c10
          refine F O<|yP O m pl38<|Y 1 L O<|A O<|H<|zY _ (Weak.mem [false,true,false,true,true,true,true] O)<|o<|w (y yN O (R 0 O) O) (J O) ?_
          exact ⟨by rw [hT];first|(rw [zCd (by omega)];rfl)|(rw [zCk (by omega)];rfl)|(rw [zCc (by omega)];rfl)|(rw [zCj (by omega)];rfl)|(rw [wZ (by omega)];rfl)|(rw [zAa ho h10];rfl)|(rw [zCi ho h10 c12];rfl)|(rw [zCb ho h10 c12];rfl),[_],O⟩
         ·try simp only [I] at c10
          have hlen2:=zHl hpart (by omega)
          have ho:¬jC e.Op:=by unfold jC;omega
          refine zM<|zK<|zK<|qZ 13 mixed (by kernel_rfl) O O<|M O O (zN O O)<|M O O (zN O O)<|M O O (kJ 0 O zAo O O)<|M O O (yE O O O (by simp only [List.length_map];exact ⟨by omega,by omega⟩))<|M O O (qS 0 O zAo O O O (by simp only [List.length_map];omega) (by simp only [List.length_map];omega))<|M O O (qB O yN O (wV 0 O (hgn 2 (by omega) (by omega) _ (by simp only [List.length_map];rfl))) O)<|M O O (zN O O)<|M O O (zN O O)<|M O O (kJ 0 O zAo O O)<|M O O (yE O O O (by simp only [List.length_map];exact ⟨by omega,by omega⟩))<|M O O (qS 0 O zAo O O O (by simp only [List.length_map];omega) (by simp only [List.length_map];omega))<|M O O (qB O yN O (wV 0 O (hgn 1 (by omega) (by omega) _ (by simp only [List.length_map];rfl))) O)<|M O O (zBk O fl38 O O O)<|kE<|H<|zD O (fun c11=>?_) (fun c11=>?_)
          ·have h10:=zHn c11
           refine F O<|yP O m pl38<|Y 1 L O<|A O<|H<|zY _ (Weak.mem [false,true,false,true,true,true,true] O)<|o<|w (y yN O (R 0 O) O) (J O) ?_
           exact ⟨by rw [hT];first|(rw [zCd (by omega)];rfl)|(rw [zCk (by omega)];rfl)|(rw [zCc (by omega)];rfl)|(rw [zCj (by omega)];rfl)|(rw [wZ (by omega)];rfl)|(rw [zAa ho h10];rfl)|(rw [zCi ho h10 c12];rfl)|(rw [zCb ho h10 c12];rfl),[_],O⟩
          ·have h10:=zHo c11
           refine zM<|zK<|F O<|zP kA (R 2 O) O<|qI O ok166 (wJ e) ⟨G,O,T⟩<|H<|zD O (fun c12=>?_) (fun c12=>?_)
           ·try simp only [I] at c12
            refine F O<|yP O m pl38<|Y 1 L O<|A O<|H<|zY _ (Weak.mem [false,true,false,true,true,true,true] O)<|o<|w (y yN O (R 0 O) O) (J O) ?_
            exact ⟨by rw [hT];first|(rw [zCd (by omega)];rfl)|(rw [zCk (by omega)];rfl)|(rw [zCc (by omega)];rfl)|(rw [zCj (by omega)];rfl)|(rw [wZ (by omega)];rfl)|(rw [zAa ho h10];rfl)|(rw [zCi ho h10 c12];rfl)|(rw [zCb ho h10 c12];rfl),[_],O⟩
           ·try simp only [I] at c12
            refine zM<|F O<|A O<|A O<|zU O (kJ 0 O zAo O O)<|zU O (yE O O O (by simp only [List.length_map];exact ⟨by omega,by omega⟩))<|zU O (qS 0 O zAo O O O (by simp only [List.length_map];omega) (by simp only [List.length_map];omega))<|zP yN (wV 0 O (hgn 1 (by omega) (by omega) _ (by simp only [List.length_map];rfl))) O<|Y 1 L O<|A O<|H<|zY _ (Weak.mem [false,true,false,true,true,true,true] O)<|o<|w (y yN O (R 0 O) O) (J O) ?_
            exact ⟨by rw [hT];first|(rw [zCd (by omega)];rfl)|(rw [zCk (by omega)];rfl)|(rw [zCc (by omega)];rfl)|(rw [zCj (by omega)];rfl)|(rw [wZ (by omega)];rfl)|(rw [zAa ho h10];rfl)|(rw [zCi ho h10 c12];rfl)|(rw [zCb ho h10 c12];rfl),[_],O⟩
  ·try simp only [I] at c3
   refine zQ O<|yF O<|A O<|H<|zD O (fun c4=>?_) (fun c4=>?_)
   ·try simp only [I] at c4
    refine F O<|zG O zFt<|zP yN (R 2 O) O<|Y 1 L O<|A O<|H<|zY _ (Weak.mem [false,true,false,true,true,true,true] O)<|o<|w (y yN O (R 0 O) O) (J O) ?_
    exact ⟨by rw [hT];first|(rw [zCd (by omega)];rfl)|(rw [zCk (by omega)];rfl)|(rw [zCc (by omega)];rfl)|(rw [zCj (by omega)];rfl)|(rw [wZ (by omega)];rfl)|(rw [zAa ho h10];rfl)|(rw [zCi ho h10 c12];rfl)|(rw [zCb ho h10 c12];rfl),[_],O⟩
   ·try simp only [I] at c4
    refine F O<|yF O<|A O<|H<|zD O (fun c5=>?_) (fun c5=>?_)
    ·try simp only [I] at c5
     refine F O<|yP O m pl38<|Y 1 L O<|A O<|H<|zY _ (Weak.mem [false,true,false,true,true,true,true] O)<|o<|w (y yN O (R 0 O) O) (J O) ?_
     exact ⟨by rw [hT];first|(rw [zCd (by omega)];rfl)|(rw [zCk (by omega)];rfl)|(rw [zCc (by omega)];rfl)|(rw [zCj (by omega)];rfl)|(rw [wZ (by omega)];rfl)|(rw [zAa ho h10];rfl)|(rw [zCi ho h10 c12];rfl)|(rw [zCb ho h10 c12];rfl),[_],O⟩
    ·try simp only [I] at c5
     refine F O<|yF O<|A O<|H<|zD O (fun c6=>?_) (fun c6=>?_)
     ·try simp only [I] at c6
      refine zK<|kL 12 1 [⟨0,.q []⟩,⟨1,.q []⟩,⟨2,.q []⟩,⟨3,.q [4]⟩,⟨4,.q []⟩,⟨5,.q [3]⟩,⟨6,.q []⟩,⟨7,.q []⟩,⟨8,.q []⟩,⟨9,.q []⟩,⟨10,.e 0 []⟩,⟨11,.e 0 []⟩] mixed (by kernel_rfl) (by kernel_rfl) O O O<|p O<|p O<|p O<|p O<|p O<|p O<|p O<|p O<|p O<|p O<|p O<|p O<|zBo<|t O (by decide) O O (zN O O)<|t O (by decide) O O (qW O O)<|t O (by decide) O O (zE O zQk O)<|t O (by decide) O O (qB O yY O (R 0 O) O)<|t O (by decide) O O (zE O zFu O)<|t O (by decide) O O (zF O one9 O (R 0 O) O)<|t O (by decide) O O (qM O ok101 (zAm n e.Name hn) ⟨G,O,G,O,T⟩)<|t O (by decide) O O (kI O O)<|t O (by decide) O O (wH O O O)<|t O (by decide) O O (wG O O O)<|zHr O O (by decide) O O (qE [none,none,none,none,none,none,some 1,none] O zr65 O) ?_
      rintro _ _ ⟨b8,rfl,rfl⟩
      refine ⟨_,O,?_⟩
      refine zFm O O (by decide) O O (kB O sz65 O O O (zFl 0 O O)) ?_
      rintro _ _ ⟨rfl,rfl⟩
      refine ⟨_,O,?_⟩
      refine zBl O<|A O<|H<|F O<|zG O zKm<|zP yN (R 0 O) O<|Y 2 L O<|A O<|H<|zY _ (Weak.mem [false,false,true,false,true,true,true,true] O)<|o<|w (y yN O (R 0 O) O) (J O) ?_
      exact ⟨by rw [hT];first|(rw [zCd (by omega)];rfl)|(rw [zCk (by omega)];rfl)|(rw [zCc (by omega)];rfl)|(rw [zCj (by omega)];rfl)|(rw [wZ (by omega)];rfl)|(rw [zAa ho h10];rfl)|(rw [zCi ho h10 c12];rfl)|(rw [zCb ho h10 c12];rfl),[_],O⟩
     ·try simp only [I] at c6
      refine F O<|yF O<|A O<|H<|zD O (fun c7=>?_) (fun c7=>?_)
      ·try simp only [I] at c7
       have hlen1:=args_len hpart (by omega)
       refine F O<|A O<|zU O (qS 0 O zAo O O O (by omega) (by simp only [List.length_map];omega))<|zP yN (wV 0 O (hg 0 (by omega))) O<|Y 1 L O<|A O<|H<|zY _ (Weak.mem [false,true,false,true,true,true,true] O)<|o<|w (y yN O (R 0 O) O) (J O) ?_
       exact ⟨by rw [hT];first|(rw [zCd (by omega)];rfl)|(rw [zCk (by omega)];rfl)|(rw [zCc (by omega)];rfl)|(rw [zCj (by omega)];rfl)|(rw [wZ (by omega)];rfl)|(rw [zAa ho h10];rfl)|(rw [zCi ho h10 c12];rfl)|(rw [zCb ho h10 c12];rfl),[_],O⟩
      ·try simp only [I] at c7
       refine zK<|F O<|yF O<|A O<|H<|zD O (fun c8=>?_) (fun c8=>?_)
       ·try simp only [I] at c8
        refine zM<|zD O (fun c10=>?_) (fun c10=>?_)
        ·try simp only [I] at c10
         refine F O<|yP O m pl38<|Y 1 L O<|A O<|H<|zY _ (Weak.mem [false,true,false,true,true,true,true] O)<|o<|w (y yN O (R 0 O) O) (J O) ?_
         exact ⟨by rw [hT];first|(rw [zCd (by omega)];rfl)|(rw [zCk (by omega)];rfl)|(rw [zCc (by omega)];rfl)|(rw [zCj (by omega)];rfl)|(rw [wZ (by omega)];rfl)|(rw [zAa ho h10];rfl)|(rw [zCi ho h10 c12];rfl)|(rw [zCb ho h10 c12];rfl),[_],O⟩
        ·try simp only [I] at c10
         have hlen2:=zHl hpart (by omega)
         have ho:¬jC e.Op:=by unfold jC;omega
         refine zM<|zK<|zK<|qZ 13 mixed (by kernel_rfl) O O<|M O O (zN O O)<|M O O (zN O O)<|M O O (kJ 0 O zAo O O)<|M O O (yE O O O (by simp only [List.length_map];exact ⟨by omega,by omega⟩))<|M O O (qS 0 O zAo O O O (by simp only [List.length_map];omega) (by simp only [List.length_map];omega))<|M O O (qB O yN O (wV 0 O (hgn 2 (by omega) (by omega) _ (by simp only [List.length_map];rfl))) O)<|M O O (zN O O)<|M O O (zN O O)<|M O O (kJ 0 O zAo O O)<|M O O (yE O O O (by simp only [List.length_map];exact ⟨by omega,by omega⟩))<|M O O (qS 0 O zAo O O O (by simp only [List.length_map];omega) (by simp only [List.length_map];omega))<|M O O (qB O yN O (wV 0 O (hgn 1 (by omega) (by omega) _ (by simp only [List.length_map];rfl))) O)<|M O O (zBk O fl38 O O O)<|kE<|H<|zD O (fun c11=>?_) (fun c11=>?_)
         ·have h10:=zHn c11
          refine F O<|yP O m pl38<|Y 1 L O<|A O<|H<|zY _ (Weak.mem [false,true,false,true,true,true,true] O)<|o<|w (y yN O (R 0 O) O) (J O) ?_
          exact ⟨by rw [hT];first|(rw [zCd (by omega)];rfl)|(rw [zCk (by omega)];rfl)|(rw [zCc (by omega)];rfl)|(rw [zCj (by omega)];rfl)|(rw [wZ (by omega)];rfl)|(rw [zAa ho h10];rfl)|(rw [zCi ho h10 c12];rfl)|(rw [zCb ho h10 c12];rfl),[_],O⟩
         ·have h10:=zHo c11
          refine zM<|zK<|F O<|zP kA (R 2 O) O<|qI O ok166 (wJ e) ⟨G,O,T⟩<|H<|zD O (fun c12=>?_) (fun c12=>?_)
          ·try simp only [I] at c12
           refine F O<|yP O m pl38<|Y 1 L O<|A O<|H<|zY _ (Weak.mem [false,true,false,true,true,true,true] O)<|o<|w (y yN O (R 0 O) O) (J O) ?_
           exact ⟨by rw [hT];first|(rw [zCd (by omega)];rfl)|(rw [zCk (by omega)];rfl)|(rw [zCc (by omega)];rfl)|(rw [zCj (by omega)];rfl)|(rw [wZ (by omega)];rfl)|(rw [zAa ho h10];rfl)|(rw [zCi ho h10 c12];rfl)|(rw [zCb ho h10 c12];rfl),[_],O⟩
          ·try simp only [I] at c12
           refine zM<|F O<|A O<|A O<|zU O (kJ 0 O zAo O O)<|zU O (yE O O O (by simp only [List.length_map];exact ⟨by omega,by omega⟩))<|zU O (qS 0 O zAo O O O (by simp only [List.length_map];omega) (by simp only [List.length_map];omega))<|zP yN (wV 0 O (hgn 1 (by omega) (by omega) _ (by simp only [List.length_map];rfl))) O<|Y 1 L O<|A O<|H<|zY _ (Weak.mem [false,true,false,true,true,true,true] O)<|o<|w (y yN O (R 0 O) O) (J O) ?_
           exact ⟨by rw [hT];first|(rw [zCd (by omega)];rfl)|(rw [zCk (by omega)];rfl)|(rw [zCc (by omega)];rfl)|(rw [zCj (by omega)];rfl)|(rw [wZ (by omega)];rfl)|(rw [zAa ho h10];rfl)|(rw [zCi ho h10 c12];rfl)|(rw [zCb ho h10 c12];rfl),[_],O⟩
       ·try simp only [I] at c8
        refine F O<|yF O<|A O<|H<|zD O (fun c9=>?_) (fun c9=>?_)
        ·try simp only [I] at c9
         refine zM<|zD O (fun c10=>?_) (fun c10=>?_)
         ·try simp only [I] at c10
          refine F O<|yP O m pl38<|Y 1 L O<|A O<|H<|zY _ (Weak.mem [false,true,false,true,true,true,true] O)<|o<|w (y yN O (R 0 O) O) (J O) ?_
          exact ⟨by rw [hT];first|(rw [zCd (by omega)];rfl)|(rw [zCk (by omega)];rfl)|(rw [zCc (by omega)];rfl)|(rw [zCj (by omega)];rfl)|(rw [wZ (by omega)];rfl)|(rw [zAa ho h10];rfl)|(rw [zCi ho h10 c12];rfl)|(rw [zCb ho h10 c12];rfl),[_],O⟩
         ·try simp only [I] at c10
          have hlen2:=zHl hpart (by omega)
          have ho:¬jC e.Op:=by unfold jC;omega
          refine zM<|zK<|zK<|qZ 13 mixed (by kernel_rfl) O O<|M O O (zN O O)<|M O O (zN O O)<|M O O (kJ 0 O zAo O O)<|M O O (yE O O O (by simp only [List.length_map];exact ⟨by omega,by omega⟩))<|M O O (qS 0 O zAo O O O (by simp only [List.length_map];omega) (by simp only [List.length_map];omega))<|M O O (qB O yN O (wV 0 O (hgn 2 (by omega) (by omega) _ (by simp only [List.length_map];rfl))) O)<|M O O (zN O O)<|M O O (zN O O)<|M O O (kJ 0 O zAo O O)<|M O O (yE O O O (by simp only [List.length_map];exact ⟨by omega,by omega⟩))<|M O O (qS 0 O zAo O O O (by simp only [List.length_map];omega) (by simp only [List.length_map];omega))<|M O O (qB O yN O (wV 0 O (hgn 1 (by omega) (by omega) _ (by simp only [List.length_map];rfl))) O)<|M O O (zBk O fl38 O O O)<|kE<|H<|zD O (fun c11=>?_) (fun c11=>?_)
          ·have h10:=zHn c11
           refine F O<|yP O m pl38<|Y 1 L O<|A O<|H<|zY _ (Weak.mem [false,true,false,true,true,true,true] O)<|o<|w (y yN O (R 0 O) O) (J O) ?_
           exact ⟨by rw [hT];first|(rw [zCd (by omega)];rfl)|(rw [zCk (by omega)];rfl)|(rw [zCc (by omega)];rfl)|(rw [zCj (by omega)];rfl)|(rw [wZ (by omega)];rfl)|(rw [zAa ho h10];rfl)|(rw [zCi ho h10 c12];rfl)|(rw [zCb ho h10 c12];rfl),[_],O⟩
          ·have h10:=zHo c11
           refine zM<|zK<|F O<|zP kA (R 2 O) O<|qI O ok166 (wJ e) ⟨G,O,T⟩<|H<|zD O (fun c12=>?_) (fun c12=>?_)
           ·try simp only [I] at c12
            refine F O<|yP O m pl38<|Y 1 L O<|A O<|H<|zY _ (Weak.mem [false,true,false,true,true,true,true] O)<|o<|w (y yN O (R 0 O) O) (J O) ?_
            exact ⟨by rw [hT];first|(rw [zCd (by omega)];rfl)|(rw [zCk (by omega)];rfl)|(rw [zCc (by omega)];rfl)|(rw [zCj (by omega)];rfl)|(rw [wZ (by omega)];rfl)|(rw [zAa ho h10];rfl)|(rw [zCi ho h10 c12];rfl)|(rw [zCb ho h10 c12];rfl),[_],O⟩
           ·try simp only [I] at c12
            refine zM<|F O<|A O<|A O<|zU O (kJ 0 O zAo O O)<|zU O (yE O O O (by simp only [List.length_map];exact ⟨by omega,by omega⟩))<|zU O (qS 0 O zAo O O O (by simp only [List.length_map];omega) (by simp only [List.length_map];omega))<|zP yN (wV 0 O (hgn 1 (by omega) (by omega) _ (by simp only [List.length_map];rfl))) O<|Y 1 L O<|A O<|H<|zY _ (Weak.mem [false,true,false,true,true,true,true] O)<|o<|w (y yN O (R 0 O) O) (J O) ?_
            exact ⟨by rw [hT];first|(rw [zCd (by omega)];rfl)|(rw [zCk (by omega)];rfl)|(rw [zCc (by omega)];rfl)|(rw [zCj (by omega)];rfl)|(rw [wZ (by omega)];rfl)|(rw [zAa ho h10];rfl)|(rw [zCi ho h10 c12];rfl)|(rw [zCb ho h10 c12];rfl),[_],O⟩
        ·try simp only [I] at c9
         refine zQ O<|yF O<|A O<|H<|zD O (fun c10=>?_) (fun c10=>?_)
         ·try simp only [I] at c10
          refine F O<|yP O m pl38<|Y 1 L O<|A O<|H<|zY _ (Weak.mem [false,true,false,true,true,true,true] O)<|o<|w (y yN O (R 0 O) O) (J O) ?_
          exact ⟨by rw [hT];first|(rw [zCd (by omega)];rfl)|(rw [zCk (by omega)];rfl)|(rw [zCc (by omega)];rfl)|(rw [zCj (by omega)];rfl)|(rw [wZ (by omega)];rfl)|(rw [zAa ho h10];rfl)|(rw [zCi ho h10 c12];rfl)|(rw [zCb ho h10 c12];rfl),[_],O⟩
         ·try simp only [I] at c10
          have hlen2:=zHl hpart (by omega)
          have ho:¬jC e.Op:=by unfold jC;omega
          refine zM<|zK<|zK<|qZ 13 mixed (by kernel_rfl) O O<|M O O (zN O O)<|M O O (zN O O)<|M O O (kJ 0 O zAo O O)<|M O O (yE O O O (by simp only [List.length_map];exact ⟨by omega,by omega⟩))<|M O O (qS 0 O zAo O O O (by simp only [List.length_map];omega) (by simp only [List.length_map];omega))<|M O O (qB O yN O (wV 0 O (hgn 2 (by omega) (by omega) _ (by simp only [List.length_map];rfl))) O)<|M O O (zN O O)<|M O O (zN O O)<|M O O (kJ 0 O zAo O O)<|M O O (yE O O O (by simp only [List.length_map];exact ⟨by omega,by omega⟩))<|M O O (qS 0 O zAo O O O (by simp only [List.length_map];omega) (by simp only [List.length_map];omega))<|M O O (qB O yN O (wV 0 O (hgn 1 (by omega) (by omega) _ (by simp only [List.length_map];rfl))) O)<|M O O (zBk O fl38 O O O)<|kE<|H<|zD O (fun c11=>?_) (fun c11=>?_)
          ·have h10:=zHn c11
           refine F O<|yP O m pl38<|Y 1 L O<|A O<|H<|zY _ (Weak.mem [false,true,false,true,true,true,true] O)<|o<|w (y yN O (R 0 O) O) (J O) ?_
           exact ⟨by rw [hT];first|(rw [zCd (by omega)];rfl)|(rw [zCk (by omega)];rfl)|(rw [zCc (by omega)];rfl)|(rw [zCj (by omega)];rfl)|(rw [wZ (by omega)];rfl)|(rw [zAa ho h10];rfl)|(rw [zCi ho h10 c12];rfl)|(rw [zCb ho h10 c12];rfl),[_],O⟩
          ·have h10:=zHo c11
           refine zM<|zK<|F O<|zP kA (R 2 O) O<|qI O ok166 (wJ e) ⟨G,O,T⟩<|H<|zD O (fun c12=>?_) (fun c12=>?_)
           ·try simp only [I] at c12
            refine F O<|yP O m pl38<|Y 1 L O<|A O<|H<|zY _ (Weak.mem [false,true,false,true,true,true,true] O)<|o<|w (y yN O (R 0 O) O) (J O) ?_
            exact ⟨by rw [hT];first|(rw [zCd (by omega)];rfl)|(rw [zCk (by omega)];rfl)|(rw [zCc (by omega)];rfl)|(rw [zCj (by omega)];rfl)|(rw [wZ (by omega)];rfl)|(rw [zAa ho h10];rfl)|(rw [zCi ho h10 c12];rfl)|(rw [zCb ho h10 c12];rfl),[_],O⟩
           ·try simp only [I] at c12
            refine zM<|F O<|A O<|A O<|zU O (kJ 0 O zAo O O)<|zU O (yE O O O (by simp only [List.length_map];exact ⟨by omega,by omega⟩))<|zU O (qS 0 O zAo O O O (by simp only [List.length_map];omega) (by simp only [List.length_map];omega))<|zP yN (wV 0 O (hgn 1 (by omega) (by omega) _ (by simp only [List.length_map];rfl))) O<|Y 1 L O<|A O<|H<|zY _ (Weak.mem [false,true,false,true,true,true,true] O)<|o<|w (y yN O (R 0 O) O) (J O) ?_
            exact ⟨by rw [hT];first|(rw [zCd (by omega)];rfl)|(rw [zCk (by omega)];rfl)|(rw [zCc (by omega)];rfl)|(rw [zCj (by omega)];rfl)|(rw [wZ (by omega)];rfl)|(rw [zAa ho h10];rfl)|(rw [zCi ho h10 c12];rfl)|(rw [zCb ho h10 c12];rfl),[_],O⟩
theorem ck_typeOf (b:Nat) (svL svS svP:Value) (n:Ns) (U S:List ByteArray) (W:List Int)  (e:Ex) (hn:n.Ok) (hpart:fZ e=0) (he:e.wt<=1073741824):Con cfg 190 [vP b,vE e] (ckN b svL svS svP n U S W) fun r μ'=>r=.tup [vTy (dT (tyF n.Bufs) e).1,vI (dT (tyF n.Bufs) e).2]/\μ'=ckN b svL svS svP n U S W:=by
  induction e using Ex.ind with
  |_ e ih=>exact ck_typeOf_step b svL svS svP n U S W hn e (fun a ha h1 h2=>ih a ha h1 h2) hpart he
theorem zIm (b:Nat) (svL svS svP:Value) (n:Ns) (U S:List ByteArray) (W:List Int) (e:Ex) (hn:n.Ok) (hS:S.length<=1000000) (he:e.wt<=1000000000):
    Con cfg 165 [vP b,vE e] (ckN b svL svS svP n U S W) fun r μ'=>r=.tup [vTy (bW n.Bufs S e).1,vI (bW n.Bufs S e).2]/\μ'=ckN b svL svS svP n U S W:=by
 refine Con.drop<|zT Tryz.func165 O Tryz.ntmps165 Tryz.results165 O ?_
 intro z hz
 refine F O<|zV O O (qN O O) ?_
 rintro _ _ ⟨b1,rfl,rfl⟩
 refine yI _ (yS 0 O 2 _ PLe.ptr)<|zV O O (qN O O) ?_
 rintro _ _ ⟨b2,rfl,rfl⟩
 refine zV O O (yT O m) ?_
 rintro _ _ ⟨b3,rfl,rfl⟩
 refine zV O O (yT O zr51) ?_
 rintro _ _ ⟨b4,rfl,rfl⟩
 refine H<|zK<|F O<|zP kA (R 2 O) O<|qI O ok188 (expr_Validate e (by omega)) ⟨G,O,T⟩<|A O<|H<|F O<|A O<|yM O<|H<|zD O (fun c1=>?_) (fun c1=>?_)
 ·try simp only [I] at c1
  refine F O<|yP O m pl38<|A O<|Y 1 L O<|Y 0 sz51 O<|H<|zY _ (Weak.mem [true,true,false,true,true,true,true] O)<|o<|w (y yN O (R 1 O) O) (wC zKc O (R 0 O) O) ?_
  exact ⟨by rw [exprT_1 c1];rfl,[_,_],O⟩
 ·try simp only [I] at c1
  refine zM<|zK<|F O<|zP kA (R 2 O) O<|qI O ok123 (zOs _) ⟨G,O,T⟩<|H<|zR<|zFw (ps:=[17]) hz 2 O O ok158 (zNd e (by omega)) (fun _ _=>O) O (fun pre=>dK n.Bufs S pre=0) (fun pre=>[E.row b4 51 [cI 0],E.row b3 38 [cI 0,cI 0,cI 0,cI 0,cI 0]]) (fun c pre=>(c=.ret/\¬dK n.Bufs S pre=0)) (fun c pre=>[E.row b4 51 [cI (dK n.Bufs S pre)],E.row b3 38 [cI 0,cI 0,cI 0,cI 0,cI 0]]) ⟨O,O⟩ ?_ ?_ ?_ ?_
  ·intro pre x suf hxs hi z hz
   have hxw:x.wt<=e.wt:=zFp e x (by rw [hxs];simp)
   refine zQ O<|zV O O (qE [none,none,none,none,none,none,none,none,none,none,some 2,some 4,some 13] O zr44 O) ?_
   rintro _ _ ⟨b5,rfl,rfl⟩
   refine Y 0 sz44 O<|H ?_
   intro z hz
   refine zR<|F O<|zJ zQx qA O<|zP kA (R 0 O) O<|zU O (kH [4,4,4,4] O ok189 (ck_node b svL svS svP n U S W x hn hS (by omega)) ⟨G,O,G,O,T⟩ O)<|A O<|H<|F O<|A O<|yM O<|H<|zD O (fun c2=>?_) (fun c2=>?_)
   ·try simp only [I] at c2
    refine F O<|yP O m pl38<|A O<|Y 2 L O<|Y 1 sz51 O<|H<|o ?_
    exact zCm (τ:=⟨[],_⟩) (Weak.mk [false,true,true,true,true,true,true,true] T O) ⟨⟨O,by rw [zQa hi];exact c2⟩,(by dsimp only;rw [zQa hi];rfl)⟩
   ·try simp only [I] at c2
    refine zM ?_
    exact zCm (τ:=⟨[],_⟩) (Weak.mk [false,true,true,true,true,true,true,true] T O) ⟨(by dsimp only;rw [zQa hi];exact c2),O⟩
  ·intro hd
   refine F O<|zJ zQx qA O<|zP kA (R 2 O) O<|zU O (kH [3,3,3,3] O ok190 (ck_typeOf b svL svS svP n U S W e hn (zGq c1) (by omega)) ⟨G,O,G,O,T⟩ O)<|yJ O<|qU O<|Y 1 L O<|Y 0 sz51 O<|H<|zY _ (Weak.mem [true,true,false,true,true,true,true] O)<|o<|w (y yN O (R 1 O) O) (wC zKc O (R 0 O) O) ?_
   exact ⟨by rw [zWf c1 hd];rfl,[_,_],O⟩
  ·rintro pre x suf hxs hx
   rcases hx with ⟨hc,hx⟩
   clear hc
   repeat (first|refine zNj ?_|refine zLt ?_)
   refine w (y yN O (R 1 O) O) (wC zKc O (R 0 O) O) ?_
   exact ⟨by rw [exprT_2 c1 (by rw [hxs,nodesN_pre hx];exact hx),hxs,nodesN_pre (suf:=suf) hx];rfl,[_,_,_],O⟩
  ·rintro i pre x suf hxs hx
   rcases hx with ⟨hc,hx⟩
   cases hc
theorem ck_store (b:Nat) (svL svS svP:Value) (n:Ns) (U S:List ByteArray) (W:List Int) (s:St) (hn:n.Ok) (hS:S.length<=1000000) (hs:s.wt<=900000000):
    Con cfg 167 [vP b,vSt s] (ckN b svL svS svP n U S W) fun r μ'=>r=vI (jL n.Bufs S s)/\μ'=ckN b svL svS svP n U S W:=by
 refine zT Tryz.func167 O Tryz.ntmps167 Tryz.results167 O ?_
 intro z hz
 obtain ⟨hE,hI,hIw,hB,hBw⟩:=St.parts hs
 have hrd:=rdE_wt s
 refine F O<|zV O O (qN O O) ?_
 rintro _ _ ⟨b1,rfl,rfl⟩
 refine A O<|H<|F O<|A O<|zG O zAj<|zJ one9 (R 0 O) O<|zG O zDo<|zJ wO (R 0 O) O<|qT [none,none,none,none,none,none,none,none,none,none,some 2,none,some 13] O zr44 pl44<|zU O (kH [1,1,1,1] O ok165 (zIm b svL svS svP n U S W (rdE s) hn hS (by omega)) ⟨G,O,G,O,T⟩ O)<|qP O<|yJ O<|qU O<|zV O O (yT O m) ?_
 rintro _ _ ⟨b2,rfl,rfl⟩
 refine Y 0 L O<|A O<|H<|zK<|F O<|A O<|yM O<|H<|zD O (fun c1=>?_) (fun c1=>?_)
 ·try simp only [I] at c1
  refine F O<|A O<|A O<|H<|zY _ (Weak.mem [false,false,true,true,true,true] O)<|o<|X O ?_
  exact ⟨by rw [zNl c1],O⟩
 ·try simp only [I] at c1
  have hT:=exprT_rd c1
  refine zM<|zK<|zK<|kL 12 1 [⟨0,.q []⟩,⟨1,.q []⟩,⟨2,.q []⟩,⟨3,.q [3]⟩,⟨4,.q []⟩,⟨5,.q [2]⟩,⟨6,.q []⟩,⟨7,.q []⟩,⟨8,.q []⟩,⟨9,.q []⟩,⟨10,.e 0 []⟩,⟨11,.e 0 []⟩] mixed (by kernel_rfl) (by kernel_rfl) O O O<|p O<|p O<|p O<|p O<|p O<|p O<|p O<|p O<|p O<|p O<|p O<|p O<|zBo<|t O (by decide) O O (zN O O)<|t O (by decide) O O (qW O O)<|t O (by decide) O O (zE O zQk O)<|t O (by decide) O O (qB O yY O (R 0 O) O)<|t O (by decide) O O (zE O zAj O)<|t O (by decide) O O (zF O one9 O (R 0 O) O)<|t O (by decide) O O (qM O ok101 (zAm n s.Name hn) ⟨G,O,G,O,T⟩)<|t O (by decide) O O (kI O O)<|t O (by decide) O O (wH O O O)<|t O (by decide) O O (wG O O O)<|zHr O O (by decide) O O (qE [none,none,none,none,none,none,some 1,none] O zr65 O) ?_
  rintro _ _ ⟨b3,rfl,rfl⟩
  refine ⟨_,O,?_⟩
  refine zFm O O (by decide) O O (kB O sz65 O O O (zFl 0 O O)) ?_
  rintro _ _ ⟨rfl,rfl⟩
  refine ⟨_,O,?_⟩
  refine zBl O<|A O<|H<|F O<|zG O zRd<|zJ one3 (R 0 O) O<|yF O<|H<|zD O (fun c2=>?_) (fun c2=>?_)
  ·try simp only [I] at c2
   refine F O<|A O<|H<|zY _ (Weak.mem [false,false,false,true,true,true,true] O)<|o<|X O ?_
   exact ⟨by rw [zLh c1 (.inl c2)],O⟩
  ·try simp only [I] at c2
   refine zM<|zK<|F O<|zG O zAp<|zJ one3 (R 2 O) O<|yF O<|A O<|rL0 O (fun g7_3=>zE O zRe O) O<|B 40 O (fun g7_3=>zF O one3 O (R 2 O) O) O<|B 41 O (fun g7_3=>zBr O O O) O<|B 42 O (fun g7_3=>zN O O) O<|rLz [] O N T (fun g7_7=>zE O zRe O) O<|rLz [(44,_)] O N ⟨O,O,T⟩ (fun g7_7=>zF O one3 O (R 2 O) O) O<|rLz [(45,_)] O N ⟨O,O,T⟩ (fun g7_7=>yG O O O) O<|B 43 O (fun g7_3=>zAu O O O O (fun h=>kD (by assumption) (lzf h))) O<|yQ O (fun h=>h)<|H<|zD O (fun c3=>?_) (fun c3=>?_)
   ·try simp only [I] at c3
    refine F O<|A O<|H<|zY _ (Weak.mem [false,false,false,true,true,true,true] O)<|o<|X O ?_
    exact ⟨by rw [zLh c1 (.inr c3)],O⟩
   ·try simp only [I] at c3
    refine zM<|F O<|A O<|zG O zAz<|zP kA (R 2 O) O<|zU O (kH [3,3,3,3] O ok165 (zIm b svL svS svP n U S W s.E hn hS (by omega)) ⟨G,O,G,O,T⟩ O)<|qP O<|yJ O<|qU O<|zV O O (yT O m) ?_
    rintro _ _ ⟨b4,rfl,rfl⟩
    refine Y 0 L O<|A O<|H<|zK<|F O<|A O<|yM O<|H<|zD O (fun c4=>?_) (fun c4=>?_)
    ·try simp only [I] at c4
     refine F O<|A O<|A O<|H<|zY _ (Weak.mem [false,false,false,false,true,true,true,true] O)<|o<|X O ?_
     exact ⟨by rw [zNk c1 (by omega) c4],O⟩
    ·try simp only [I] at c4
     refine zM<|zK<|F O<|zG O zAz<|zP kA (R 3 O) O<|qI O ok166 (wJ s.E) ⟨G,O,T⟩<|A O<|rL0 O (fun g12_3=>qB O yN O (R 0 O) O) O<|rL0 O (fun g12_3=>qB O yN O (R 2 O) O) O<|rLz [(63,_),(64,_)] O gv1 ⟨O,O,O,O,T⟩ (fun g12_3=>zBk O fl38 O O O) O<|r_or O (fun h=>(lzf h))<|H<|zD O (fun c5=>?_) (fun c5=>?_)
     ·have h10:=st10_t c5
      rw [hT] at h10
      refine F O<|A O<|H<|zY _ (Weak.mem [false,false,false,false,true,true,true,true] O)<|o<|X O ?_
      exact ⟨by rw [zTw c1 (by omega) c4 h10],O⟩
     ·have h10:=st10_f c5
      rw [hT] at h10
      refine zM<|F O<|A O<|H<|zY _ (Weak.mem [false,false,false,false,true,true,true,true] O)<|o<|X O ?_
      exact ⟨by rw [storeE_0 c1 (by omega) c4 h10],O⟩
theorem ck_loop (b:Nat) (svL svS svP:Value) (n:Ns) (U S:List ByteArray) (W:List Int) (s:St) (hn:n.Ok) (hU:U.length<=1000000):
    Con cfg 164 [vP b,vSt s] (ckN b svL svS svP n U S W) fun r μ'=>r=vI (lY n.Bufs U s)/\μ'=ckN b svL svS svP n U S W:=by
 refine zT Tryz.func164 O Tryz.ntmps164 Tryz.results164 O ?_
 intro z hz
 refine F O<|zV O O (qN O O) ?_
 rintro _ _ ⟨b1,rfl,rfl⟩
 refine A O<|H<|zK<|F O<|zG O zAj<|zJ one9 (R 0 O) O<|qI O ok49 (zBc _) ⟨G,O,T⟩<|kQ O<|H<|zD O (fun c1=>?_) (fun c1=>?_)
 ·try simp only [I] at c1
  refine F O<|A O<|H<|zY _ (Weak.mem [false,true,true,true,true] O)<|o<|X O ?_
  exact ⟨by rw [loopE_7 c1],O⟩
 ·try simp only [I] at c1
  refine zM<|zK<|zK<|kL 12 1 [⟨0,.q []⟩,⟨1,.q []⟩,⟨2,.q []⟩,⟨3,.q [2]⟩,⟨4,.q []⟩,⟨5,.q [1]⟩,⟨6,.q []⟩,⟨7,.q []⟩,⟨8,.q []⟩,⟨9,.q []⟩,⟨10,.e 0 []⟩,⟨11,.e 0 []⟩] mixed (by kernel_rfl) (by kernel_rfl) O O O<|p O<|p O<|p O<|p O<|p O<|p O<|p O<|p O<|p O<|p O<|p O<|p O<|zBo<|t O (by decide) O O (zN O O)<|t O (by decide) O O (qW O O)<|t O (by decide) O O (zE O zQk O)<|t O (by decide) O O (qB O yY O (R 0 O) O)<|t O (by decide) O O (zE O zAj O)<|t O (by decide) O O (zF O one9 O (R 0 O) O)<|t O (by decide) O O (qM O ok101 (zAm n s.Name hn) ⟨G,O,G,O,T⟩)<|t O (by decide) O O (kI O O)<|t O (by decide) O O (wH O O O)<|t O (by decide) O O (wG O O O)<|zHr O O (by decide) O O (qE [none,none,none,none,none,none,some 1,none] O zr65 O) ?_
  rintro _ _ ⟨b2,rfl,rfl⟩
  refine ⟨_,O,?_⟩
  refine zFm O O (by decide) O O (kB O sz65 O O O (zFl 0 O O)) ?_
  rintro _ _ ⟨rfl,rfl⟩
  refine ⟨_,O,?_⟩
  refine zBl O<|A O<|H<|zK<|qZ 10 mixed (by kernel_rfl) O O<|M O O (zN O O)<|M O O (zN O O)<|f [] O O O O gv1 T (fun g4_1=>zN O O) O<|f [(23,_)] O O O O gv1 ⟨O,O,T⟩ (fun g4_1=>qW O O) O<|f [(24,_)] O O O O gv1 ⟨O,O,T⟩ (fun g4_1=>zE O fd123_1 O) O<|f [(25,_)] O O O O gv1 ⟨O,O,T⟩ (fun g4_1=>zF O zOc O (R 2 O) O) O<|f [] O O O O gv1 T (fun g4_1=>zE O zAj O) O<|f [(27,_)] O O O O gv1 ⟨O,O,T⟩ (fun g4_1=>zF O one9 O (R 1 O) O) O<|f [(26,_),(28,_)] O O O O gv1 ⟨O,O,O,O,T⟩ (fun g4_1=>zOv 3 O ok143 O (zCs U s.Name hU) O ⟨.inl ⟨O,O⟩,.inr ⟨G,O⟩,T⟩) O<|M O O (zAu O O O O (fun h=>(lzf h)))<|kE<|H<|zD O (fun c2=>?_) (fun c2=>?_)
  ·try simp only [I] at c2
   refine F O<|A O<|H<|zY _ (Weak.mem [false,false,true,true,true,true] O)<|o<|X O ?_
   exact ⟨by rw [loopE_8 c1 c2],O⟩
  ·try simp only [I] at c2
   have h8:¬(dM n.Bufs s.Name=true∨bK U s.Name=true):=by rw [c2.1,c2.2];simp
   refine zM<|zK<|F O<|zG O zAc<|zJ one3 (R 1 O) O<|yD O<|A O<|rL0 O (fun g6_3=>zE O zAc O) O<|B 35 O (fun g6_3=>zF O one3 O (R 1 O) O) O<|B 36 O (fun g6_3=>yG O O O) O<|r_or O (fun h=>(lzf h))<|A O<|rL0 O (fun g6_8=>zE O zHg O) O<|B 40 O (fun g6_8=>zF O one3 O (R 1 O) O) O<|B 41 O (fun g6_8=>zBr O O O) O<|r_or O (fun h=>(lzf h))<|A O<|rL0 O (fun g6_13=>zE O zHg O) O<|B 45 O (fun g6_13=>zF O one3 O (R 1 O) O) O<|B 46 O (fun g6_13=>yG O O O) O<|r_or O (fun h=>(lzf h))<|H<|zD O (fun c3=>?_) (fun c3=>?_)
   ·try simp only [I] at c3
    refine F O<|A O<|H<|zY _ (Weak.mem [false,false,true,true,true,true] O)<|o<|X O ?_
    exact ⟨by rw [loopE_1 c1 h8 (by omega)],O⟩
   ·try simp only [I] at c3
    refine zM<|F O<|A O<|H<|zY _ (Weak.mem [false,false,true,true,true,true] O)<|o<|X O ?_
    exact ⟨by rw [loopE_0 c1 h8 (by omega)],O⟩
theorem zVk (e:Ex) (he:e.wt<=4294967296):
    Pur cfg 187 [vE e] (vB (jY e)):=by
 refine zT Tryz.func187 O Tryz.ntmps187 Tryz.results187 O ?_
 intro z hz
 refine F O<|zV O O (qN O O) ?_
 rintro _ _ ⟨b1,rfl,rfl⟩
 refine A O<|H<|F O<|zP kA (R 0 O) O<|qT [none,none,none,none,none,none,none,none,none,none,some 2,some 4,some 13] O zr44 pl44<|qI O ok205 (expr_Same e zEx he (by decide)) ⟨G,O,G,O,T⟩<|A O<|H<|o<|X O ?_
 exact O
theorem zVj (s:St) (hs:s.wt<=900000000):
    Pur cfg 163 [vSt s] (vB (dN s)):=by
 refine zT Tryz.func163 O Tryz.ntmps163 Tryz.results163 O ?_
 intro z hz
 obtain ⟨hE,hI,hIw,hB,hBw⟩:=St.parts hs
 refine F O<|zV O O (qN O O) ?_
 rintro _ _ ⟨b1,rfl,rfl⟩
 refine A O<|H<|zK<|qZ 17 mixed (by kernel_rfl) O O<|M O O (zE O zAp O)<|M O O (zF O one3 O (R 0 O) O)<|M O O (yH O O O)<|M O O (zE O zAp O)<|M O O (zF O one3 O (R 0 O) O)<|M O O (yH O O O)<|M O O (zN O O)<|f [] O O O O gv1 T (fun g1_6=>zE O zAp O) O<|f [(13,_)] O O O O gv1 ⟨O,O,T⟩ (fun g1_6=>zF O one3 O (R 0 O) O) O<|f [(14,_)] O O O O gv1 ⟨O,O,T⟩ (fun g1_6=>yH O O O) O<|M O O (zAu O O O O (fun h=>(lzf h)))<|M O O (zE O zAp O)<|M O O (zF O one3 O (R 0 O) O)<|M O O (yH O O O)<|M O O (yA O O)<|M O O (yA O O)<|M O O (yA O O)<|kE<|H<|zK<|zR<|F O<|A O<|kQ O<|A O<|rL0 O (fun g2_2=>zN O O) O<|B 24 O (fun g2_2=>kW O O) O<|yQ O (fun h=>h)<|A O<|rL0 O (fun g2_6=>zN O O) O<|B 28 O (fun g2_6=>kW O O) O<|yQ O (fun h=>h)<|A O<|H<|zD O (fun c1=>?_) (fun c1=>?_)
 ·refine F O<|A O<|H<|o<|X O ?_
  exact congrArg vB (syn_1 c1)
 ·refine F O<|A O<|A O<|rL0 O (fun g4_1=>zE O zAj O) O<|B 34 O (fun g4_1=>zF O one9 O (R 0 O) O) O<|B 35 O (fun g4_1=>zBu O O O) O<|yQ O (fun h=>h)<|A O<|H<|zD O (fun c2=>?_) (fun c2=>?_)
  ·refine F O<|A O<|H<|o<|X O ?_
   exact congrArg vB (syn_2 c2)
  ·refine F O<|A O<|kQ O<|A O<|rL0 O (fun g6_2=>zE O zAc O) O<|B 42 O (fun g6_2=>zF O one3 O (R 0 O) O) O<|B 43 O (fun g6_2=>kN O O O) O<|B 44 O (fun g6_2=>zN O O) O<|rLz [] O N T (fun g6_6=>zE O zHg O) O<|rLz [(46,_)] O N ⟨O,O,T⟩ (fun g6_6=>zF O one3 O (R 0 O) O) O<|rLz [(47,_)] O N ⟨O,O,T⟩ (fun g6_6=>kN O O O) O<|B 45 O (fun g6_2=>zAu O O O O (fun h=>kD (by assumption) (lzf h))) O<|yQ O (fun h=>h)<|A O<|H<|zD O (fun c3=>?_) (fun c3=>?_)
   ·refine F O<|A O<|H<|o<|X O ?_
    exact congrArg vB (syn_3 c3)
   ·refine F O<|zG O zAp<|zJ one3 (R 0 O) O<|yM O<|A O<|rL0 O (fun g8_3=>zE O zRe O) O<|B 56 O (fun g8_3=>zF O one3 O (R 0 O) O) O<|B 57 O (fun g8_3=>kN O O O) O<|yQ O (fun h=>h)<|A O<|H<|zD O (fun c4=>?_) (fun c4=>?_)
    ·refine F O<|A O<|H<|o<|X O ?_
     exact congrArg vB (syn_4 c4)
    ·refine F O<|A O<|kQ O<|A O<|rL0 O (fun g10_2=>zE O zDo O) O<|B 64 O (fun g10_2=>zF O wO O (R 0 O) O) O<|B 65 O (fun g10_2=>yB O d O) O<|B 66 O (fun g10_2=>yG O O O) O<|yQ O (fun h=>h)<|A O<|H<|zD O (fun c5=>?_) (fun c5=>?_)
     ·refine F O<|A O<|H<|o<|X O ?_
      exact congrArg vB (syn_5 c5)
     ·refine F O<|A O<|A O<|rL0 O (fun g12_1=>zE O zAz O) O<|B 72 O (fun g12_1=>qB O kA O (R 0 O) O) O<|B 73 O (fun g12_1=>qM O ok187 (zVk s.E (by omega)) ⟨G,O,T⟩) O<|B 74 O (fun g12_1=>kW O O) O<|yQ O (fun h=>h)<|A O<|H<|zD O (fun c6=>?_) (fun c6=>?_)
      ·refine F O<|A O<|H<|o<|X O ?_
       exact congrArg vB (syn_6 c6)
      ·refine zM<|F O<|A O<|kQ O<|A O<|rL0 O (fun g14_2=>zE O kK O) O<|B 80 O (fun g14_2=>zF O kP O (R 0 O) O) O<|B 81 O (fun g14_2=>yB O D O) O<|B 82 O (fun g14_2=>yH O O O) O<|r_or O (fun h=>(lzf h))<|A O<|H<|o<|X O ?_
       exact congrArg vB (syn_7 c1 c2 c3 c4 c5 c6)
theorem ck_statement (b:Nat) (svL svS svP:Value) (n:Ns) (U S:List ByteArray) (W:List Int) (s:St) (hn:n.Ok) (hS:S.length<=1000000) (hU:U.length<=1000000) (hs:s.wt<=900000000):
    Con cfg 129 [vP b,vSt s] (ckN b svL svS svP n U S W) fun r μ'=>r=vI (stE n.Bufs U S s)/\μ'=ckN b svL svS svP n U S W:=by
 refine zT Tryz.func129 O Tryz.ntmps129 Tryz.results129 O ?_
 intro z hz
 obtain ⟨hE,hI,hIw,hB,hBw⟩:=St.parts hs
 refine F O<|zV O O (qN O O) ?_
 rintro _ _ ⟨b1,rfl,rfl⟩
 refine A O<|H<|zK<|F O<|zP zAv (R 0 O) O<|qI O ok163 (zVj s hs) ⟨G,O,T⟩<|kQ O<|H<|zD O (fun c1=>?_) (fun c1=>?_)
 ·try simp only [I] at c1
  refine F O<|A O<|H<|zY _ (Weak.mem [false,true,true,true,true] O)<|o<|X O ?_
  exact ⟨by rw [stE_5 c1],O⟩
 ·try simp only [I] at c1
  refine zM<|zK<|F O<|zG O zAp<|zJ one3 (R 0 O) O<|H<|zR<|F O<|yF O<|A O<|H<|zD O (fun c2=>?_) (fun c2=>?_)
  ·try simp only [I] at c2
   refine F O<|A O<|zP zAv (R 0 O) O<|zU O (kH [1,1,1,1] O ok164 (ck_loop b svL svS svP n U S W s hn hU) ⟨G,O,G,O,T⟩ O)<|A O<|H<|zY _ (Weak.mem [false,true,true,true,true] O)<|o<|X O ?_
   exact ⟨by rw [zPr c1 c2],O⟩
  ·try simp only [I] at c2
   refine F O<|yF O<|A O<|H<|zD O (fun c3=>?_) (fun c3=>?_)
   ·try simp only [I] at c3
    refine zK<|F O<|A O<|zG O zAz<|zP kA (R 0 O) O<|zU O (kH [1,1,1,1] O ok165 (zIm b svL svS svP n U S W s.E hn hS (by omega)) ⟨G,O,G,O,T⟩ O)<|qP O<|yJ O<|qU O<|zV O O (yT O m) ?_
    rintro _ _ ⟨b2,rfl,rfl⟩
    refine Y 0 L O<|A O<|H<|F O<|A O<|yM O<|H<|zD O (fun c4=>?_) (fun c4=>?_)
    ·try simp only [I] at c4
     refine F O<|A O<|A O<|H<|zY _ (Weak.mem [false,false,true,true,true,true] O)<|o<|X O ?_
     exact ⟨by rw [zTx c1 c3,ifE_x c4],O⟩
    ·try simp only [I] at c4
     refine zM<|zK<|F O<|zG O zAz<|zP kA (R 1 O) O<|qI O ok166 (wJ s.E) ⟨G,O,T⟩<|kQ O<|H<|zD O (fun c5=>?_) (fun c5=>?_)
     ·try simp only [I] at c5
      refine F O<|A O<|H<|zY _ (Weak.mem [false,false,true,true,true,true] O)<|o<|X O ?_
      exact ⟨by rw [zTx c1 c3,ifE_10 c4 c5],O⟩
     ·try simp only [I] at c5
      refine zM<|F O<|A O<|H<|zY _ (Weak.mem [false,false,true,true,true,true] O)<|o<|X O ?_
      exact ⟨by rw [zTx c1 c3,ifE_0 c4 c5],O⟩
   ·try simp only [I] at c3
    refine zM<|F O<|A O<|zP zAv (R 0 O) O<|zU O (kH [1,1,1,1] O ok167 (ck_store b svL svS svP n U S W s hn hS hs) ⟨G,O,G,O,T⟩ O)<|A O<|H<|zY _ (Weak.mem [false,true,true,true,true] O)<|o<|X O ?_
    exact ⟨by rw [stE_s c1 c2 c3],O⟩
set_option maxHeartbeats 2000000 in
theorem zGj (b:Nat) (svL svS svP:Value) (n:Ns) (U S:List ByteArray) (W:List Int) (l:List St) (hn:n.Ok) (hU:U.length+bN l<=1000000) (hS:S.length+bN l<=1000000) (hW:W.length+bN l<=1000000) (hl:bC l<=536870912) (ih:∀s,s∈l->∀(svL svS svP:Value) (U S:List ByteArray) (W:List Int),U.length+bN s.Body<=1000000->S.length+bN s.Body<=1000000->W.length+bN s.Body<=1000000->Con cfg 82 [vP b,bM s.Body] (ckN b svL svS svP n U S W) fun r μ'=>∃svL' svS' svP' U' S' W',r=vI (bR n.Bufs U S W 0 s.Body).E/\((bR n.Bufs U S W 0 s.Body).E=0->U'=(bR n.Bufs U S W 0 s.Body).U/\S'=S/\W'=W)/\(¬(bR n.Bufs U S W 0 s.Body).E=0->W'=(bR n.Bufs U S W 0 s.Body).W)/\μ'=ckN b svL' svS' svP' n U' S' W'):
    Con cfg 82 [vP b,bM l] (ckN b svL svS svP n U S W) fun r μ'=>∃svL' svS' svP' U' S' W',r=vI (bR n.Bufs U S W 0 l).E/\((bR n.Bufs U S W 0 l).E=0->U'=(bR n.Bufs U S W 0 l).U/\S'=S/\W'=W)/\(¬(bR n.Bufs U S W 0 l).E=0->W'=(bR n.Bufs U S W 0 l).W)/\μ'=ckN b svL' svS' svP' n U' S' W':=by
 refine zT Tryz.func82 O Tryz.ntmps82 Tryz.results82 O ?_
 intro z hz
 have hll:=kO l
 have hlN:=zBt l
 refine F O<|A O<|H<|zK<|F O<|A O<|qC O D<|A O<|H<|zR<|zY ⟨[(12,.c _),(0,.c _),(1,.c _),(11,.c _)],[_,_,_,_]⟩ (Weak.mk [true,true,true,true] ⟨G,G,G,G,T⟩ O)<|qK 1 4 O O (Nat×Value×Value×Value×List ByteArray) (fun ⟨k,vL,vS,vP_,u⟩=>[(12,vI k)]) (fun ⟨k,vL,vS,vP_,u⟩=>[E.row b 123 [.sl 8 (n.Bufs.map Bf.cells),.sl 20 (n.Body.map St.cells),.lit vL,.lit vS,.lit vP_],E.vec vL 9 1 (u.map fun s=>[cS s]),E.vec vS 9 1 (S.map fun s=>[cS s]),E.vec vP_ 3 1 (W.map fun i=>[cI i])]) (fun ⟨k,vL,vS,vP_,u⟩=>k<=l.length/\(u.length+bN (l.drop k)<=1000000)/\((bR n.Bufs U S W 0 l)=bR n.Bufs u S W k (l.drop k))) (fun ⟨k,vL,vS,vP_,u⟩=>l.length-k) ⟨⟨0,svL,svS,svP,U⟩,⟨by omega,by simpa using hU,O⟩,Weak.mk [true,true,true,true] ⟨G,G,G,G,T⟩ O⟩ ?_
 rintro ⟨k,vL,vS,vP_,u⟩ ⟨hk,hub,hp⟩
 show AWP _ _ _ _ _ ⟨[(12,vI k)]++_,[E.row b 123 [.sl 8 (n.Bufs.map Bf.cells),.sl 20 (n.Body.map St.cells),.lit vL,.lit vS,.lit vP_],E.vec vL 9 1 (u.map fun s=>[cS s]),E.vec vS 9 1 (S.map fun s=>[cS s]),E.vec vP_ 3 1 (W.map fun i=>[cI i])]++_⟩
 refine F O<|yD O<|H<|zK<|zD O (fun c1=>?_) (fun c1=>?_)
 ·try simp only [I] at c1
  obtain ⟨s,hs⟩:=qY l k (by omega)
  have hsw:=yC (zZ hs)
  have hsb:=St.body_wt s
  have hsn:=stsN_drop hs
  have hse:=zDi s
  have hsm:=zHq (zZ hs)
  have hcl:=chkS_len n.Bufs s u S (W++[(k:Int)])
  refine zM<|zK<|zR<|F O<|A O<|A O<|H<|F O<|A O<|A O<|qD O D (by omega) (wD (by assumption))<|zP zAv qA O<|zV O O (qE [none,none,none,none,none,some 4,none,none,none,none,none,none,none,none,none,none,some 2,some 4,some 13,some 20] O j O) ?_
  rintro _ _ ⟨b1,rfl,rfl⟩
  refine Y 0 sz46 O<|H<|F O<|A O<|A O<|zU O (qW O O)<|zG O zIj<|zJ zGy (R 1 O) O<|A O<|yV O K zr3<|zV O O (qV 4 O K O O O (by simp only [List.length_map,List.length_append,List.length_cons,List.length_nil];omega) (by simp only [List.length_map,List.length_append,List.length_cons,List.length_nil];omega)) ?_
  rintro _ _ ⟨sv2,rfl,rfl⟩
  refine zU O (qW O O)<|zG O zIj<|Y 1 sz26 O<|H<|zK<|zK<|zY _ (Weak.vecEq 4 O (rows':=(W++[(k:Int)]).map fun i=>[cI i]) (by first|rfl|simp|rw [List.take_of_length_le (by simp)]))<|zQ O<|A O<|zP zAv (R 0 O) O<|zU O (kH [1,1,1,1] O ok129 (ck_statement b vL vS _ n u S (W++[(k:Int)]) s hn (by omega) (by omega) (by omega)) ⟨G,O,G,O,T⟩ O)<|A O<|H<|F O<|A O<|yM O<|H<|zD O (fun c2=>?_) (fun c2=>?_)
  ·try simp only [I] at c2
   have hx0:=chkS_no (here:=W++[(k:Int)]) (B:=n.Bufs) (U:=u) (sc:=S) (s:=s) c2
   refine F O<|A O<|A O<|H<|zY _ (Weak.mem [false,true,true,true,true] O)<|o<|X O ?_
   refine ⟨_,_,_,_,_,_,?_,fun h0=>?_,fun _=>?_,O⟩
   · rw [zEt hs hp (by rw [hx0];exact c2),hx0]
   · rw [zEt hs hp (by rw [hx0];exact c2),hx0] at h0;exact absurd h0 c2
   · rw [zEt hs hp (by rw [hx0];exact c2),hx0]
  ·try simp only [I] at c2
   have hin:=zKx (here:=W++[(k:Int)]) (B:=n.Bufs) (U:=u) (sc:=S) (s:=s) c2
   refine zM<|F O<|A O<|zU O (qW O O)<|zG O zKo<|zJ zOc (R 1 O) O<|zU O (kJ 3 O zGn O O)<|A O<|H<|zK<|F O<|zG O zAp<|zJ one3 (R 0 O) O<|yF O<|H<|zD O (fun c3=>?_) (fun c3=>?_)
   ·try simp only [I] at c3
    rw [wW c3,wW c3] at hin
    refine zK<|kL 9 0 [⟨0,.q []⟩,⟨1,.q []⟩,⟨2,.q []⟩,⟨3,.q []⟩,⟨4,.q [1]⟩,⟨5,.q []⟩,⟨6,.q [0]⟩,⟨7,.q []⟩,⟨8,.e 2 []⟩] mixed (by kernel_rfl) (by kernel_rfl) O O O<|p O<|p O<|p O<|p O<|p O<|p O<|p O<|p O<|p O<|zBo<|t O (by decide) O O (zN O O)<|t O (by decide) O O (zN O O)<|t O (by decide) O O (qW O O)<|t O (by decide) O O (zE O fd123_1 O)<|t O (by decide) O O (zF O zOc O (R 0 O) O)<|t O (by decide) O O (zE O zAj O)<|t O (by decide) O O (zF O one9 O (R 0 O) O)<|t O (by decide) O O (wQ O zGn zr9 O O O O)<|zHr O O (by decide) O O (qV 0 O zGn O O O (by simp only [List.length_map,List.length_append,List.length_cons,List.length_nil];omega) (by simp only [List.length_map,List.length_append,List.length_cons,List.length_nil];omega)) ?_
    rintro _ _ ⟨sv3,rfl,rfl⟩
    refine ⟨_,O,?_⟩
    refine zBl O<|zU O (qW O O)<|zG O fd123_1<|Y 1 sz105 O<|H<|zY _ (Weak.vecEq 2 O (rows':=(u++[s.Name]).map fun s=>[cS s]) (by first|rfl|simp|rw [List.take_of_length_le (by simp)]))<|kL 9 0 [⟨0,.q []⟩,⟨1,.q []⟩,⟨2,.q []⟩,⟨3,.q []⟩,⟨4,.q [1]⟩,⟨5,.q []⟩,⟨6,.q [0]⟩,⟨7,.q []⟩,⟨8,.e 3 []⟩] mixed (by kernel_rfl) (by kernel_rfl) O O O<|p O<|p O<|p O<|p O<|p O<|p O<|p O<|p O<|p O<|zBo<|t O (by decide) O O (zN O O)<|t O (by decide) O O (zN O O)<|t O (by decide) O O (qW O O)<|t O (by decide) O O (zE O zKo O)<|t O (by decide) O O (zF O zOc O (R 0 O) O)<|t O (by decide) O O (zE O zAj O)<|t O (by decide) O O (zF O one9 O (R 0 O) O)<|t O (by decide) O O (wQ O zGn zr9 O O O O)<|zHr O O (by decide) O O (qV 0 O zGn O O O (by simp only [List.length_map,List.length_append,List.length_cons,List.length_nil];omega) (by simp only [List.length_map,List.length_append,List.length_cons,List.length_nil];omega)) ?_
    rintro _ _ ⟨sv4,rfl,rfl⟩
    refine ⟨_,O,?_⟩
    refine zBl O<|zU O (qW O O)<|zG O zKo<|Y 1 sz105 O<|H<|zK<|zK<|zY _ (Weak.vecEq 3 O (rows':=(S++[s.Name]).map fun s=>[cS s]) (by first|rfl|simp|rw [List.take_of_length_le (by simp)]))<|zY ⟨_,E.row _ _ _::ckN b _ _ _ n (u++[s.Name]) (S++[s.Name]) (W++[(k:Int)])⟩ (Weak.mem [true,true,true,true,true] O)<|zQ O<|A O<|zG O kK<|zJ kP (R 0 O) O<|zV O O (zEj [1,1,1,1] O ok82 (ih s (zZ hs) _ _ _ (u++[s.Name]) (S++[s.Name]) (W++[(k:Int)]) (by first|omega|(simp;omega)) (by first|omega|(simp;omega)) (by simp;omega)) ⟨G,O,G,O,T⟩ O) ?_
    rintro _ _ ⟨_,⟨svL1,svS1,svP1,U1,S1,W1,rfl,hok,hno,rfl⟩,rfl⟩
    refine A O<|H<|F O<|A O<|yM O<|H<|zD O (fun c4=>?_) (fun c4=>?_)
    ·try simp only [I] at c4
     rw [←hin] at c4 hno
     refine F O<|A O<|A O<|H<|zY _ (Weak.mem [false,true,true,true,true] O)<|o<|X O ?_
     refine ⟨_,_,_,_,_,_,?_,fun h0=>?_,fun _=>?_,O⟩
     · rw [zEt hs hp c4,hin]
     · rw [zEt hs hp c4] at h0;exact absurd h0 c4
     · rw [zEt hs hp c4];exact hno c4
    ·try simp only [I] at c4
     rw [←hin] at c4 hok
     obtain ⟨hU1,hS1,hW1⟩:=hok c4
     have hS2:=hS1.symm
     subst hU1 hS2 hW1
     refine zM<|F O<|A O<|A O<|zU O (qW O O)<|zG O zKo<|zJ zOc (R 1 O) O<|A O<|zV O O (zHy (k:=S.length) 3 O zGn O O O (by simp) (by simp)) ?_
     rintro _ _ ⟨sv5,rfl,rfl⟩
     refine zU O (qW O O)<|zG O zKo<|Y 1 sz105 O<|H<|zY _ (Weak.vecEq 3 O (rows':=S.map fun s=>[cS s]) (by first|rfl|simp|rw [List.take_of_length_le (by simp)]))<|kL 12 0 [⟨0,.q []⟩,⟨1,.q []⟩,⟨2,.q []⟩,⟨3,.q []⟩,⟨4,.q [1]⟩,⟨5,.q []⟩,⟨6,.q []⟩,⟨7,.q []⟩,⟨8,.q [1]⟩,⟨9,.q [4]⟩,⟨10,.q []⟩,⟨11,.e 4 []⟩] mixed (by kernel_rfl) (by kernel_rfl) O O O<|p O<|p O<|p O<|p O<|p O<|p O<|p O<|p O<|p O<|p O<|p O<|p O<|zBo<|t O (by decide) O O (zN O O)<|t O (by decide) O O (zN O O)<|t O (by decide) O O (qW O O)<|t O (by decide) O O (zE O zIj O)<|t O (by decide) O O (zF O zGy O (R 0 O) O)<|t O (by decide) O O (zN O O)<|t O (by decide) O O (qW O O)<|t O (by decide) O O (zE O zIj O)<|t O (by decide) O O (zF O zGy O (R 0 O) O)<|t O (by decide) O O (kJ 0 O K O O)<|t O (by decide) O O (yE O O O (by simp only [List.length_map,List.length_append,List.length_cons,List.length_nil];exact ⟨by omega,by omega⟩))<|zHr O O (by decide) O O (zHy (k:=W.length) 0 O K O O O (by simp only [List.length_map,List.length_append,List.length_cons,List.length_nil];omega) (by simp)) ?_
     rintro _ _ ⟨sv6,rfl,rfl⟩
     refine ⟨_,O,?_⟩
     refine zBl O<|zU O (qW O O)<|zG O zIj<|Y 1 sz26 O<|H<|zY _ (Weak.vecEq 4 O (rows':=W.map fun i=>[cI i]) (by first|rfl|simp|rw [List.take_of_length_le (by simp)]))<|zQ O<|qJ O ⟨by omega,by omega⟩<|A O<|H ?_
     refine ⟨⟨k+1,_,_,_,(fC n.Bufs u S (W++[(k:Int)]) s).U⟩,⟨by omega,by omega,zPd hs hp c4⟩,(by show l.length-(k+1)<l.length-k;omega),Weak.mk [false,true,true,true,true] ⟨G,G,G,G,T⟩ O⟩
   ·try simp only [I] at c3
    rw [zGg c3,zGg c3] at hin
    refine zM<|zK<|zK<|zY ⟨_,E.row _ _ _::ckN b _ _ _ n u S (W++[(k:Int)])⟩ (Weak.mem [true,true,true,true,true] O)<|zQ O<|A O<|zG O kK<|zJ kP (R 0 O) O<|zV O O (zEj [1,1,1,1] O ok82 (ih s (zZ hs) _ _ _ u S (W++[(k:Int)]) (by first|omega|(simp;omega)) (by first|omega|(simp;omega)) (by simp;omega)) ⟨G,O,G,O,T⟩ O) ?_
    rintro _ _ ⟨_,⟨svL1,svS1,svP1,U1,S1,W1,rfl,hok,hno,rfl⟩,rfl⟩
    refine A O<|H<|F O<|A O<|yM O<|H<|zD O (fun c4=>?_) (fun c4=>?_)
    ·try simp only [I] at c4
     rw [←hin] at c4 hno
     refine F O<|A O<|A O<|H<|zY _ (Weak.mem [false,true,true,true,true] O)<|o<|X O ?_
     refine ⟨_,_,_,_,_,_,?_,fun h0=>?_,fun _=>?_,O⟩
     · rw [zEt hs hp c4,hin]
     · rw [zEt hs hp c4] at h0;exact absurd h0 c4
     · rw [zEt hs hp c4];exact hno c4
    ·try simp only [I] at c4
     rw [←hin] at c4 hok
     obtain ⟨hU1,hS1,hW1⟩:=hok c4
     have hS2:=hS1.symm
     subst hU1 hS2 hW1
     refine zM<|F O<|A O<|A O<|zU O (qW O O)<|zG O zKo<|zJ zOc (R 1 O) O<|A O<|zV O O (zHy (k:=S.length) 3 O zGn O O O (by simp) (by simp)) ?_
     rintro _ _ ⟨sv7,rfl,rfl⟩
     refine zU O (qW O O)<|zG O zKo<|Y 1 sz105 O<|H<|zY _ (Weak.vecEq 3 O (rows':=S.map fun s=>[cS s]) (by first|rfl|simp|rw [List.take_of_length_le (by simp)]))<|kL 12 0 [⟨0,.q []⟩,⟨1,.q []⟩,⟨2,.q []⟩,⟨3,.q []⟩,⟨4,.q [1]⟩,⟨5,.q []⟩,⟨6,.q []⟩,⟨7,.q []⟩,⟨8,.q [1]⟩,⟨9,.q [4]⟩,⟨10,.q []⟩,⟨11,.e 4 []⟩] mixed (by kernel_rfl) (by kernel_rfl) O O O<|p O<|p O<|p O<|p O<|p O<|p O<|p O<|p O<|p O<|p O<|p O<|p O<|zBo<|t O (by decide) O O (zN O O)<|t O (by decide) O O (zN O O)<|t O (by decide) O O (qW O O)<|t O (by decide) O O (zE O zIj O)<|t O (by decide) O O (zF O zGy O (R 0 O) O)<|t O (by decide) O O (zN O O)<|t O (by decide) O O (qW O O)<|t O (by decide) O O (zE O zIj O)<|t O (by decide) O O (zF O zGy O (R 0 O) O)<|t O (by decide) O O (kJ 0 O K O O)<|t O (by decide) O O (yE O O O (by simp only [List.length_map,List.length_append,List.length_cons,List.length_nil];exact ⟨by omega,by omega⟩))<|zHr O O (by decide) O O (zHy (k:=W.length) 0 O K O O O (by simp only [List.length_map,List.length_append,List.length_cons,List.length_nil];omega) (by simp)) ?_
     rintro _ _ ⟨sv8,rfl,rfl⟩
     refine ⟨_,O,?_⟩
     refine zBl O<|zU O (qW O O)<|zG O zIj<|Y 1 sz26 O<|H<|zY _ (Weak.vecEq 4 O (rows':=W.map fun i=>[cI i]) (by first|rfl|simp|rw [List.take_of_length_le (by simp)]))<|zQ O<|qJ O ⟨by omega,by omega⟩<|A O<|H ?_
     refine ⟨⟨k+1,_,_,_,(fC n.Bufs u S (W++[(k:Int)]) s).U⟩,⟨by omega,by omega,zPd hs hp c4⟩,(by show l.length-(k+1)<l.length-k;omega),Weak.mk [false,true,true,true,true] ⟨G,G,G,G,T⟩ O⟩
 ·try simp only [I] at c1
  refine qQ<|F O<|A O<|H<|o<|X O ?_
  refine ⟨_,_,_,_,_,_,?_,fun _=>⟨?_,O,O⟩,fun h0=>?_,O⟩
  · rw [zTa hp (by omega)]
  · rw [zTa hp (by omega)]
  · rw [zTa hp (by omega)] at h0;exact absurd rfl h0
theorem zPb (b:Nat) (n:Ns) (hn:n.Ok) (s:St) (hl:bC s.Body<=536870912):∀(svL svS svP:Value) (U S:List ByteArray) (W:List Int),U.length+bN s.Body<=1000000->S.length+bN s.Body<=1000000->W.length+bN s.Body<=1000000->Con cfg 82 [vP b,bM s.Body] (ckN b svL svS svP n U S W) fun r μ'=>∃svL' svS' svP' U' S' W',r=vI (bR n.Bufs U S W 0 s.Body).E/\((bR n.Bufs U S W 0 s.Body).E=0->U'=(bR n.Bufs U S W 0 s.Body).U/\S'=S/\W'=W)/\(¬(bR n.Bufs U S W 0 s.Body).E=0->W'=(bR n.Bufs U S W 0 s.Body).W)/\μ'=ckN b svL' svS' svP' n U' S' W':=by
  induction s using St.ind with
  |_ s ih=>
    intro svL svS svP U S W hU hS hW
    refine zGj b svL svS svP n U S W s.Body hn hU hS hW hl fun a ha=>ih a ha ?_
    have:=yC ha;have:=St.body_wt a;omega
theorem ck_statements (b:Nat) (svL svS svP:Value) (n:Ns) (U S:List ByteArray) (W:List Int) (l:List St) (hn:n.Ok) (hU:U.length+bN l<=1000000) (hS:S.length+bN l<=1000000) (hW:W.length+bN l<=1000000) (hl:bC l<=536870912):Con cfg 82 [vP b,bM l] (ckN b svL svS svP n U S W) fun r μ'=>∃svL' svS' svP' U' S' W',r=vI (bR n.Bufs U S W 0 l).E/\((bR n.Bufs U S W 0 l).E=0->U'=(bR n.Bufs U S W 0 l).U/\S'=S/\W'=W)/\(¬(bR n.Bufs U S W 0 l).E=0->W'=(bR n.Bufs U S W 0 l).W)/\μ'=ckN b svL' svS' svP' n U' S' W':=
  zGj b svL svS svP n U S W l hn hU hS hW hl fun s hs=>zPb b n hn s (by have:=yC hs;have:=St.body_wt s;omega)
theorem zDy (n:Ns) (hn:n.Ok):
    Pur cfg 34 [vNs n] (.tup [vIs (dO n).1,vI (dO n).2]):=by
 refine zT Tryz.func34 O Tryz.ntmps34 Tryz.results34 O ?_
 intro z hz
 have hnb:=hn.body
 refine F O<|zV O O (qN O O) ?_
 rintro _ _ ⟨b1,rfl,rfl⟩
 refine qX 1 O<|A O<|H<|zK<|F O<|zG O zAd<|zJ kP (R 0 O) O<|qI O ok79 (zVi 40 n.Body 40 (by omega) (by omega) O) ⟨G,O,G,O,T⟩<|kQ O<|H<|zD O (fun c1=>?_) (fun c1=>?_)
 ·try simp only [I] at c1
  refine F O<|qX 1 O<|A O<|H<|o<|w (J O) (J O) ?_
  rw [zTr c1];rfl
 ·try simp only [I] at c1
  refine zM<|zK<|F O<|zG O zAd<|zJ kP (R 0 O) O<|qI O ok80 (zOh n.Body 2000 2000 (by omega) (by omega) O) ⟨G,O,G,O,T⟩<|zU O (yG O O O)<|A O<|rL0 O (fun g3_4=>zE O zAt O) O<|B 16 O (fun g3_4=>zF O zEk O (R 0 O) O) O<|B 17 O (fun g3_4=>yB O el22 O) O<|B 18 O (fun g3_4=>yG O O O) O<|r_or O (fun h=>(lzf h))<|H<|zD O (fun c2=>?_) (fun c2=>?_)
  ·try simp only [I] at c2
   refine F O<|qX 1 O<|A O<|H<|o<|w (J O) (J O) ?_
   rw [validN_2 c1 (by omega)];rfl
  ·try simp only [I] at c2
   have hnum:=numB_ok (l:=n.Body) (m:=2000) (by omega)
   refine zM<|zK<|F O<|zG O zAt<|zJ zEk (R 0 O) O<|qI O ok81 (zKh n.Bufs hn.bufs hn.dims) ⟨G,O,T⟩<|A O<|H<|F O<|A O<|yM O<|H<|zD O (fun c3=>?_) (fun c3=>?_)
   ·try simp only [I] at c3
    refine F O<|A O<|qX 1 O<|A O<|H<|o<|w (J O) (J O) ?_
    rw [validN_b c1 (by omega) c3];rfl
   ·try simp only [I] at c3
    refine zM<|F O<|zP yY (R 0 O) O<|yP O zr123 pl123<|zV O O (qN O O) ?_
    rintro _ _ ⟨b2,rfl,rfl⟩
    refine yI _ (kR 9 1)<|yI _ (kR 9 1)<|yI _ (kR 3 1)<|A O<|H<|zK<|F O<|A O<|zG O zAd<|zJ kP (R 4 O) O<|zV O O (zEj [3,2,1,0] O ok82 (ck_statements b2 _ _ _ n [] [] [] n.Body hn (by simp;omega) (by simp;omega) (by simp;omega) hnb) ⟨G,O,G,O,T⟩ O) ?_
    rintro _ _ ⟨_,⟨svL1,svS1,svP1,U1,S1,W1,rfl,hok,hno,rfl⟩,rfl⟩
    refine A O<|H<|F O<|A O<|yM O<|H<|zD O (fun c4=>?_) (fun c4=>?_)
    ·try simp only [I] at c4
     have hW1:=hno c4
     subst hW1
     refine zY _ (yK 0 O (regs':=[]) (μ':=[_,_,_,_]) T ⟨EFle.refl _,EFle.refl _,EFle.row (ds:=[_,_,_,_,_]) ⟨.inl O,.inl O,.inl O,.inl O,.inr ⟨O,O⟩,T⟩,EFle.refl _,T⟩)<|F O<|A O<|zU O (qW O O)<|zG O zIj<|zJ zGy (R 2 O) O<|A O<|A O<|A O<|H<|o<|w (J O) (J O) ?_
     rw [zNg c1 (by omega) c3]
    ·try simp only [I] at c4
     refine zM<|F O<|qX 1 O<|A O<|H<|o<|w (J O) (J O) ?_
     rw [zNg c1 (by omega) c3,chkL_ok c4,c4];rfl
end Go.W
