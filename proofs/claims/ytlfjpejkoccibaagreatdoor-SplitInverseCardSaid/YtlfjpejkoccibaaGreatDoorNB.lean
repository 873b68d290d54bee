/-
  Walks: what functions of the program compute. Printed by wip/gen/mk2.py.
  Conditions: none.
-/
import Derived.Test.YtlfjpejkoccibaaGreatDoorNA
set_option linter.unusedSimpArgs false
set_option linter.unusedVariables false
set_option maxRecDepth 10000
namespace Go.W
open Go Go.Eng Go.Proofs Go.L41 Go.Br
attribute [local irreducible] AWP RWP TD finQ
abbrev ckN (b:Nat) (svL svS svP:Value) (n:Ns) (U S:List ByteArray) (W:List Int):List E:=
  [.row b 123 [.sl 8 (n.Bufs.map Bf.cells),.sl 20 (n.Body.map St.cells),.lit svL,.lit svS,.lit svP],.vec svL 9 1 (U.map fun s=>[cS s]),.vec svS 9 1 (S.map fun s=>[cS s]),.vec svP 3 1 (W.map fun i=>[cI i])]
abbrev vP (b:Nat):V:=.c (.lit (.pointer (some ⟨b,0,none⟩)))
theorem kF:aggT Tryz.prog 25=some 2:=by kernel_rfl
theorem zBw:aggT Tryz.prog 46=some 20:=by kernel_rfl
theorem wY:elemT Tryz.prog 228=some (38,5,40):=by kernel_rfl
theorem wO:fieldT Tryz.prog 25 1=some (1,23):=by kernel_rfl
theorem zBu:fieldT Tryz.prog 46 0=some (0,3):=by kernel_rfl
theorem zBt:fieldT Tryz.prog 46 1=some (1,9):=by kernel_rfl
theorem zAi:fieldT Tryz.prog 46 2=some (2,3):=by kernel_rfl
theorem zKs:fieldT Tryz.prog 46 3=some (3,3):=by kernel_rfl
theorem fd46_4:fieldT Tryz.prog 46 4=some (4,3):=by kernel_rfl
theorem zEc:fieldT Tryz.prog 46 5=some (5,34):=by kernel_rfl
theorem zCf:fieldT Tryz.prog 46 6=some (6,44):=by kernel_rfl
theorem zMg:fieldT Tryz.prog 123 0=some (0,25):=by kernel_rfl
theorem fd123_1:fieldT Tryz.prog 123 1=some (2,105):=by kernel_rfl
theorem zHi:fieldT Tryz.prog 123 2=some (3,105):=by kernel_rfl
theorem zFw:fieldT Tryz.prog 123 3=some (4,26):=by kernel_rfl
theorem ok81:callOk Tryz.prog 81=true:=by kernel_rfl
theorem ok82:callOk Tryz.prog 82=true:=by kernel_rfl
theorem ok101:callOk Tryz.prog 101=true:=by kernel_rfl
theorem ok129:callOk Tryz.prog 129=true:=by kernel_rfl
theorem ok163:callOk Tryz.prog 163=true:=by kernel_rfl
theorem ok164:callOk Tryz.prog 164=true:=by kernel_rfl
theorem ok165:callOk Tryz.prog 165=true:=by kernel_rfl
theorem ok167:callOk Tryz.prog 167=true:=by kernel_rfl
theorem ok187:callOk Tryz.prog 187=true:=by kernel_rfl
theorem ok188:callOk Tryz.prog 188=true:=by kernel_rfl
theorem ok189:callOk Tryz.prog 189=true:=by kernel_rfl
theorem ok190:callOk Tryz.prog 190=true:=by kernel_rfl
theorem ok205:callOk Tryz.prog 205=true:=by kernel_rfl
theorem ok209:callOk Tryz.prog 209=true:=by kernel_rfl
theorem ok210:callOk Tryz.prog 210=true:=by kernel_rfl
theorem ok211:callOk Tryz.prog 211=true:=by kernel_rfl
theorem ok241:callOk Tryz.prog 241=true:=by kernel_rfl
theorem ok242:callOk Tryz.prog 242=true:=by kernel_rfl
theorem ok243:callOk Tryz.prog 243=true:=by kernel_rfl
theorem zMt:oneT Tryz.prog 121=true:=by kernel_rfl
theorem pl123:placesT Tryz.prog 123=some [(0,2),(2,1),(3,1),(4,1)]:=by kernel_rfl
theorem f:(Tryz.prog.info? 38).map (·.size)=some 5:=by kernel_rfl
theorem sz46:(Tryz.prog.info? 46).map (·.size)=some 20:=by kernel_rfl
theorem d:zeroT Tryz.prog 46=some [(Value.int IntKind.i64 0),(Value.string (ByteArray.mk #[])),(Value.int IntKind.i64 0),(Value.int IntKind.i64 0),(Value.int IntKind.i64 0),(Value.slice none 0 0),(Value.int IntKind.i64 0),(Value.string (ByteArray.mk #[])),(Value.int IntKind.i64 0),(Value.int IntKind.i64 0),(Value.int IntKind.i64 0),(Value.int IntKind.i64 0),(Value.int IntKind.i64 0),(Value.int IntKind.i64 0),(Value.int IntKind.i64 0),(Value.int IntKind.i64 0),(Value.slice none 0 0),(Value.slice none 0 0),(Value.slice none 0 0),(Value.slice none 0 0)]:=by kernel_rfl
theorem zr123:zeroT Tryz.prog 123=some [(Value.slice none 0 0),(Value.slice none 0 0),(Value.slice none 0 0),(Value.slice none 0 0),(Value.slice none 0 0)]:=by kernel_rfl
theorem zGf (l:List Mono) (c:C) (p:Mono->Bool) (μ:List E) (hl:l.length<=4294967296) (hc:∀x,x∈l->FnCon cfg c [vMono x] μ fun r μ'=>r=vB (p x)/\μ'=μ):
    Con cfg 281 [vMonos l,.c c] μ fun r μ'=>r=vI (idxOf p l)/\μ'=μ:=by
 refine zQ Tryz.func281 O Tryz.ntmps281 Tryz.results281 O ?_
 intro z hz
 refine F O<|A O<|H<|zI<|F O<|A O<|qB O P<|A O<|H<|zS<|zV ⟨[(8,.c _),(0,.c _),(1,.c _),(7,.c _)],_⟩ (Weak.regs ⟨G,G,G,G,T⟩)<|zBv 1 O (Nat) (fun k=>[(8,vI k)]) (fun k=>μ) (fun k=>k<=l.length/\((l.take k).any p=false)) (fun k=>l.length-k) ⟨0,⟨by omega,O⟩,Weak.regs ⟨G,G,G,G,T⟩⟩ ?_
 rintro k ⟨hk,hp⟩
 refine F O<|yN O<|H<|zI<|zD O (fun c1=>?_) (fun c1=>?_)
 ·try simp only [I] at c1
  obtain ⟨x,hx⟩:=qZ l k (by omega)
  refine zH<|zI<|zS<|F O<|A O<|A O<|H<|F O<|A O<|A O<|A O<|qD O P (by omega) (v (by assumption))<|zO zMq qA O<|zU O O (wG O O (hc _ (zZ hx)) ⟨G,O,T⟩) ?_
  rintro _ _ ⟨rfl,rfl⟩
  refine H<|zD O (fun c2=>?_) (fun c2=>?_)
  ·try simp only [I] at c2
   refine F O<|A O<|A O<|H<|o<|X O ?_
   exact ⟨by rw [zOa hx c2 hp],O⟩
  ·try simp only [I] at c2
   refine zH<|zT O<|qK O ⟨by omega,by omega⟩<|A O<|H ?_
   refine ⟨k+1,⟨by omega,zOi hx hp c2⟩,(by omega),Weak.regs ⟨G,G,G,G,T⟩⟩
 ·try simp only [I] at c1
  refine qQ<|F O<|A O<|H<|o<|X O ?_
  exact ⟨by rw [zHx (by rw [kG (by omega)] at hp;exact hp)],O⟩
theorem zEg (l:List Mono) (c:C) (p:Mono->Bool) (μ:List E) (hl:l.length<=4294967296) (hc:∀x,x∈l->FnCon cfg c [vMono x] μ fun r μ'=>r=vB (p x)/\μ'=μ):
    Con cfg 241 [vMonos l,.c c] μ fun r μ'=>r=vB (l.any p)/\μ'=μ:=by
 refine zQ Tryz.func241 O Tryz.ntmps241 Tryz.results241 O ?_
 intro z hz
 refine F O<|A O<|H<|F O<|A O<|A O<|zU O O (zAb O ok281 (zGf l c p μ hl hc) ⟨G,O,G,O,T⟩) ?_
 rintro _ _ ⟨rfl,rfl⟩
 refine zR O (wK O O O)<|A O<|H<|o<|X O ?_
 exact ⟨by rw [zKo],O⟩
theorem zIf (l:List Lf) (c:C) (p:Lf->Bool) (μ:List E) (hl:l.length<=4294967296) (hc:∀x,x∈l->FnCon cfg c [vLin x] μ fun r μ'=>r=vB (p x)/\μ'=μ):
    Con cfg 243 [vLins l,.c c] μ fun r μ'=>r=vI (idxOf p l)/\μ'=μ:=by
 refine zQ Tryz.func243 O Tryz.ntmps243 Tryz.results243 O ?_
 intro z hz
 refine F O<|A O<|H<|zI<|F O<|A O<|qB O el70<|A O<|H<|zS<|zV ⟨[(8,.c _),(0,.c _),(1,.c _),(7,.c _)],_⟩ (Weak.regs ⟨G,G,G,G,T⟩)<|zBv 1 O (Nat) (fun k=>[(8,vI k)]) (fun k=>μ) (fun k=>k<=l.length/\((l.take k).any p=false)) (fun k=>l.length-k) ⟨0,⟨by omega,O⟩,Weak.regs ⟨G,G,G,G,T⟩⟩ ?_
 rintro k ⟨hk,hp⟩
 refine F O<|yN O<|H<|zI<|zD O (fun c1=>?_) (fun c1=>?_)
 ·try simp only [I] at c1
  obtain ⟨x,hx⟩:=qZ l k (by omega)
  refine zH<|zI<|zS<|F O<|A O<|A O<|H<|F O<|A O<|A O<|A O<|qD O el70 (by omega) (v (by assumption))<|zO kE qA O<|zU O O (wG O O (hc _ (zZ hx)) ⟨G,O,T⟩) ?_
  rintro _ _ ⟨rfl,rfl⟩
  refine H<|zD O (fun c2=>?_) (fun c2=>?_)
  ·try simp only [I] at c2
   refine F O<|A O<|A O<|H<|o<|X O ?_
   exact ⟨by rw [zOa hx c2 hp],O⟩
  ·try simp only [I] at c2
   refine zH<|zT O<|qK O ⟨by omega,by omega⟩<|A O<|H ?_
   refine ⟨k+1,⟨by omega,zOi hx hp c2⟩,(by omega),Weak.regs ⟨G,G,G,G,T⟩⟩
 ·try simp only [I] at c1
  refine qQ<|F O<|A O<|H<|o<|X O ?_
  exact ⟨by rw [zHx (by rw [kG (by omega)] at hp;exact hp)],O⟩
theorem zFi (l:List Lf) (c:C) (p:Lf->Bool) (μ:List E) (hl:l.length<=4294967296) (hc:∀x,x∈l->FnCon cfg c [vLin x] μ fun r μ'=>r=vB (p x)/\μ'=μ):
    Con cfg 210 [vLins l,.c c] μ fun r μ'=>r=vB (l.any p)/\μ'=μ:=by
 refine zQ Tryz.func210 O Tryz.ntmps210 Tryz.results210 O ?_
 intro z hz
 refine F O<|A O<|H<|F O<|A O<|A O<|zU O O (zAb O ok243 (zIf l c p μ hl hc) ⟨G,O,G,O,T⟩) ?_
 rintro _ _ ⟨rfl,rfl⟩
 refine zR O (wK O O O)<|A O<|H<|o<|X O ?_
 exact ⟨by rw [zKo],O⟩
theorem inScope_1 (b:Nat) (svL svS svP:Value) (n:Ns) (U S:List ByteArray) (W:List Int) (m:Mono) (hS:S.length<=1000000):
    Con cfg 242 [vMono m,.c (.iptr [.lit (.pointer (some ⟨b,0,none⟩))])] (ckN b svL svS svP n U S W) fun r μ'=>r=vB (!hasB S m.Name)/\μ'=ckN b svL svS svP n U S W:=by
 refine zQ Tryz.func242 O Tryz.ntmps242 Tryz.results242 O ?_
 intro z hz
 refine F O<|zU O O (qL O O) ?_
 rintro _ _ ⟨b1,rfl,rfl⟩
 refine A O<|H<|zI<|qY 6 mixed (by kernel_rfl) O O<|Y O O (Q O zMt O qA O)<|Y O O (qR O O)<|Y O O (zE O zHi O)<|Y O O (Q O zPj O (R 1 O) O)<|Y O O (zE O zCe O)<|Y O O (Q O one9 O (R 0 O) O)<|kH<|zR O (zKz 3 O ok143 O (zBm S m.Name hS) O ⟨.inl ⟨O,O⟩,.inr ⟨G,O⟩,T⟩)<|kY O<|A O<|H<|zV _ (Weak.mem [false,true,true,true,true] O)<|o<|X O ?_
 exact ⟨O,O⟩
theorem zMo (b:Nat) (svL svS svP:Value) (n:Ns) (U S:List ByteArray) (W:List Int) (l:Lf) (hS:S.length<=1000000) (hl:l.L.length<=4294967296):
    Con cfg 209 [vP b,vLin l] (ckN b svL svS svP n U S W) fun r μ'=>r=vB (inSc S l)/\μ'=ckN b svL svS svP n U S W:=by
 refine zQ Tryz.func209 O Tryz.ntmps209 Tryz.results209 O ?_
 intro z hz
 refine F O<|zU O O (qL O O) ?_
 rintro _ _ ⟨b1,rfl,rfl⟩
 refine yJ _ (yA 0 O 2 _ PLe.ptr)<|zU O O (qL O O) ?_
 rintro _ _ ⟨b2,rfl,rfl⟩
 refine A O<|H<|F O<|zJ O wU<|zK zDl (R 0 O) O<|zR O (zCx O O O O O)<|zR O (yK [1,1,1,1] O ok241 (zEg l.L _ (fun m=> !hasB S m.Name) (ckN b svL svS svP n U S W) hl (fun m _=>FnCon.of_con (first:=[]) (cap:=[.iptr [.lit (.pointer (some ⟨b,0,none⟩))]]) ok242 (inScope_1 b svL svS svP n U S W m hS))) ⟨G,O,G,O,T⟩ O)<|kY O<|A O<|H<|zV _ (Weak.mem [false,true,true,true,true] O)<|o<|X O ?_
 exact ⟨by rw [zGz];rfl,O⟩
theorem node_1 (b:Nat) (svL svS svP:Value) (n:Ns) (U S:List ByteArray) (W:List Int) (l:Lf) (hS:S.length<=1000000) (hl:l.L.length<=4294967296):
    Con cfg 211 [vLin l,.c (.iptr [.lit (.pointer (some ⟨b,0,none⟩))])] (ckN b svL svS svP n U S W) fun r μ'=>r=vB (!inSc S l)/\μ'=ckN b svL svS svP n U S W:=by
 refine zQ Tryz.func211 O Tryz.ntmps211 Tryz.results211 O ?_
 intro z hz
 refine F O<|zU O O (qL O O) ?_
 rintro _ _ ⟨b1,rfl,rfl⟩
 refine A O<|H<|F O<|zK zMt qA O<|zO kE (R 0 O) O<|zR O (yK [1,1,1,1] O ok209 (zMo b svL svS svP n U S W l hS hl) ⟨G,O,G,O,T⟩ O)<|kY O<|A O<|H<|zV _ (Weak.mem [false,true,true,true,true] O)<|o<|X O ?_
 exact ⟨O,O⟩
theorem ck_node (b:Nat) (svL svS svP:Value) (n:Ns) (U S:List ByteArray) (W:List Int) (e:Ex) (hn:n.Ok) (hS:S.length<=1000000) (he:e.wt<=1073741824):
    Con cfg 189 [vP b,vE e] (ckN b svL svS svP n U S W) fun r μ'=>r=vI (nodeN n.Bufs S e)/\μ'=ckN b svL svS svP n U S W:=by
 refine zQ Tryz.func189 O Tryz.ntmps189 Tryz.results189 O ?_
 intro z hz
 obtain ⟨hL,hI,hA⟩:=e.parts he
 have hwt:=Ex.wt_eq e
 refine F O<|zU O O (qL O O) ?_
 rintro _ _ ⟨b1,rfl,rfl⟩
 refine yJ _ (yA 0 O 2 _ PLe.ptr)<|zU O O (qL O O) ?_
 rintro _ _ ⟨b2,rfl,rfl⟩
 refine A O<|H<|F O<|zK zMt qA O<|zJ O zEv<|zO kE (R 0 O) O<|zR O (yK [1,1,1,1] O ok209 (zMo b svL svS svP n U S W e.Lin hS (by omega)) ⟨G,O,G,O,T⟩ O)<|A O<|H<|zI<|F O<|zJ O zAw<|zK zBn (R 0 O) O<|qB O g<|A O<|H<|zS<|zV ⟨[(20,.c _),(5,.c _),(2,.c _),(3,.c _),(18,.c _),(19,.c _)],[_,_,_,_,_]⟩ (Weak.mk [true,true,true,true,true] ⟨G,G,G,G,G,G,T⟩ O) ?_
 refine qO 2 0 O O (Nat) (fun k=>[(20,vI k),(5,vB (inSc S e.Lin&&(e.Idx.take k).all (ixSc S)))]) (fun k=>[]) (fun k=>k<=e.Idx.length) (fun k=>e.Idx.length-k) ⟨0,(by omega),Weak.mk [true,true,true,true,true] ⟨G,VLe.of_eq (congrArg vB (by simp)),G,G,G,G,T⟩ O⟩ ?_
 rintro k hk
 refine F O<|yN O<|H<|zI<|zD O (fun c1=>?_) (fun c1=>?_)
 ·try simp only [I] at c1
  obtain ⟨x,hx⟩:=qZ e.Idx k (by omega)
  refine zH<|zI<|zS<|F O<|qD O g (by omega) (v (by assumption))<|zO zNl qA O<|zU O O (qC [none,some 2,none,some 2] O zr72 O) ?_
  rintro _ _ ⟨b3,rfl,rfl⟩
  refine D 0 sz72 O<|H<|zT O<|A O<|A O<|M O (fun g5_1=>Q O zMt O qA O) O<|M O (fun g5_1=>zE O zHh O) O<|B 27 O (fun g5_1=>zX O kE O (R 0 O) O) O<|rLz [(26,_),(28,_)] O gv1 ⟨O,O,O,O,T⟩ (fun g5_1=>yK [2,2,2,2] O ok209 (zMo b svL svS svP n U S W x.Lin hS (by have:=Ex.idx_wt (zZ hx);omega)) ⟨G,O,G,O,T⟩ O) O<|kD O (fun h=>h)<|A O<|M O (fun g5_7=>zE O zCk O) O<|B 32 O (fun g5_7=>Q O zGy O (R 0 O) O) O<|M O (fun g5_7=>zCx O O O O O) O<|rLz [(33,_),(34,_)] O gv1 ⟨O,O,O,O,T⟩ (fun g5_7=>yK [2,2,2,2] O ok210 (zFi x.At _ (fun l=> !inSc S l) (ckN b svL svS svP n U S W) (by have:=Ex.idx_wt (zZ hx);omega) (fun l hl=>FnCon.of_con (first:=[]) (cap:=[.iptr [.lit (.pointer (some ⟨b,0,none⟩))]]) ok211 (node_1 b svL svS svP n U S W l hS (by have:=Ex.idx_wt (zZ hx);have:=zDo hl;omega)))) ⟨G,O,G,O,T⟩ O) O<|B 35 O (fun g5_7=>wC O O) O<|kD O (fun h=>h)<|A O<|H<|zT O<|qK O ⟨by omega,by omega⟩<|A O<|H ?_
  refine ⟨k+1,(by omega),(by omega),Weak.mk [false,true,true,true,true,true] ⟨G,VLe.of_eq (congrArg vB (by rw [zGz];exact scAll_next hx)),G,G,G,G,T⟩ O⟩
 ·try simp only [I] at c1
  rw [kG (l:=e.Idx) (k:=k) (by omega)]
  refine qQ<|zI<|F O<|A O<|kY O<|H<|zD O (fun c2=>?_) (fun c2=>?_)
  ·have h9:nodeSc S e=false:=(Bool.not_eq_true' _).mp c2
   refine F O<|A O<|H<|zV _ (Weak.mem [false,true,true,true,true] O)<|o<|X O ?_
   exact ⟨by rw [nodeN_9 h9],O⟩
  ·have h9:nodeSc S e=true:=(Bool.not_eq_false' _).mp c2
   refine zH<|zI<|F O<|zJ O wT<|zK J (R 0 O) O<|yP O<|H<|zD O (fun c3=>?_) (fun c3=>?_)
   ·try simp only [I] at c3
    refine F O<|A O<|H<|zV _ (Weak.mem [false,true,true,true,true] O)<|o<|X O ?_
    exact ⟨by rw [nodeN_o h9 c3],O⟩
   ·try simp only [I] at c3
    refine zH<|zI<|kS 12 1 [⟨0,.q []⟩,⟨1,.q []⟩,⟨2,.q []⟩,⟨3,.q [2]⟩,⟨4,.q []⟩,⟨5,.q [1]⟩,⟨6,.q []⟩,⟨7,.q []⟩,⟨8,.q []⟩,⟨9,.q []⟩,⟨10,.e 0 []⟩,⟨11,.e 0 []⟩] mixed (by kernel_rfl) (by kernel_rfl) O O O<|t O<|t O<|t O<|t O<|t O<|t O<|t O<|t O<|t O<|t O<|t O<|t O<|zDg<|qF O (by decide) O O (Q O zMt O qA O)<|qF O (by decide) O O (qR O O)<|qF O (by decide) O O (zE O zMg O)<|qF O (by decide) O O (zX O kF O (R 0 O) O)<|qF O (by decide) O O (zE O zKu O)<|qF O (by decide) O O (Q O one9 O (R 0 O) O)<|qF O (by decide) O O (qI O ok101 (wJ n e.Name hn) ⟨G,O,G,O,T⟩)<|qF O (by decide) O O (kQ O O)<|qF O (by decide) O O (qT O O O)<|qF O (by decide) O O (wP O O O)<|zNd O O (by decide) O O (qC [none,none,none,none,none,none,some 1,none] O zr65 O) ?_
    rintro _ _ ⟨b4,rfl,rfl⟩
    refine ⟨_,O,?_⟩
    refine zIm O O (by decide) O O (yO O sz65 O O O (zIk 0 O O)) ?_
    rintro _ _ ⟨rfl,rfl⟩
    refine ⟨_,O,?_⟩
    refine zDf O<|A O<|H<|zI<|F O<|A O<|kY O<|H<|zD O (fun c4=>?_) (fun c4=>?_)
    ·try simp only [I] at c4
     refine F O<|A O<|H<|zV _ (Weak.mem [false,false,true,true,true,true] O)<|o<|X O ?_
     exact ⟨by rw [nodeN_n h9 (by omega) c4],O⟩
    ·try simp only [I] at c4
     refine zH<|zI<|F O<|zJ O zQm<|zK zIg (R 0 O) O<|qB O L<|zJ O zAw<|zK zBn (R 1 O) O<|qB O g<|yP O<|H<|zD O (fun c5=>?_) (fun c5=>?_)
     ·try simp only [I] at c5
      refine F O<|A O<|H<|zV _ (Weak.mem [false,false,true,true,true,true] O)<|o<|X O ?_
      exact ⟨by rw [nodeN_r h9 (by omega) c4 (by omega)],O⟩
     ·try simp only [I] at c5
      refine zH<|zI<|F O<|zJ O zAw<|zK zBn (R 1 O) O<|qB O g<|A O<|H<|zS<|zV ⟨[(66,.c _),(2,.c _),(64,.c _),(65,.c _)],[_,_,_,_]⟩ (Weak.mk [false,false,true,true,true,true] ⟨G,G,G,G,T⟩ O)<|qO 1 0 O O (Nat) (fun j=>[(66,vI j)]) (fun j=>[]) (fun j=>j<=e.Idx.length/\(gathL n.Bufs e.Idx=gathL n.Bufs (e.Idx.drop j))) (fun j=>e.Idx.length-j) ⟨0,⟨by omega,O⟩,Weak.mk [true,true,true,true] ⟨G,G,G,G,T⟩ O⟩ ?_
      rintro j ⟨hk,hq⟩
      refine F O<|yN O<|H<|zI<|zD O (fun c6=>?_) (fun c6=>?_)
      ·try simp only [I] at c6
       obtain ⟨y,hy⟩:=qZ e.Idx j (by omega)
       refine zH<|zI<|zS<|F O<|qD O g (by omega) (v (by assumption))<|zO zNl qA O<|zU O O (qC [none,some 2,none,some 2] O zr72 O) ?_
       rintro _ _ ⟨b5,rfl,rfl⟩
       refine D 0 sz72 O<|H<|zI<|F O<|zJ O zKr<|zK one9 (R 0 O) O<|zR O (yM O O O)<|H<|zD O (fun c7=>?_) (fun c7=>?_)
       ·try simp only [I] at c7
        refine qQ<|zT O<|qK O ⟨by omega,by omega⟩<|A O<|H ?_
        refine ⟨j+1,⟨by omega,hq.trans (gathL_next hy (by first|exact gathE_0 c7|exact gathE_ok c7 c8 (by omega) (by omega)))⟩,(by omega),Weak.mk [false,true,true,true,true] ⟨G,G,G,G,T⟩ O⟩
       ·try simp only [I] at c7
        refine zH<|zI<|kS 12 1 [⟨0,.q []⟩,⟨1,.q []⟩,⟨2,.q []⟩,⟨3,.q [2]⟩,⟨4,.q []⟩,⟨5,.q [1]⟩,⟨6,.q []⟩,⟨7,.q []⟩,⟨8,.q []⟩,⟨9,.q []⟩,⟨10,.e 0 []⟩,⟨11,.e 0 []⟩] mixed (by kernel_rfl) (by kernel_rfl) O O O<|t O<|t O<|t O<|t O<|t O<|t O<|t O<|t O<|t O<|t O<|t O<|t O<|zDg<|qF O (by decide) O O (Q O zMt O qA O)<|qF O (by decide) O O (qR O O)<|qF O (by decide) O O (zE O zMg O)<|qF O (by decide) O O (zX O kF O (R 0 O) O)<|qF O (by decide) O O (zE O zKr O)<|qF O (by decide) O O (Q O one9 O (R 0 O) O)<|qF O (by decide) O O (qI O ok101 (wJ n y.From hn) ⟨G,O,G,O,T⟩)<|qF O (by decide) O O (kQ O O)<|qF O (by decide) O O (qT O O O)<|qF O (by decide) O O (wP O O O)<|zNd O O (by decide) O O (qC [none,none,none,none,none,none,some 1,none] O zr65 O) ?_
        rintro _ _ ⟨b6,rfl,rfl⟩
        refine ⟨_,O,?_⟩
        refine zIm O O (by decide) O O (yO O sz65 O O O (zIk 0 O O)) ?_
        rintro _ _ ⟨rfl,rfl⟩
        refine ⟨_,O,?_⟩
        refine zDf O<|A O<|H<|zS<|F O<|A O<|kY O<|A O<|H<|zD O (fun c8=>?_) (fun c8=>?_)
        ·try simp only [I] at c8
         refine F O<|A O<|H<|zV _ (Weak.mem [false,false,true,true,true,true] O)<|o<|X O ?_
         exact ⟨by rw [nodeN_g h9 (by omega) c4 (by omega),hq,gathL_no hy (by rw [gathE_9 c7 c8];decide),gathE_9 c7 c8],O⟩
        ·try simp only [I] at c8
         refine F O<|zJ O fd65_1<|zJ O zQn<|zK J (R 0 O) O<|yP O<|A O<|H<|zD O (fun c9=>?_) (fun c9=>?_)
         ·try simp only [I] at c9
          refine F O<|A O<|H<|zV _ (Weak.mem [false,false,true,true,true,true] O)<|o<|X O ?_
          exact ⟨by rw [nodeN_g h9 (by omega) c4 (by omega),hq,gathL_no hy (by rw [gathE_10 c7 c8 c9];decide),gathE_10 c7 c8 c9],O⟩
         ·try simp only [I] at c9
          refine F O<|zJ O zQm<|zK zIg (R 0 O) O<|qB O L<|zJ O zCk<|zK zGy (R 1 O) O<|qB O el70<|yP O<|A O<|H<|zD O (fun c10=>?_) (fun c10=>?_)
          ·try simp only [I] at c10
           refine F O<|A O<|H<|zV _ (Weak.mem [false,false,true,true,true,true] O)<|o<|X O ?_
           exact ⟨by rw [nodeN_g h9 (by omega) c4 (by omega),hq,gathL_no hy (by rw [gathE_11 c7 c8 c9 (by omega)];decide),gathE_11 c7 c8 c9 (by omega)],O⟩
          ·try simp only [I] at c10
           refine zH<|zT O<|qK O ⟨by omega,by omega⟩<|A O<|H ?_
           refine ⟨j+1,⟨by omega,hq.trans (gathL_next hy (by first|exact gathE_0 c7|exact gathE_ok c7 c8 (by omega) (by omega)))⟩,(by omega),Weak.mk [false,false,true,true,true,true] ⟨G,G,G,G,T⟩ O⟩
      ·try simp only [I] at c6
       refine qQ<|F O<|A O<|H<|o<|X O ?_
       exact ⟨by rw [nodeN_g h9 (by omega) c4 (by omega),hq,kB (by omega)];rfl,O⟩
theorem ck_typeOf_step (b:Nat) (svL svS svP:Value) (n:Ns) (U S:List ByteArray) (W:List Int) (hn:n.Ok) (e:Ex) (ih:∀a,a∈e.Args->partE a=0->a.wt<=1073741824->Con cfg 190 [vP b,vE a] (ckN b svL svS svP n U S W) fun r μ'=>r=.tup [vTy (nodeT (tyF n.Bufs) a).1,vI (nodeT (tyF n.Bufs) a).2]/\μ'=ckN b svL svS svP n U S W) (hpart:partE e=0) (he:e.wt<=1073741824):
    Con cfg 190 [vP b,vE e] (ckN b svL svS svP n U S W) fun r μ'=>r=.tup [vTy (nodeT (tyF n.Bufs) e).1,vI (nodeT (tyF n.Bufs) e).2]/\μ'=ckN b svL svS svP n U S W:=by
 refine Con.drop<|zQ Tryz.func190 O Tryz.ntmps190 Tryz.results190 O ?_
 intro z hz
 obtain ⟨hLl,hIl,hAl⟩:=e.parts he
 have hwt:=Ex.wt_eq e
 refine F O<|zU O O (qL O O) ?_
 rintro _ _ ⟨b1,rfl,rfl⟩
 refine zU O O (yV O l) ?_
 rintro _ _ ⟨b2,rfl,rfl⟩
 refine A O<|H<|F O<|A O<|yJ _ (wL 38 5)<|H<|zI<|F O<|zJ O zAv<|zK zEh (R 2 O) O<|qB O el42<|A O<|H<|zS<|zV ⟨[(16,.c _),(6,.c _),(0,.c _),(3,.c _),(4,.c _),(14,.c _),(15,.c _)],[_,_,_,_,_,_,_]⟩ (Weak.mk [true,true,true,true,true,true,true] ⟨G,G,G,G,G,G,G,T⟩ O)<|qO 2 1 O O (Nat×Value) (fun ⟨k,sv⟩=>[(16,vI k),(6,.c (.lit sv))]) (fun ⟨k,sv⟩=>[E.vec sv 38 5 ((nodeL (tyF n.Bufs) (e.Args.take k)).1.map tyC)]) (fun ⟨k,sv⟩=>k<=e.Args.length/\((nodeL (tyF n.Bufs) (e.Args.take k)).2=0)) (fun ⟨k,sv⟩=>e.Args.length-k) ⟨⟨0,(.slice none 0 0)⟩,⟨by omega,O⟩,Weak.mk [true,true,true,true,true,true,true] ⟨G,G,G,G,G,G,G,T⟩ O⟩ ?_
 rintro ⟨k,sv⟩ ⟨hk,hp⟩
 show AWP _ _ _ _ _ ⟨[(16,vI k),(6,.c (.lit sv))]++_,[E.vec sv 38 5 ((nodeL (tyF n.Bufs) (e.Args.take k)).1.map tyC)]++_⟩
 refine F O<|yN O<|H<|zI<|zD O (fun c1=>?_) (fun c1=>?_)
 ·try simp only [I] at c1
  obtain ⟨x,hx⟩:=qZ e.Args k (by omega)
  have hll:=zPm _ _ hp
  refine zH<|zI<|zS<|F O<|qD O el42 (by omega) (zIh (by assumption))<|zO kL qA O<|zU O O (qC [none,none,none,none,none,none,none,none,none,none,some 2,some 4,some 13] O zr44 O) ?_
  rintro _ _ ⟨b4,rfl,rfl⟩
  refine D 0 sz44 O<|H<|F O<|A O<|zO kL (R 0 O) O<|zR O (yK [4,4,4,4] O ok190 (ih x (zZ hx) (partE_arg hpart (zZ hx)) (by have:=Ex.arg_wt (zZ hx);omega)) ⟨G,O,G,O,T⟩ O)<|qN O<|zR O (qT O O O)<|qU O<|zU O O (yV O l) ?_
  rintro _ _ ⟨b5,rfl,rfl⟩
  refine D 0 f O<|A O<|H<|zI<|F O<|A O<|yP O<|H<|zD O (fun c2=>?_) (fun c2=>?_)
  ·try simp only [I] at c2
   refine F O<|zO yR (R 0 O) O<|A O<|D 3 f O<|A O<|H<|zV _ (Weak.mem [false,false,false,true,false,true,true,true,true] O)<|o<|p (y yR O (R 0 O) O) (N O) ?_
   exact ⟨by rw [nodeT_no hx hp c2,nodeT_zero c2];rfl,[_],O⟩
  ·try simp only [I] at c2
   refine zH<|zT O<|A O<|zO yR (R 0 O) O<|zR O (qW O wY l O O O O)<|zU O O (yU 2 O wY O O O (by simp only [List.length_map,List.length_cons,List.length_nil,hll,List.length_take];omega) (by simp only [List.length_map,List.length_cons,List.length_nil,hll,List.length_take];omega)) ?_
   rintro _ _ ⟨sv6,rfl,rfl⟩
   refine A O<|H<|zT O<|qK O ⟨by omega,by omega⟩<|A O<|H ?_
   refine ⟨⟨k+1,sv6⟩,⟨by omega,by rw [nodeL_next hx hp c2]⟩,(by show e.Args.length-(k+1)<e.Args.length-k;omega),Weak.mk [false,false,true,true,true,true,true,true,true] ⟨G,G,G,G,G,G,G,T⟩ (by show _=[E.vec sv6 _ 5 ((nodeL (tyF n.Bufs) (e.Args.take (k+1))).1.map tyC)]++_;rw [nodeL_next hx hp c2];simp only [List.map_append];rfl)⟩
 ·try simp only [I] at c1
  have hll:=zPm _ _ hp
  have hta:e.Args.take k=e.Args:=kG (by omega)
  rw [hta] at hll
  have hg:∀i,i<e.Args.length->((nodeL (tyF n.Bufs) (e.Args.take k)).1.map tyC)[i]? =some (tyC (tyAt (nodeL (tyF n.Bufs) (e.Args.take k)).1 i)):=fun i hi=>tyAt_get (by rw [hta];omega)
  have hgn:∀i:Nat,1<=i->i<=e.Args.length->∀j:Int,j=(((nodeL (tyF n.Bufs) (e.Args.take k)).1.length:Int)-i)->((nodeL (tyF n.Bufs) (e.Args.take k)).1.map tyC)[j.toNat]? =some (tyC (tyAt (nodeL (tyF n.Bufs) (e.Args.take k)).1 ((nodeL (tyF n.Bufs) (e.Args.take k)).1.length-i))):=fun i h1 h2 j hj=>by rw [hta] at *;rw [show j.toNat=(nodeL (tyF n.Bufs) e.Args).1.length-i by omega];exact tyAt_get (by omega)
  have hT:nodeT (tyF n.Bufs) e=tyF n.Bufs e (nodeL (tyF n.Bufs) (e.Args.take k)).1:=nodeT_ok hta hp
  have hlk:(nodeL (tyF n.Bufs) (e.Args.take k)).1.length=e.Args.length:=by rw [hta];exact hll
  refine qQ<|zI<|F O<|zJ O wT<|zK J (R 2 O) O<|H<|zS<|zI<|F O<|yZ O<|A O<|H<|zD O (fun c3=>?_) (fun c3=>?_)
  ·try simp only [I] at c3
   refine zH<|zD O (fun c4=>?_) (fun c4=>?_)
   ·try simp only [I] at c4
    refine F O<|zJ O zKt<|zO yR (R 2 O) O<|D 1 f O<|A O<|H<|zV _ (Weak.mem [false,true,false,true,true,true,true] O)<|o<|p (y yR O (R 0 O) O) (N O) ?_
    exact ⟨by rw [hT];first|(rw [zBd (by omega)];rfl)|(rw [zBc (by omega)];rfl)|(rw [zAx (by omega)];rfl)|(rw [zBb (by omega)];rfl)|(rw [wE (by omega)];rfl)|(rw [wF ho h10];rfl)|(rw [zBa ho h10 c12];rfl)|(rw [zAz ho h10 c12];rfl),[_],O⟩
   ·try simp only [I] at c4
    refine F O<|yZ O<|A O<|H<|zD O (fun c5=>?_) (fun c5=>?_)
    ·try simp only [I] at c5
     refine F O<|yS O l pl38<|D 1 f O<|A O<|H<|zV _ (Weak.mem [false,true,false,true,true,true,true] O)<|o<|p (y yR O (R 0 O) O) (N O) ?_
     exact ⟨by rw [hT];first|(rw [zBd (by omega)];rfl)|(rw [zBc (by omega)];rfl)|(rw [zAx (by omega)];rfl)|(rw [zBb (by omega)];rfl)|(rw [wE (by omega)];rfl)|(rw [wF ho h10];rfl)|(rw [zBa ho h10 c12];rfl)|(rw [zAz ho h10 c12];rfl),[_],O⟩
    ·try simp only [I] at c5
     refine F O<|yZ O<|A O<|H<|zD O (fun c6=>?_) (fun c6=>?_)
     ·try simp only [I] at c6
      refine zI<|kS 12 1 [⟨0,.q []⟩,⟨1,.q []⟩,⟨2,.q []⟩,⟨3,.q [4]⟩,⟨4,.q []⟩,⟨5,.q [3]⟩,⟨6,.q []⟩,⟨7,.q []⟩,⟨8,.q []⟩,⟨9,.q []⟩,⟨10,.e 0 []⟩,⟨11,.e 0 []⟩] mixed (by kernel_rfl) (by kernel_rfl) O O O<|t O<|t O<|t O<|t O<|t O<|t O<|t O<|t O<|t O<|t O<|t O<|t O<|zDg<|qF O (by decide) O O (w O O)<|qF O (by decide) O O (qR O O)<|qF O (by decide) O O (zE O zMg O)<|qF O (by decide) O O (zX O kF O (R 0 O) O)<|qF O (by decide) O O (zE O zKu O)<|qF O (by decide) O O (Q O one9 O (R 0 O) O)<|qF O (by decide) O O (qI O ok101 (wJ n e.Name hn) ⟨G,O,G,O,T⟩)<|qF O (by decide) O O (kQ O O)<|qF O (by decide) O O (qT O O O)<|qF O (by decide) O O (wP O O O)<|zNd O O (by decide) O O (qC [none,none,none,none,none,none,some 1,none] O zr65 O) ?_
      rintro _ _ ⟨b7,rfl,rfl⟩
      refine ⟨_,O,?_⟩
      refine zIm O O (by decide) O O (yO O sz65 O O O (zIk 0 O O)) ?_
      rintro _ _ ⟨rfl,rfl⟩
      refine ⟨_,O,?_⟩
      refine zDf O<|A O<|H<|F O<|zJ O fd65_1<|zO yR (R 0 O) O<|D 2 f O<|A O<|H<|zV _ (Weak.mem [false,false,true,false,true,true,true,true] O)<|o<|p (y yR O (R 0 O) O) (N O) ?_
      exact ⟨by rw [hT];first|(rw [zBd (by omega)];rfl)|(rw [zBc (by omega)];rfl)|(rw [zAx (by omega)];rfl)|(rw [zBb (by omega)];rfl)|(rw [wE (by omega)];rfl)|(rw [wF ho h10];rfl)|(rw [zBa ho h10 c12];rfl)|(rw [zAz ho h10 c12];rfl),[_],O⟩
     ·try simp only [I] at c6
      refine F O<|yZ O<|A O<|H<|zD O (fun c7=>?_) (fun c7=>?_)
      ·try simp only [I] at c7
       have hlen1:=args_len hpart (by omega)
       refine F O<|A O<|zR O (qM 0 O wY O O O (by omega) (by simp only [List.length_map];omega))<|zO yR (wN 0 O (hg 0 (by omega))) O<|D 1 f O<|A O<|H<|zV _ (Weak.mem [false,true,false,true,true,true,true] O)<|o<|p (y yR O (R 0 O) O) (N O) ?_
       exact ⟨by rw [hT];first|(rw [zBd (by omega)];rfl)|(rw [zBc (by omega)];rfl)|(rw [zAx (by omega)];rfl)|(rw [zBb (by omega)];rfl)|(rw [wE (by omega)];rfl)|(rw [wF ho h10];rfl)|(rw [zBa ho h10 c12];rfl)|(rw [zAz ho h10 c12];rfl),[_],O⟩
      ·try simp only [I] at c7
       refine zI<|F O<|yZ O<|A O<|H<|zD O (fun c8=>?_) (fun c8=>?_)
       ·try simp only [I] at c8
        refine zH<|zD O (fun c10=>?_) (fun c10=>?_)
        ·try simp only [I] at c10
         refine F O<|yS O l pl38<|D 1 f O<|A O<|H<|zV _ (Weak.mem [false,true,false,true,true,true,true] O)<|o<|p (y yR O (R 0 O) O) (N O) ?_
         exact ⟨by rw [hT];first|(rw [zBd (by omega)];rfl)|(rw [zBc (by omega)];rfl)|(rw [zAx (by omega)];rfl)|(rw [zBb (by omega)];rfl)|(rw [wE (by omega)];rfl)|(rw [wF ho h10];rfl)|(rw [zBa ho h10 c12];rfl)|(rw [zAz ho h10 c12];rfl),[_],O⟩
        ·try simp only [I] at c10
         have hlen2:=zFc hpart (by omega)
         have ho:¬opLow e.Op:=by unfold opLow;omega
         refine zH<|zI<|zI<|qY 13 mixed (by kernel_rfl) O O<|Y O O (w O O)<|Y O O (w O O)<|Y O O (yQ 0 O wY O O)<|Y O O (yB O O O (by simp only [List.length_map];exact ⟨by omega,by omega⟩))<|Y O O (qM 0 O wY O O O (by simp only [List.length_map];omega) (by simp only [List.length_map];omega))<|Y O O (zX O yR O (wN 0 O (hgn 2 (by omega) (by omega) _ (by simp only [List.length_map];rfl))) O)<|Y O O (w O O)<|Y O O (w O O)<|Y O O (yQ 0 O wY O O)<|Y O O (yB O O O (by simp only [List.length_map];exact ⟨by omega,by omega⟩))<|Y O O (qM 0 O wY O O O (by simp only [List.length_map];omega) (by simp only [List.length_map];omega))<|Y O O (zX O yR O (wN 0 O (hgn 1 (by omega) (by omega) _ (by simp only [List.length_map];rfl))) O)<|Y O O (zCi O fl38 O O O)<|kH<|H<|zD O (fun c11=>?_) (fun c11=>?_)
         ·have h10:=zHp c11
          refine F O<|yS O l pl38<|D 1 f O<|A O<|H<|zV _ (Weak.mem [false,true,false,true,true,true,true] O)<|o<|p (y yR O (R 0 O) O) (N O) ?_
          exact ⟨by rw [hT];first|(rw [zBd (by omega)];rfl)|(rw [zBc (by omega)];rfl)|(rw [zAx (by omega)];rfl)|(rw [zBb (by omega)];rfl)|(rw [wE (by omega)];rfl)|(rw [wF ho h10];rfl)|(rw [zBa ho h10 c12];rfl)|(rw [zAz ho h10 c12];rfl),[_],O⟩
         ·have h10:=zHq c11
          refine zH<|zI<|F O<|zO kL (R 2 O) O<|qG O ok166 (kO e) ⟨G,O,T⟩<|H<|zD O (fun c12=>?_) (fun c12=>?_)
          ·try simp only [I] at c12
           refine F O<|yS O l pl38<|D 1 f O<|A O<|H<|zV _ (Weak.mem [false,true,false,true,true,true,true] O)<|o<|p (y yR O (R 0 O) O) (N O) ?_
           exact ⟨by rw [hT];first|(rw [zBd (by omega)];rfl)|(rw [zBc (by omega)];rfl)|(rw [zAx (by omega)];rfl)|(rw [zBb (by omega)];rfl)|(rw [wE (by omega)];rfl)|(rw [wF ho h10];rfl)|(rw [zBa ho h10 c12];rfl)|(rw [zAz ho h10 c12];rfl),[_],O⟩
          ·try simp only [I] at c12
           refine zH<|F O<|A O<|A O<|zR O (yQ 0 O wY O O)<|zR O (yB O O O (by simp only [List.length_map];exact ⟨by omega,by omega⟩))<|zR O (qM 0 O wY O O O (by simp only [List.length_map];omega) (by simp only [List.length_map];omega))<|zO yR (wN 0 O (hgn 1 (by omega) (by omega) _ (by simp only [List.length_map];rfl))) O<|D 1 f O<|A O<|H<|zV _ (Weak.mem [false,true,false,true,true,true,true] O)<|o<|p (y yR O (R 0 O) O) (N O) ?_
           exact ⟨by rw [hT];first|(rw [zBd (by omega)];rfl)|(rw [zBc (by omega)];rfl)|(rw [zAx (by omega)];rfl)|(rw [zBb (by omega)];rfl)|(rw [wE (by omega)];rfl)|(rw [wF ho h10];rfl)|(rw [zBa ho h10 c12];rfl)|(rw [zAz ho h10 c12];rfl),[_],O⟩
       ·try simp only [I] at c8
        refine F O<|yZ O<|A O<|H<|zD O (fun c9=>?_) (fun c9=>?_)
        ·try simp only [I] at c9
         refine zH<|zD O (fun c10=>?_) (fun c10=>?_)
         ·try simp only [I] at c10
          refine F O<|yS O l pl38<|D 1 f O<|A O<|H<|zV _ (Weak.mem [false,true,false,true,true,true,true] O)<|o<|p (y yR O (R 0 O) O) (N O) ?_
          exact ⟨by rw [hT];first|(rw [zBd (by omega)];rfl)|(rw [zBc (by omega)];rfl)|(rw [zAx (by omega)];rfl)|(rw [zBb (by omega)];rfl)|(rw [wE (by omega)];rfl)|(rw [wF ho h10];rfl)|(rw [zBa ho h10 c12];rfl)|(rw [zAz ho h10 c12];rfl),[_],O⟩
         ·try simp only [I] at c10
          have hlen2:=zFc hpart (by omega)
          have ho:¬opLow e.Op:=by unfold opLow;omega
          refine zH<|zI<|zI<|qY 13 mixed (by kernel_rfl) O O<|Y O O (w O O)<|Y O O (w O O)<|Y O O (yQ 0 O wY O O)<|Y O O (yB O O O (by simp only [List.length_map];exact ⟨by omega,by omega⟩))<|Y O O (qM 0 O wY O O O (by simp only [List.length_map];omega) (by simp only [List.length_map];omega))<|Y O O (zX O yR O (wN 0 O (hgn 2 (by omega) (by omega) _ (by simp only [List.length_map];rfl))) O)<|Y O O (w O O)<|Y O O (w O O)<|Y O O (yQ 0 O wY O O)<|Y O O (yB O O O (by simp only [List.length_map];exact ⟨by omega,by omega⟩))<|Y O O (qM 0 O wY O O O (by simp only [List.length_map];omega) (by simp only [List.length_map];omega))<|Y O O (zX O yR O (wN 0 O (hgn 1 (by omega) (by omega) _ (by simp only [List.length_map];rfl))) O)<|Y O O (zCi O fl38 O O O)<|kH<|H<|zD O (fun c11=>?_) (fun c11=>?_)
          ·have h10:=zHp c11
           refine F O<|yS O l pl38<|D 1 f O<|A O<|H<|zV _ (Weak.mem [false,true,false,true,true,true,true] O)<|o<|p (y yR O (R 0 O) O) (N O) ?_
           exact ⟨by rw [hT];first|(rw [zBd (by omega)];rfl)|(rw [zBc (by omega)];rfl)|(rw [zAx (by omega)];rfl)|(rw [zBb (by omega)];rfl)|(rw [wE (by omega)];rfl)|(rw [wF ho h10];rfl)|(rw [zBa ho h10 c12];rfl)|(rw [zAz ho h10 c12];rfl),[_],O⟩
          ·have h10:=zHq c11
           refine zH<|zI<|F O<|zO kL (R 2 O) O<|qG O ok166 (kO e) ⟨G,O,T⟩<|H<|zD O (fun c12=>?_) (fun c12=>?_)
           ·try simp only [I] at c12
            refine F O<|yS O l pl38<|D 1 f O<|A O<|H<|zV _ (Weak.mem [false,true,false,true,true,true,true] O)<|o<|p (y yR O (R 0 O) O) (N O) ?_
            exact ⟨by rw [hT];first|(rw [zBd (by omega)];rfl)|(rw [zBc (by omega)];rfl)|(rw [zAx (by omega)];rfl)|(rw [zBb (by omega)];rfl)|(rw [wE (by omega)];rfl)|(rw [wF ho h10];rfl)|(rw [zBa ho h10 c12];rfl)|(rw [zAz ho h10 c12];rfl),[_],O⟩
           ·try simp only [I] at c12
            refine zH<|F O<|A O<|A O<|zR O (yQ 0 O wY O O)<|zR O (yB O O O (by simp only [List.length_map];exact ⟨by omega,by omega⟩))<|zR O (qM 0 O wY O O O (by simp only [List.length_map];omega) (by simp only [List.length_map];omega))<|zO yR (wN 0 O (hgn 1 (by omega) (by omega) _ (by simp only [List.length_map];rfl))) O<|D 1 f O<|A O<|H<|zV _ (Weak.mem [false,true,false,true,true,true,true] O)<|o<|p (y yR O (R 0 O) O) (N O) ?_
            exact ⟨by rw [hT];first|(rw [zBd (by omega)];rfl)|(rw [zBc (by omega)];rfl)|(rw [zAx (by omega)];rfl)|(rw [zBb (by omega)];rfl)|(rw [wE (by omega)];rfl)|(rw [wF ho h10];rfl)|(rw [zBa ho h10 c12];rfl)|(rw [zAz ho h10 c12];rfl),[_],O⟩
        ·try simp only [I] at c9
         refine zT O<|yZ O<|A O<|H<|zD O (fun c10=>?_) (fun c10=>?_)
         ·try simp only [I] at c10
          refine F O<|yS O l pl38<|D 1 f O<|A O<|H<|zV _ (Weak.mem [false,true,false,true,true,true,true] O)<|o<|p (y yR O (R 0 O) O) (N O) ?_
          exact ⟨by rw [hT];first|(rw [zBd (by omega)];rfl)|(rw [zBc (by omega)];rfl)|(rw [zAx (by omega)];rfl)|(rw [zBb (by omega)];rfl)|(rw [wE (by omega)];rfl)|(rw [wF ho h10];rfl)|(rw [zBa ho h10 c12];rfl)|(rw [zAz ho h10 c12];rfl),[_],O⟩
         ·try simp only [I] at c10
          have hlen2:=zFc hpart (by omega)
          have ho:¬opLow e.Op:=by unfold opLow;omega
          refine zH<|zI<|zI<|qY 13 mixed (by kernel_rfl) O O<|Y O O (w O O)<|Y O O (w O O)<|Y O O (yQ 0 O wY O O)<|Y O O (yB O O O (by simp only [List.length_map];exact ⟨by omega,by omega⟩))<|Y O O (qM 0 O wY O O O (by simp only [List.length_map];omega) (by simp only [List.length_map];omega))<|Y O O (zX O yR O (wN 0 O (hgn 2 (by omega) (by omega) _ (by simp only [List.length_map];rfl))) O)<|Y O O (w O O)<|Y O O (w O O)<|Y O O (yQ 0 O wY O O)<|Y O O (yB O O O (by simp only [List.length_map];exact ⟨by omega,by omega⟩))<|Y O O (qM 0 O wY O O O (by simp only [List.length_map];omega) (by simp only [List.length_map];omega))<|Y O O (zX O yR O (wN 0 O (hgn 1 (by omega) (by omega) _ (by simp only [List.length_map];rfl))) O)<|Y O O (zCi O fl38 O O O)<|kH<|H<|zD O (fun c11=>?_) (fun c11=>?_)
          ·have h10:=zHp c11
           refine F O<|yS O l pl38<|D 1 f O<|A O<|H<|zV _ (Weak.mem [false,true,false,true,true,true,true] O)<|o<|p (y yR O (R 0 O) O) (N O) ?_
           exact ⟨by rw [hT];first|(rw [zBd (by omega)];rfl)|(rw [zBc (by omega)];rfl)|(rw [zAx (by omega)];rfl)|(rw [zBb (by omega)];rfl)|(rw [wE (by omega)];rfl)|(rw [wF ho h10];rfl)|(rw [zBa ho h10 c12];rfl)|(rw [zAz ho h10 c12];rfl),[_],O⟩
          ·have h10:=zHq c11
           refine zH<|zI<|F O<|zO kL (R 2 O) O<|qG O ok166 (kO e) ⟨G,O,T⟩<|H<|zD O (fun c12=>?_) (fun c12=>?_)
           ·try simp only [I] at c12
            refine F O<|yS O l pl38<|D 1 f O<|A O<|H<|zV _ (Weak.mem [false,true,false,true,true,true,true] O)<|o<|p (y yR O (R 0 O) O) (N O) ?_
            exact ⟨by rw [hT];first|(rw [zBd (by omega)];rfl)|(rw [zBc (by omega)];rfl)|(rw [zAx (by omega)];rfl)|(rw [zBb (by omega)];rfl)|(rw [wE (by omega)];rfl)|(rw [wF ho h10];rfl)|(rw [zBa ho h10 c12];rfl)|(rw [zAz ho h10 c12];rfl),[_],O⟩
           ·try simp only [I] at c12
            refine zH<|F O<|A O<|A O<|zR O (yQ 0 O wY O O)<|zR O (yB O O O (by simp only [List.length_map];exact ⟨by omega,by omega⟩))<|zR O (qM 0 O wY O O O (by simp only [List.length_map];omega) (by simp only [List.length_map];omega))<|zO yR (wN 0 O (hgn 1 (by omega) (by omega) _ (by simp only [List.length_map];rfl))) O<|D 1 f O<|A O<|H<|zV _ (Weak.mem [false,true,false,true,true,true,true] O)<|o<|p (y yR O (R 0 O) O) (N O) ?_
            exact ⟨by rw [hT];first|(rw [zBd (by omega)];rfl)|(rw [zBc (by omega)];rfl)|(rw [zAx (by omega)];rfl)|(rw [zBb (by omega)];rfl)|(rw [wE (by omega)];rfl)|(rw [wF ho h10];rfl)|(rw [zBa ho h10 c12];rfl)|(rw [zAz ho h10 c12];rfl),[_],O⟩
  ·try simp only [I] at c3
   refine zT O<|yZ O<|A O<|H<|zD O (fun c4=>?_) (fun c4=>?_)
   ·try simp only [I] at c4
    refine F O<|zJ O zKt<|zO yR (R 2 O) O<|D 1 f O<|A O<|H<|zV _ (Weak.mem [false,true,false,true,true,true,true] O)<|o<|p (y yR O (R 0 O) O) (N O) ?_
    exact ⟨by rw [hT];first|(rw [zBd (by omega)];rfl)|(rw [zBc (by omega)];rfl)|(rw [zAx (by omega)];rfl)|(rw [zBb (by omega)];rfl)|(rw [wE (by omega)];rfl)|(rw [wF ho h10];rfl)|(rw [zBa ho h10 c12];rfl)|(rw [zAz ho h10 c12];rfl),[_],O⟩
   ·try simp only [I] at c4
    refine F O<|yZ O<|A O<|H<|zD O (fun c5=>?_) (fun c5=>?_)
    ·try simp only [I] at c5
     refine F O<|yS O l pl38<|D 1 f O<|A O<|H<|zV _ (Weak.mem [false,true,false,true,true,true,true] O)<|o<|p (y yR O (R 0 O) O) (N O) ?_
     exact ⟨by rw [hT];first|(rw [zBd (by omega)];rfl)|(rw [zBc (by omega)];rfl)|(rw [zAx (by omega)];rfl)|(rw [zBb (by omega)];rfl)|(rw [wE (by omega)];rfl)|(rw [wF ho h10];rfl)|(rw [zBa ho h10 c12];rfl)|(rw [zAz ho h10 c12];rfl),[_],O⟩
    ·try simp only [I] at c5
     refine F O<|yZ O<|A O<|H<|zD O (fun c6=>?_) (fun c6=>?_)
     ·try simp only [I] at c6
      refine zI<|kS 12 1 [⟨0,.q []⟩,⟨1,.q []⟩,⟨2,.q []⟩,⟨3,.q [4]⟩,⟨4,.q []⟩,⟨5,.q [3]⟩,⟨6,.q []⟩,⟨7,.q []⟩,⟨8,.q []⟩,⟨9,.q []⟩,⟨10,.e 0 []⟩,⟨11,.e 0 []⟩] mixed (by kernel_rfl) (by kernel_rfl) O O O<|t O<|t O<|t O<|t O<|t O<|t O<|t O<|t O<|t O<|t O<|t O<|t O<|zDg<|qF O (by decide) O O (w O O)<|qF O (by decide) O O (qR O O)<|qF O (by decide) O O (zE O zMg O)<|qF O (by decide) O O (zX O kF O (R 0 O) O)<|qF O (by decide) O O (zE O zKu O)<|qF O (by decide) O O (Q O one9 O (R 0 O) O)<|qF O (by decide) O O (qI O ok101 (wJ n e.Name hn) ⟨G,O,G,O,T⟩)<|qF O (by decide) O O (kQ O O)<|qF O (by decide) O O (qT O O O)<|qF O (by decide) O O (wP O O O)<|zNd O O (by decide) O O (qC [none,none,none,none,none,none,some 1,none] O zr65 O) ?_
      rintro _ _ ⟨b8,rfl,rfl⟩
      refine ⟨_,O,?_⟩
      refine zIm O O (by decide) O O (yO O sz65 O O O (zIk 0 O O)) ?_
      rintro _ _ ⟨rfl,rfl⟩
      refine ⟨_,O,?_⟩
      refine zDf O<|A O<|H<|F O<|zJ O fd65_1<|zO yR (R 0 O) O<|D 2 f O<|A O<|H<|zV _ (Weak.mem [false,false,true,false,true,true,true,true] O)<|o<|p (y yR O (R 0 O) O) (N O) ?_
      exact ⟨by rw [hT];first|(rw [zBd (by omega)];rfl)|(rw [zBc (by omega)];rfl)|(rw [zAx (by omega)];rfl)|(rw [zBb (by omega)];rfl)|(rw [wE (by omega)];rfl)|(rw [wF ho h10];rfl)|(rw [zBa ho h10 c12];rfl)|(rw [zAz ho h10 c12];rfl),[_],O⟩
     ·try simp only [I] at c6
      refine F O<|yZ O<|A O<|H<|zD O (fun c7=>?_) (fun c7=>?_)
      ·try simp only [I] at c7
       have hlen1:=args_len hpart (by omega)
       refine F O<|A O<|zR O (qM 0 O wY O O O (by omega) (by simp only [List.length_map];omega))<|zO yR (wN 0 O (hg 0 (by omega))) O<|D 1 f O<|A O<|H<|zV _ (Weak.mem [false,true,false,true,true,true,true] O)<|o<|p (y yR O (R 0 O) O) (N O) ?_
       exact ⟨by rw [hT];first|(rw [zBd (by omega)];rfl)|(rw [zBc (by omega)];rfl)|(rw [zAx (by omega)];rfl)|(rw [zBb (by omega)];rfl)|(rw [wE (by omega)];rfl)|(rw [wF ho h10];rfl)|(rw [zBa ho h10 c12];rfl)|(rw [zAz ho h10 c12];rfl),[_],O⟩
      ·try simp only [I] at c7
       refine zI<|F O<|yZ O<|A O<|H<|zD O (fun c8=>?_) (fun c8=>?_)
       ·try simp only [I] at c8
        refine zH<|zD O (fun c10=>?_) (fun c10=>?_)
        ·try simp only [I] at c10
         refine F O<|yS O l pl38<|D 1 f O<|A O<|H<|zV _ (Weak.mem [false,true,false,true,true,true,true] O)<|o<|p (y yR O (R 0 O) O) (N O) ?_
         exact ⟨by rw [hT];first|(rw [zBd (by omega)];rfl)|(rw [zBc (by omega)];rfl)|(rw [zAx (by omega)];rfl)|(rw [zBb (by omega)];rfl)|(rw [wE (by omega)];rfl)|(rw [wF ho h10];rfl)|(rw [zBa ho h10 c12];rfl)|(rw [zAz ho h10 c12];rfl),[_],O⟩
        ·try simp only [I] at c10
         have hlen2:=zFc hpart (by omega)
         have ho:¬opLow e.Op:=by unfold opLow;omega
         refine zH<|zI<|zI<|qY 13 mixed (by kernel_rfl) O O<|Y O O (w O O)<|Y O O (w O O)<|Y O O (yQ 0 O wY O O)<|Y O O (yB O O O (by simp only [List.length_map];exact ⟨by omega,by omega⟩))<|Y O O (qM 0 O wY O O O (by simp only [List.length_map];omega) (by simp only [List.length_map];omega))<|Y O O (zX O yR O (wN 0 O (hgn 2 (by omega) (by omega) _ (by simp only [List.length_map];rfl))) O)<|Y O O (w O O)<|Y O O (w O O)<|Y O O (yQ 0 O wY O O)<|Y O O (yB O O O (by simp only [List.length_map];exact ⟨by omega,by omega⟩))<|Y O O (qM 0 O wY O O O (by simp only [List.length_map];omega) (by simp only [List.length_map];omega))<|Y O O (zX O yR O (wN 0 O (hgn 1 (by omega) (by omega) _ (by simp only [List.length_map];rfl))) O)<|Y O O (zCi O fl38 O O O)<|kH<|H<|zD O (fun c11=>?_) (fun c11=>?_)
         ·have h10:=zHp c11
          refine F O<|yS O l pl38<|D 1 f O<|A O<|H<|zV _ (Weak.mem [false,true,false,true,true,true,true] O)<|o<|p (y yR O (R 0 O) O) (N O) ?_
          exact ⟨by rw [hT];first|(rw [zBd (by omega)];rfl)|(rw [zBc (by omega)];rfl)|(rw [zAx (by omega)];rfl)|(rw [zBb (by omega)];rfl)|(rw [wE (by omega)];rfl)|(rw [wF ho h10];rfl)|(rw [zBa ho h10 c12];rfl)|(rw [zAz ho h10 c12];rfl),[_],O⟩
         ·have h10:=zHq c11
          refine zH<|zI<|F O<|zO kL (R 2 O) O<|qG O ok166 (kO e) ⟨G,O,T⟩<|H<|zD O (fun c12=>?_) (fun c12=>?_)
          ·try simp only [I] at c12
           refine F O<|yS O l pl38<|D 1 f O<|A O<|H<|zV _ (Weak.mem [false,true,false,true,true,true,true] O)<|o<|p (y yR O (R 0 O) O) (N O) ?_
           exact ⟨by rw [hT];first|(rw [zBd (by omega)];rfl)|(rw [zBc (by omega)];rfl)|(rw [zAx (by omega)];rfl)|(rw [zBb (by omega)];rfl)|(rw [wE (by omega)];rfl)|(rw [wF ho h10];rfl)|(rw [zBa ho h10 c12];rfl)|(rw [zAz ho h10 c12];rfl),[_],O⟩
          ·try simp only [I] at c12
           refine zH<|F O<|A O<|A O<|zR O (yQ 0 O wY O O)<|zR O (yB O O O (by simp only [List.length_map];exact ⟨by omega,by omega⟩))<|zR O (qM 0 O wY O O O (by simp only [List.length_map];omega) (by simp only [List.length_map];omega))<|zO yR (wN 0 O (hgn 1 (by omega) (by omega) _ (by simp only [List.length_map];rfl))) O<|D 1 f O<|A O<|H<|zV _ (Weak.mem [false,true,false,true,true,true,true] O)<|o<|p (y yR O (R 0 O) O) (N O) ?_
           exact ⟨by rw [hT];first|(rw [zBd (by omega)];rfl)|(rw [zBc (by omega)];rfl)|(rw [zAx (by omega)];rfl)|(rw [zBb (by omega)];rfl)|(rw [wE (by omega)];rfl)|(rw [wF ho h10];rfl)|(rw [zBa ho h10 c12];rfl)|(rw [zAz ho h10 c12];rfl),[_],O⟩
       ·try simp only [I] at c8
        refine F O<|yZ O<|A O<|H<|zD O (fun c9=>?_) (fun c9=>?_)
        ·try simp only [I] at c9
         refine zH<|zD O (fun c10=>?_) (fun c10=>?_)
         ·try simp only [I] at c10
          refine F O<|yS O l pl38<|D 1 f O<|A O<|H<|zV _ (Weak.mem [false,true,false,true,true,true,true] O)<|o<|p (y yR O (R 0 O) O) (N O) ?_
          exact ⟨by rw [hT];first|(rw [zBd (by omega)];rfl)|(rw [zBc (by omega)];rfl)|(rw [zAx (by omega)];rfl)|(rw [zBb (by omega)];rfl)|(rw [wE (by omega)];rfl)|(rw [wF ho h10];rfl)|(rw [zBa ho h10 c12];rfl)|(rw [zAz ho h10 c12];rfl),[_],O⟩
         ·try simp only [I] at c10
          have hlen2:=zFc hpart (by omega)
          have ho:¬opLow e.Op:=by unfold opLow;omega
          refine zH<|zI<|zI<|qY 13 mixed (by kernel_rfl) O O<|Y O O (w O O)<|Y O O (w O O)<|Y O O (yQ 0 O wY O O)<|Y O O (yB O O O (by simp only [List.length_map];exact ⟨by omega,by omega⟩))<|Y O O (qM 0 O wY O O O (by simp only [List.length_map];omega) (by simp only [List.length_map];omega))<|Y O O (zX O yR O (wN 0 O (hgn 2 (by omega) (by omega) _ (by simp only [List.length_map];rfl))) O)<|Y O O (w O O)<|Y O O (w O O)<|Y O O (yQ 0 O wY O O)<|Y O O (yB O O O (by simp only [List.length_map];exact ⟨by omega,by omega⟩))<|Y O O (qM 0 O wY O O O (by simp only [List.length_map];omega) (by simp only [List.length_map];omega))<|Y O O (zX O yR O (wN 0 O (hgn 1 (by omega) (by omega) _ (by simp only [List.length_map];rfl))) O)<|Y O O (zCi O fl38 O O O)<|kH<|H<|zD O (fun c11=>?_) (fun c11=>?_)
          ·have h10:=zHp c11
           refine F O<|yS O l pl38<|D 1 f O<|A O<|H<|zV _ (Weak.mem [false,true,false,true,true,true,true] O)<|o<|p (y yR O (R 0 O) O) (N O) ?_
           exact ⟨by rw [hT];first|(rw [zBd (by omega)];rfl)|(rw [zBc (by omega)];rfl)|(rw [zAx (by omega)];rfl)|(rw [zBb (by omega)];rfl)|(rw [wE (by omega)];rfl)|(rw [wF ho h10];rfl)|(rw [zBa ho h10 c12];rfl)|(rw [zAz ho h10 c12];rfl),[_],O⟩
          ·have h10:=zHq c11
           refine zH<|zI<|F O<|zO kL (R 2 O) O<|qG O ok166 (kO e) ⟨G,O,T⟩<|H<|zD O (fun c12=>?_) (fun c12=>?_)
           ·try simp only [I] at c12
            refine F O<|yS O l pl38<|D 1 f O<|A O<|H<|zV _ (Weak.mem [false,true,false,true,true,true,true] O)<|o<|p (y yR O (R 0 O) O) (N O) ?_
            exact ⟨by rw [hT];first|(rw [zBd (by omega)];rfl)|(rw [zBc (by omega)];rfl)|(rw [zAx (by omega)];rfl)|(rw [zBb (by omega)];rfl)|(rw [wE (by omega)];rfl)|(rw [wF ho h10];rfl)|(rw [zBa ho h10 c12];rfl)|(rw [zAz ho h10 c12];rfl),[_],O⟩
           ·try simp only [I] at c12
            refine zH<|F O<|A O<|A O<|zR O (yQ 0 O wY O O)<|zR O (yB O O O (by simp only [List.length_map];exact ⟨by omega,by omega⟩))<|zR O (qM 0 O wY O O O (by simp only [List.length_map];omega) (by simp only [List.length_map];omega))<|zO yR (wN 0 O (hgn 1 (by omega) (by omega) _ (by simp only [List.length_map];rfl))) O<|D 1 f O<|A O<|H<|zV _ (Weak.mem [false,true,false,true,true,true,true] O)<|o<|p (y yR O (R 0 O) O) (N O) ?_
            exact ⟨by rw [hT];first|(rw [zBd (by omega)];rfl)|(rw [zBc (by omega)];rfl)|(rw [zAx (by omega)];rfl)|(rw [zBb (by omega)];rfl)|(rw [wE (by omega)];rfl)|(rw [wF ho h10];rfl)|(rw [zBa ho h10 c12];rfl)|(rw [zAz ho h10 c12];rfl),[_],O⟩
        ·try simp only [I] at c9
         refine zT O<|yZ O<|A O<|H<|zD O (fun c10=>?_) (fun c10=>?_)
         ·try simp only [I] at c10
          refine F O<|yS O l pl38<|D 1 f O<|A O<|H<|zV _ (Weak.mem [false,true,false,true,true,true,true] O)<|o<|p (y yR O (R 0 O) O) (N O) ?_
          exact ⟨by rw [hT];first|(rw [zBd (by omega)];rfl)|(rw [zBc (by omega)];rfl)|(rw [zAx (by omega)];rfl)|(rw [zBb (by omega)];rfl)|(rw [wE (by omega)];rfl)|(rw [wF ho h10];rfl)|(rw [zBa ho h10 c12];rfl)|(rw [zAz ho h10 c12];rfl),[_],O⟩
         ·try simp only [I] at c10
          have hlen2:=zFc hpart (by omega)
          have ho:¬opLow e.Op:=by unfold opLow;omega
          refine zH<|zI<|zI<|qY 13 mixed (by kernel_rfl) O O<|Y O O (w O O)<|Y O O (w O O)<|Y O O (yQ 0 O wY O O)<|Y O O (yB O O O (by simp only [List.length_map];exact ⟨by omega,by omega⟩))<|Y O O (qM 0 O wY O O O (by simp only [List.length_map];omega) (by simp only [List.length_map];omega))<|Y O O (zX O yR O (wN 0 O (hgn 2 (by omega) (by omega) _ (by simp only [List.length_map];rfl))) O)<|Y O O (w O O)<|Y O O (w O O)<|Y O O (yQ 0 O wY O O)<|Y O O (yB O O O (by simp only [List.length_map];exact ⟨by omega,by omega⟩))<|Y O O (qM 0 O wY O O O (by simp only [List.length_map];omega) (by simp only [List.length_map];omega))<|Y O O (zX O yR O (wN 0 O (hgn 1 (by omega) (by omega) _ (by simp only [List.length_map];rfl))) O)<|Y O O (zCi O fl38 O O O)<|kH<|H<|zD O (fun c11=>?_) (fun c11=>?_)
          ·have h10:=zHp c11
           refine F O<|yS O l pl38<|D 1 f O<|A O<|H<|zV _ (Weak.mem [false,true,false,true,true,true,true] O)<|o<|p (y yR O (R 0 O) O) (N O) ?_
           exact ⟨by rw [hT];first|(rw [zBd (by omega)];rfl)|(rw [zBc (by omega)];rfl)|(rw [zAx (by omega)];rfl)|(rw [zBb (by omega)];rfl)|(rw [wE (by omega)];rfl)|(rw [wF ho h10];rfl)|(rw [zBa ho h10 c12];rfl)|(rw [zAz ho h10 c12];rfl),[_],O⟩
          ·have h10:=zHq c11
           refine zH<|zI<|F O<|zO kL (R 2 O) O<|qG O ok166 (kO e) ⟨G,O,T⟩<|H<|zD O (fun c12=>?_) (fun c12=>?_)
           ·try simp only [I] at c12
            refine F O<|yS O l pl38<|D 1 f O<|A O<|H<|zV _ (Weak.mem [false,true,false,true,true,true,true] O)<|o<|p (y yR O (R 0 O) O) (N O) ?_
            exact ⟨by rw [hT];first|(rw [zBd (by omega)];rfl)|(rw [zBc (by omega)];rfl)|(rw [zAx (by omega)];rfl)|(rw [zBb (by omega)];rfl)|(rw [wE (by omega)];rfl)|(rw [wF ho h10];rfl)|(rw [zBa ho h10 c12];rfl)|(rw [zAz ho h10 c12];rfl),[_],O⟩
           ·try simp only [I] at c12
            refine zH<|F O<|A O<|A O<|zR O (yQ 0 O wY O O)<|zR O (yB O O O (by simp only [List.length_map];exact ⟨by omega,by omega⟩))<|zR O (qM 0 O wY O O O (by simp only [List.length_map];omega) (by simp only [List.length_map];omega))<|zO yR (wN 0 O (hgn 1 (by omega) (by omega) _ (by simp only [List.length_map];rfl))) O<|D 1 f O<|A O<|H<|zV _ (Weak.mem [false,true,false,true,true,true,true] O)<|o<|p (y yR O (R 0 O) O) (N O) ?_
            exact ⟨by rw [hT];first|(rw [zBd (by omega)];rfl)|(rw [zBc (by omega)];rfl)|(rw [zAx (by omega)];rfl)|(rw [zBb (by omega)];rfl)|(rw [wE (by omega)];rfl)|(rw [wF ho h10];rfl)|(rw [zBa ho h10 c12];rfl)|(rw [zAz ho h10 c12];rfl),[_],O⟩
theorem ck_typeOf (b:Nat) (svL svS svP:Value) (n:Ns) (U S:List ByteArray) (W:List Int)  (e:Ex) (hn:n.Ok) (hpart:partE e=0) (he:e.wt<=1073741824):Con cfg 190 [vP b,vE e] (ckN b svL svS svP n U S W) fun r μ'=>r=.tup [vTy (nodeT (tyF n.Bufs) e).1,vI (nodeT (tyF n.Bufs) e).2]/\μ'=ckN b svL svS svP n U S W:=by
  induction e using Ex.ind with
  |_ e ih=>exact ck_typeOf_step b svL svS svP n U S W hn e (fun a ha h1 h2=>ih a ha h1 h2) hpart he
theorem zFy (b:Nat) (svL svS svP:Value) (n:Ns) (U S:List ByteArray) (W:List Int) (e:Ex) (hn:n.Ok) (hS:S.length<=1000000) (he:e.wt<=1000000000):
    Con cfg 165 [vP b,vE e] (ckN b svL svS svP n U S W) fun r μ'=>r=.tup [vTy (exprT n.Bufs S e).1,vI (exprT n.Bufs S e).2]/\μ'=ckN b svL svS svP n U S W:=by
 refine Con.drop<|zQ Tryz.func165 O Tryz.ntmps165 Tryz.results165 O ?_
 intro z hz
 refine F O<|zU O O (qL O O) ?_
 rintro _ _ ⟨b1,rfl,rfl⟩
 refine yJ _ (yA 0 O 2 _ PLe.ptr)<|zU O O (qL O O) ?_
 rintro _ _ ⟨b2,rfl,rfl⟩
 refine zU O O (yV O l) ?_
 rintro _ _ ⟨b3,rfl,rfl⟩
 refine zU O O (yV O zr51) ?_
 rintro _ _ ⟨b4,rfl,rfl⟩
 refine H<|zI<|F O<|zO kL (R 2 O) O<|qG O ok188 (expr_Validate e (by omega)) ⟨G,O,T⟩<|A O<|H<|F O<|A O<|yP O<|H<|zD O (fun c1=>?_) (fun c1=>?_)
 ·try simp only [I] at c1
  refine F O<|yS O l pl38<|A O<|D 1 f O<|D 0 sz51 O<|H<|zV _ (Weak.mem [true,true,false,true,true,true,true] O)<|o<|p (y yR O (R 1 O) O) (kI zKe O (R 0 O) O) ?_
  exact ⟨by rw [exprT_1 c1];rfl,[_,_],O⟩
 ·try simp only [I] at c1
  refine zH<|zI<|F O<|zO kL (R 2 O) O<|qG O ok123 (zKw _) ⟨G,O,T⟩<|H<|zS<|zDv (ps:=[17]) hz 2 O O ok158 (zJm e (by omega)) (fun _ _=>O) O (fun pre=>nodesN n.Bufs S pre=0) (fun pre=>[E.row b4 51 [cI 0],E.row b3 38 [cI 0,cI 0,cI 0,cI 0,cI 0]]) (fun c pre=>(c=.ret/\¬nodesN n.Bufs S pre=0)) (fun c pre=>[E.row b4 51 [cI (nodesN n.Bufs S pre)],E.row b3 38 [cI 0,cI 0,cI 0,cI 0,cI 0]]) ⟨O,O⟩ ?_ ?_ ?_ ?_
  ·intro pre x suf hxs hi z hz
   have hxw:x.wt<=e.wt:=zFq e x (by rw [hxs];simp)
   refine zT O<|zU O O (qC [none,none,none,none,none,none,none,none,none,none,some 2,some 4,some 13] O zr44 O) ?_
   rintro _ _ ⟨b5,rfl,rfl⟩
   refine D 0 sz44 O<|H ?_
   intro z hz
   refine zS<|F O<|zK zMt qA O<|zO kL (R 0 O) O<|zR O (yK [4,4,4,4] O ok189 (ck_node b svL svS svP n U S W x hn hS (by omega)) ⟨G,O,G,O,T⟩ O)<|A O<|H<|F O<|A O<|yP O<|H<|zD O (fun c2=>?_) (fun c2=>?_)
   ·try simp only [I] at c2
    refine F O<|yS O l pl38<|A O<|D 2 f O<|D 1 sz51 O<|H<|o ?_
    exact zBe (τ:=⟨[],_⟩) (Weak.mk [false,true,true,true,true,true,true,true] T O) ⟨⟨O,by rw [zLy hi];exact c2⟩,(by dsimp only;rw [zLy hi];rfl)⟩
   ·try simp only [I] at c2
    refine zH ?_
    exact zBe (τ:=⟨[],_⟩) (Weak.mk [false,true,true,true,true,true,true,true] T O) ⟨(by dsimp only;rw [zLy hi];exact c2),O⟩
  ·intro hd
   refine F O<|zK zMt qA O<|zO kL (R 2 O) O<|zR O (yK [3,3,3,3] O ok190 (ck_typeOf b svL svS svP n U S W e hn (valid_part c1) (by omega)) ⟨G,O,G,O,T⟩ O)<|zR O (qT O O O)<|qU O<|D 1 f O<|D 0 sz51 O<|H<|zV _ (Weak.mem [true,true,false,true,true,true,true] O)<|o<|p (y yR O (R 1 O) O) (kI zKe O (R 0 O) O) ?_
   exact ⟨by rw [exprT_3 c1 hd];rfl,[_,_],O⟩
  ·rintro pre x suf hxs hx
   rcases hx with ⟨hc,hx⟩
   clear hc
   repeat (first|refine zJq ?_|refine zIb ?_)
   refine p (y yR O (R 1 O) O) (kI zKe O (R 0 O) O) ?_
   exact ⟨by rw [exprT_2 c1 (by rw [hxs,nodesN_pre hx];exact hx),hxs,nodesN_pre (suf:=suf) hx];rfl,[_,_,_],O⟩
  ·rintro i pre x suf hxs hx
   rcases hx with ⟨hc,hx⟩
   cases hc
theorem ck_store (b:Nat) (svL svS svP:Value) (n:Ns) (U S:List ByteArray) (W:List Int) (s:St) (hn:n.Ok) (hS:S.length<=1000000) (hs:s.wt<=900000000):
    Con cfg 167 [vP b,vSt s] (ckN b svL svS svP n U S W) fun r μ'=>r=vI (storeE n.Bufs S s)/\μ'=ckN b svL svS svP n U S W:=by
 refine zQ Tryz.func167 O Tryz.ntmps167 Tryz.results167 O ?_
 intro z hz
 obtain ⟨hE,hI,hIw,hB,hBw⟩:=St.parts hs
 have hrd:=rdE_wt s
 refine F O<|zU O O (qL O O) ?_
 rintro _ _ ⟨b1,rfl,rfl⟩
 refine A O<|H<|F O<|A O<|zJ O zBt<|zK one9 (R 0 O) O<|zJ O zEc<|zK zBn (R 0 O) O<|qV [none,none,none,none,none,none,none,none,none,none,some 2,none,some 13] O zr44 pl44<|zR O (yK [1,1,1,1] O ok165 (zFy b svL svS svP n U S W (rdE s) hn hS (by omega)) ⟨G,O,G,O,T⟩ O)<|qN O<|zR O (qT O O O)<|qU O<|zU O O (yV O l) ?_
 rintro _ _ ⟨b2,rfl,rfl⟩
 refine D 0 f O<|A O<|H<|zI<|F O<|A O<|yP O<|H<|zD O (fun c1=>?_) (fun c1=>?_)
 ·try simp only [I] at c1
  refine F O<|A O<|A O<|H<|zV _ (Weak.mem [false,false,true,true,true,true] O)<|o<|X O ?_
  exact ⟨by rw [storeE_1 c1],O⟩
 ·try simp only [I] at c1
  have hT:=exprT_rd c1
  refine zH<|zI<|zI<|kS 12 1 [⟨0,.q []⟩,⟨1,.q []⟩,⟨2,.q []⟩,⟨3,.q [3]⟩,⟨4,.q []⟩,⟨5,.q [2]⟩,⟨6,.q []⟩,⟨7,.q []⟩,⟨8,.q []⟩,⟨9,.q []⟩,⟨10,.e 0 []⟩,⟨11,.e 0 []⟩] mixed (by kernel_rfl) (by kernel_rfl) O O O<|t O<|t O<|t O<|t O<|t O<|t O<|t O<|t O<|t O<|t O<|t O<|t O<|zDg<|qF O (by decide) O O (w O O)<|qF O (by decide) O O (qR O O)<|qF O (by decide) O O (zE O zMg O)<|qF O (by decide) O O (zX O kF O (R 0 O) O)<|qF O (by decide) O O (zE O zBt O)<|qF O (by decide) O O (Q O one9 O (R 0 O) O)<|qF O (by decide) O O (qI O ok101 (wJ n s.Name hn) ⟨G,O,G,O,T⟩)<|qF O (by decide) O O (kQ O O)<|qF O (by decide) O O (qT O O O)<|qF O (by decide) O O (wP O O O)<|zNd O O (by decide) O O (qC [none,none,none,none,none,none,some 1,none] O zr65 O) ?_
  rintro _ _ ⟨b3,rfl,rfl⟩
  refine ⟨_,O,?_⟩
  refine zIm O O (by decide) O O (yO O sz65 O O O (zIk 0 O O)) ?_
  rintro _ _ ⟨rfl,rfl⟩
  refine ⟨_,O,?_⟩
  refine zDf O<|A O<|H<|F O<|zJ O fd65_3<|zK J (R 0 O) O<|yZ O<|H<|zD O (fun c2=>?_) (fun c2=>?_)
  ·try simp only [I] at c2
   refine F O<|A O<|H<|zV _ (Weak.mem [false,false,false,true,true,true,true] O)<|o<|X O ?_
   exact ⟨by rw [zNt c1 (.inl c2)],O⟩
  ·try simp only [I] at c2
   refine zH<|zI<|F O<|zJ O zBu<|zK J (R 2 O) O<|yZ O<|A O<|M O (fun g7_3=>zE O fd46_4 O) O<|B 40 O (fun g7_3=>Q O J O (R 2 O) O) O<|B 41 O (fun g7_3=>zHk O O O) O<|B 42 O (fun g7_3=>w O O) O<|rLz [] O gv2 T (fun g7_7=>zE O fd46_4 O) O<|rLz [(44,_)] O gv2 ⟨O,O,T⟩ (fun g7_7=>Q O J O (R 2 O) O) O<|rLz [(45,_)] O gv2 ⟨O,O,T⟩ (fun g7_7=>yW O O O) O<|B 43 O (fun g7_3=>zDh O O O O (fun h=>kK (by assumption) (lzf h))) O<|kD O (fun h=>h)<|H<|zD O (fun c3=>?_) (fun c3=>?_)
   ·try simp only [I] at c3
    refine F O<|A O<|H<|zV _ (Weak.mem [false,false,false,true,true,true,true] O)<|o<|X O ?_
    exact ⟨by rw [zNt c1 (.inr c3)],O⟩
   ·try simp only [I] at c3
    refine zH<|F O<|A O<|zJ O zCf<|zO kL (R 2 O) O<|zR O (yK [3,3,3,3] O ok165 (zFy b svL svS svP n U S W s.E hn hS (by omega)) ⟨G,O,G,O,T⟩ O)<|qN O<|zR O (qT O O O)<|qU O<|zU O O (yV O l) ?_
    rintro _ _ ⟨b4,rfl,rfl⟩
    refine D 0 f O<|A O<|H<|zI<|F O<|A O<|yP O<|H<|zD O (fun c4=>?_) (fun c4=>?_)
    ·try simp only [I] at c4
     refine F O<|A O<|A O<|H<|zV _ (Weak.mem [false,false,false,false,true,true,true,true] O)<|o<|X O ?_
     exact ⟨by rw [storeE_2 c1 (by omega) c4],O⟩
    ·try simp only [I] at c4
     refine zH<|zI<|F O<|zJ O zCf<|zO kL (R 3 O) O<|qG O ok166 (kO s.E) ⟨G,O,T⟩<|A O<|M O (fun g12_3=>zX O yR O (R 0 O) O) O<|M O (fun g12_3=>zX O yR O (R 2 O) O) O<|rLz [(63,_),(64,_)] O gv1 ⟨O,O,O,O,T⟩ (fun g12_3=>zCi O fl38 O O O) O<|j O (fun h=>(lzf h))<|H<|zD O (fun c5=>?_) (fun c5=>?_)
     ·have h10:=st10_t c5
      rw [hT] at h10
      refine F O<|A O<|H<|zV _ (Weak.mem [false,false,false,false,true,true,true,true] O)<|o<|X O ?_
      exact ⟨by rw [storeE_10 c1 (by omega) c4 h10],O⟩
     ·have h10:=st10_f c5
      rw [hT] at h10
      refine zH<|F O<|A O<|H<|zV _ (Weak.mem [false,false,false,false,true,true,true,true] O)<|o<|X O ?_
      exact ⟨by rw [storeE_0 c1 (by omega) c4 h10],O⟩
theorem ck_loop (b:Nat) (svL svS svP:Value) (n:Ns) (U S:List ByteArray) (W:List Int) (s:St) (hn:n.Ok) (hU:U.length<=1000000):
    Con cfg 164 [vP b,vSt s] (ckN b svL svS svP n U S W) fun r μ'=>r=vI (loopE n.Bufs U s)/\μ'=ckN b svL svS svP n U S W:=by
 refine zQ Tryz.func164 O Tryz.ntmps164 Tryz.results164 O ?_
 intro z hz
 refine F O<|zU O O (qL O O) ?_
 rintro _ _ ⟨b1,rfl,rfl⟩
 refine A O<|H<|zI<|F O<|zJ O zBt<|zK one9 (R 0 O) O<|qG O ok49 (zAa _) ⟨G,O,T⟩<|kY O<|H<|zD O (fun c1=>?_) (fun c1=>?_)
 ·try simp only [I] at c1
  refine F O<|A O<|H<|zV _ (Weak.mem [false,true,true,true,true] O)<|o<|X O ?_
  exact ⟨by rw [loopE_7 c1],O⟩
 ·try simp only [I] at c1
  refine zH<|zI<|zI<|kS 12 1 [⟨0,.q []⟩,⟨1,.q []⟩,⟨2,.q []⟩,⟨3,.q [2]⟩,⟨4,.q []⟩,⟨5,.q [1]⟩,⟨6,.q []⟩,⟨7,.q []⟩,⟨8,.q []⟩,⟨9,.q []⟩,⟨10,.e 0 []⟩,⟨11,.e 0 []⟩] mixed (by kernel_rfl) (by kernel_rfl) O O O<|t O<|t O<|t O<|t O<|t O<|t O<|t O<|t O<|t O<|t O<|t O<|t O<|zDg<|qF O (by decide) O O (w O O)<|qF O (by decide) O O (qR O O)<|qF O (by decide) O O (zE O zMg O)<|qF O (by decide) O O (zX O kF O (R 0 O) O)<|qF O (by decide) O O (zE O zBt O)<|qF O (by decide) O O (Q O one9 O (R 0 O) O)<|qF O (by decide) O O (qI O ok101 (wJ n s.Name hn) ⟨G,O,G,O,T⟩)<|qF O (by decide) O O (kQ O O)<|qF O (by decide) O O (qT O O O)<|qF O (by decide) O O (wP O O O)<|zNd O O (by decide) O O (qC [none,none,none,none,none,none,some 1,none] O zr65 O) ?_
  rintro _ _ ⟨b2,rfl,rfl⟩
  refine ⟨_,O,?_⟩
  refine zIm O O (by decide) O O (yO O sz65 O O O (zIk 0 O O)) ?_
  rintro _ _ ⟨rfl,rfl⟩
  refine ⟨_,O,?_⟩
  refine zDf O<|A O<|H<|zI<|qY 10 mixed (by kernel_rfl) O O<|Y O O (w O O)<|Y O O (w O O)<|i [] O O O O gv1 T (fun g4_1=>w O O) O<|i [(23,_)] O O O O gv1 ⟨O,O,T⟩ (fun g4_1=>qR O O) O<|i [(24,_)] O O O O gv1 ⟨O,O,T⟩ (fun g4_1=>zE O fd123_1 O) O<|i [(25,_)] O O O O gv1 ⟨O,O,T⟩ (fun g4_1=>Q O zPj O (R 2 O) O) O<|i [] O O O O gv1 T (fun g4_1=>zE O zBt O) O<|i [(27,_)] O O O O gv1 ⟨O,O,T⟩ (fun g4_1=>Q O one9 O (R 1 O) O) O<|i [(26,_),(28,_)] O O O O gv1 ⟨O,O,O,O,T⟩ (fun g4_1=>zKz 3 O ok143 O (zBm U s.Name hU) O ⟨.inl ⟨O,O⟩,.inr ⟨G,O⟩,T⟩) O<|Y O O (zDh O O O O (fun h=>(lzf h)))<|kH<|H<|zD O (fun c2=>?_) (fun c2=>?_)
  ·try simp only [I] at c2
   refine F O<|A O<|H<|zV _ (Weak.mem [false,false,true,true,true,true] O)<|o<|X O ?_
   exact ⟨by rw [loopE_8 c1 c2],O⟩
  ·try simp only [I] at c2
   have h8:¬(hasBf n.Bufs s.Name=true∨hasB U s.Name=true):=by rw [c2.1,c2.2];simp
   refine zH<|zI<|F O<|zJ O zAi<|zK J (R 1 O) O<|yN O<|A O<|M O (fun g6_3=>zE O zAi O) O<|B 35 O (fun g6_3=>Q O J O (R 1 O) O) O<|B 36 O (fun g6_3=>yW O O O) O<|j O (fun h=>(lzf h))<|A O<|M O (fun g6_8=>zE O zKs O) O<|B 40 O (fun g6_8=>Q O J O (R 1 O) O) O<|B 41 O (fun g6_8=>zHk O O O) O<|j O (fun h=>(lzf h))<|A O<|M O (fun g6_13=>zE O zKs O) O<|B 45 O (fun g6_13=>Q O J O (R 1 O) O) O<|B 46 O (fun g6_13=>yW O O O) O<|j O (fun h=>(lzf h))<|H<|zD O (fun c3=>?_) (fun c3=>?_)
   ·try simp only [I] at c3
    refine F O<|A O<|H<|zV _ (Weak.mem [false,false,true,true,true,true] O)<|o<|X O ?_
    exact ⟨by rw [loopE_1 c1 h8 (by omega)],O⟩
   ·try simp only [I] at c3
    refine zH<|F O<|A O<|H<|zV _ (Weak.mem [false,false,true,true,true,true] O)<|o<|X O ?_
    exact ⟨by rw [loopE_0 c1 h8 (by omega)],O⟩
theorem zPu (e:Ex) (he:e.wt<=4294967296):
    Pur cfg 187 [vE e] (vB (emptyE e)):=by
 refine zQ Tryz.func187 O Tryz.ntmps187 Tryz.results187 O ?_
 intro z hz
 refine F O<|zU O O (qL O O) ?_
 rintro _ _ ⟨b1,rfl,rfl⟩
 refine A O<|H<|F O<|zO kL (R 0 O) O<|qV [none,none,none,none,none,none,none,none,none,none,some 2,some 4,some 13] O zr44 pl44<|qG O ok205 (expr_Same e zEx he (by decide)) ⟨G,O,G,O,T⟩<|A O<|H<|o<|X O ?_
 exact O
theorem zPt (s:St) (hs:s.wt<=900000000):
    Pur cfg 163 [vSt s] (vB (synSt s)):=by
 refine zQ Tryz.func163 O Tryz.ntmps163 Tryz.results163 O ?_
 intro z hz
 obtain ⟨hE,hI,hIw,hB,hBw⟩:=St.parts hs
 refine F O<|zU O O (qL O O) ?_
 rintro _ _ ⟨b1,rfl,rfl⟩
 refine A O<|H<|zI<|qY 17 mixed (by kernel_rfl) O O<|Y O O (zE O zBu O)<|Y O O (Q O J O (R 0 O) O)<|Y O O (yX O O O)<|Y O O (zE O zBu O)<|Y O O (Q O J O (R 0 O) O)<|Y O O (yX O O O)<|Y O O (w O O)<|i [] O O O O gv1 T (fun g1_6=>zE O zBu O) O<|i [(13,_)] O O O O gv1 ⟨O,O,T⟩ (fun g1_6=>Q O J O (R 0 O) O) O<|i [(14,_)] O O O O gv1 ⟨O,O,T⟩ (fun g1_6=>yX O O O) O<|Y O O (zDh O O O O (fun h=>(lzf h)))<|Y O O (zE O zBu O)<|Y O O (Q O J O (R 0 O) O)<|Y O O (yX O O O)<|Y O O (yC O O)<|Y O O (yC O O)<|Y O O (yC O O)<|kH<|H<|zI<|zS<|F O<|A O<|kY O<|A O<|M O (fun g2_2=>w O O) O<|B 24 O (fun g2_2=>wC O O) O<|kD O (fun h=>h)<|A O<|M O (fun g2_6=>w O O) O<|B 28 O (fun g2_6=>wC O O) O<|kD O (fun h=>h)<|A O<|H<|zD O (fun c1=>?_) (fun c1=>?_)
 ·refine F O<|A O<|H<|o<|X O ?_
  exact congrArg vB (syn_1 c1)
 ·refine F O<|A O<|A O<|M O (fun g4_1=>zE O zBt O) O<|B 34 O (fun g4_1=>Q O one9 O (R 0 O) O) O<|B 35 O (fun g4_1=>zCw O O O) O<|kD O (fun h=>h)<|A O<|H<|zD O (fun c2=>?_) (fun c2=>?_)
  ·refine F O<|A O<|H<|o<|X O ?_
   exact congrArg vB (syn_2 c2)
  ·refine F O<|A O<|kY O<|A O<|M O (fun g6_2=>zE O zAi O) O<|B 42 O (fun g6_2=>Q O J O (R 0 O) O) O<|B 43 O (fun g6_2=>kT O O O) O<|B 44 O (fun g6_2=>w O O) O<|rLz [] O gv2 T (fun g6_6=>zE O zKs O) O<|rLz [(46,_)] O gv2 ⟨O,O,T⟩ (fun g6_6=>Q O J O (R 0 O) O) O<|rLz [(47,_)] O gv2 ⟨O,O,T⟩ (fun g6_6=>kT O O O) O<|B 45 O (fun g6_2=>zDh O O O O (fun h=>kK (by assumption) (lzf h))) O<|kD O (fun h=>h)<|A O<|H<|zD O (fun c3=>?_) (fun c3=>?_)
   ·refine F O<|A O<|H<|o<|X O ?_
    exact congrArg vB (syn_3 c3)
   ·refine F O<|zJ O zBu<|zK J (R 0 O) O<|yP O<|A O<|M O (fun g8_3=>zE O fd46_4 O) O<|B 56 O (fun g8_3=>Q O J O (R 0 O) O) O<|B 57 O (fun g8_3=>kT O O O) O<|kD O (fun h=>h)<|A O<|H<|zD O (fun c4=>?_) (fun c4=>?_)
    ·refine F O<|A O<|H<|o<|X O ?_
     exact congrArg vB (syn_4 c4)
    ·refine F O<|A O<|kY O<|A O<|M O (fun g10_2=>zE O zEc O) O<|B 64 O (fun g10_2=>Q O zBn O (R 0 O) O) O<|B 65 O (fun g10_2=>yE O g O) O<|B 66 O (fun g10_2=>yW O O O) O<|kD O (fun h=>h)<|A O<|H<|zD O (fun c5=>?_) (fun c5=>?_)
     ·refine F O<|A O<|H<|o<|X O ?_
      exact congrArg vB (syn_5 c5)
     ·refine F O<|A O<|A O<|M O (fun g12_1=>zE O zCf O) O<|B 72 O (fun g12_1=>zX O kL O (R 0 O) O) O<|B 73 O (fun g12_1=>qI O ok187 (zPu s.E (by omega)) ⟨G,O,T⟩) O<|B 74 O (fun g12_1=>wC O O) O<|kD O (fun h=>h)<|A O<|H<|zD O (fun c6=>?_) (fun c6=>?_)
      ·refine F O<|A O<|H<|o<|X O ?_
       exact congrArg vB (syn_6 c6)
      ·refine zH<|F O<|A O<|kY O<|A O<|M O (fun g14_2=>zE O kN O) O<|B 80 O (fun g14_2=>Q O kM O (R 0 O) O) O<|B 81 O (fun g14_2=>yE O K O) O<|B 82 O (fun g14_2=>yX O O O) O<|j O (fun h=>(lzf h))<|A O<|H<|o<|X O ?_
       exact congrArg vB (syn_7 c1 c2 c3 c4 c5 c6)
theorem ck_statement (b:Nat) (svL svS svP:Value) (n:Ns) (U S:List ByteArray) (W:List Int) (s:St) (hn:n.Ok) (hS:S.length<=1000000) (hU:U.length<=1000000) (hs:s.wt<=900000000):
    Con cfg 129 [vP b,vSt s] (ckN b svL svS svP n U S W) fun r μ'=>r=vI (stE n.Bufs U S s)/\μ'=ckN b svL svS svP n U S W:=by
 refine zQ Tryz.func129 O Tryz.ntmps129 Tryz.results129 O ?_
 intro z hz
 obtain ⟨hE,hI,hIw,hB,hBw⟩:=St.parts hs
 refine F O<|zU O O (qL O O) ?_
 rintro _ _ ⟨b1,rfl,rfl⟩
 refine A O<|H<|zI<|F O<|zO zBw (R 0 O) O<|qG O ok163 (zPt s hs) ⟨G,O,T⟩<|kY O<|H<|zD O (fun c1=>?_) (fun c1=>?_)
 ·try simp only [I] at c1
  refine F O<|A O<|H<|zV _ (Weak.mem [false,true,true,true,true] O)<|o<|X O ?_
  exact ⟨by rw [stE_5 c1],O⟩
 ·try simp only [I] at c1
  refine zH<|zI<|F O<|zJ O zBu<|zK J (R 0 O) O<|H<|zS<|F O<|yZ O<|A O<|H<|zD O (fun c2=>?_) (fun c2=>?_)
  ·try simp only [I] at c2
   refine F O<|A O<|zO zBw (R 0 O) O<|zR O (yK [1,1,1,1] O ok164 (ck_loop b svL svS svP n U S W s hn hU) ⟨G,O,G,O,T⟩ O)<|A O<|H<|zV _ (Weak.mem [false,true,true,true,true] O)<|o<|X O ?_
   exact ⟨by rw [stE_l c1 c2],O⟩
  ·try simp only [I] at c2
   refine F O<|yZ O<|A O<|H<|zD O (fun c3=>?_) (fun c3=>?_)
   ·try simp only [I] at c3
    refine zI<|F O<|A O<|zJ O zCf<|zO kL (R 0 O) O<|zR O (yK [1,1,1,1] O ok165 (zFy b svL svS svP n U S W s.E hn hS (by omega)) ⟨G,O,G,O,T⟩ O)<|qN O<|zR O (qT O O O)<|qU O<|zU O O (yV O l) ?_
    rintro _ _ ⟨b2,rfl,rfl⟩
    refine D 0 f O<|A O<|H<|F O<|A O<|yP O<|H<|zD O (fun c4=>?_) (fun c4=>?_)
    ·try simp only [I] at c4
     refine F O<|A O<|A O<|H<|zV _ (Weak.mem [false,false,true,true,true,true] O)<|o<|X O ?_
     exact ⟨by rw [stE_i c1 c3,ifE_x c4],O⟩
    ·try simp only [I] at c4
     refine zH<|zI<|F O<|zJ O zCf<|zO kL (R 1 O) O<|qG O ok166 (kO s.E) ⟨G,O,T⟩<|kY O<|H<|zD O (fun c5=>?_) (fun c5=>?_)
     ·try simp only [I] at c5
      refine F O<|A O<|H<|zV _ (Weak.mem [false,false,true,true,true,true] O)<|o<|X O ?_
      exact ⟨by rw [stE_i c1 c3,ifE_10 c4 c5],O⟩
     ·try simp only [I] at c5
      refine zH<|F O<|A O<|H<|zV _ (Weak.mem [false,false,true,true,true,true] O)<|o<|X O ?_
      exact ⟨by rw [stE_i c1 c3,ifE_0 c4 c5],O⟩
   ·try simp only [I] at c3
    refine zH<|F O<|A O<|zO zBw (R 0 O) O<|zR O (yK [1,1,1,1] O ok167 (ck_store b svL svS svP n U S W s hn hS hs) ⟨G,O,G,O,T⟩ O)<|A O<|H<|zV _ (Weak.mem [false,true,true,true,true] O)<|o<|X O ?_
    exact ⟨by rw [stE_s c1 c2 c3],O⟩
set_option maxHeartbeats 2000000 in
theorem zEf (b:Nat) (svL svS svP:Value) (n:Ns) (U S:List ByteArray) (W:List Int) (l:List St) (hn:n.Ok) (hU:U.length+stsN l<=1000000) (hS:S.length+stsN l<=1000000) (hW:W.length+stsN l<=1000000) (hl:stsWt l<=536870912) (ih:∀s,s∈l->∀(svL svS svP:Value) (U S:List ByteArray) (W:List Int),U.length+stsN s.Body<=1000000->S.length+stsN s.Body<=1000000->W.length+stsN s.Body<=1000000->Con cfg 82 [vP b,vSts s.Body] (ckN b svL svS svP n U S W) fun r μ'=>∃svL' svS' svP' U' S' W',r=vI (chkL n.Bufs U S W 0 s.Body).E/\((chkL n.Bufs U S W 0 s.Body).E=0->U'=(chkL n.Bufs U S W 0 s.Body).U/\S'=S/\W'=W)/\(¬(chkL n.Bufs U S W 0 s.Body).E=0->W'=(chkL n.Bufs U S W 0 s.Body).W)/\μ'=ckN b svL' svS' svP' n U' S' W'):
    Con cfg 82 [vP b,vSts l] (ckN b svL svS svP n U S W) fun r μ'=>∃svL' svS' svP' U' S' W',r=vI (chkL n.Bufs U S W 0 l).E/\((chkL n.Bufs U S W 0 l).E=0->U'=(chkL n.Bufs U S W 0 l).U/\S'=S/\W'=W)/\(¬(chkL n.Bufs U S W 0 l).E=0->W'=(chkL n.Bufs U S W 0 l).W)/\μ'=ckN b svL' svS' svP' n U' S' W':=by
 refine zQ Tryz.func82 O Tryz.ntmps82 Tryz.results82 O ?_
 intro z hz
 have hll:=kP l
 have hlN:=zDj l
 refine F O<|A O<|H<|zI<|F O<|A O<|qB O K<|A O<|H<|zS<|zV ⟨[(12,.c _),(0,.c _),(1,.c _),(11,.c _)],[_,_,_,_]⟩ (Weak.mk [true,true,true,true] ⟨G,G,G,G,T⟩ O)<|qO 1 4 O O (Nat×Value×Value×Value×List ByteArray) (fun ⟨k,vL,vS,vP_,u⟩=>[(12,vI k)]) (fun ⟨k,vL,vS,vP_,u⟩=>[E.row b 123 [.sl 8 (n.Bufs.map Bf.cells),.sl 20 (n.Body.map St.cells),.lit vL,.lit vS,.lit vP_],E.vec vL 9 1 (u.map fun s=>[cS s]),E.vec vS 9 1 (S.map fun s=>[cS s]),E.vec vP_ 3 1 (W.map fun i=>[cI i])]) (fun ⟨k,vL,vS,vP_,u⟩=>k<=l.length/\(u.length+stsN (l.drop k)<=1000000)/\((chkL n.Bufs U S W 0 l)=chkL n.Bufs u S W k (l.drop k))) (fun ⟨k,vL,vS,vP_,u⟩=>l.length-k) ⟨⟨0,svL,svS,svP,U⟩,⟨by omega,by simpa using hU,O⟩,Weak.mk [true,true,true,true] ⟨G,G,G,G,T⟩ O⟩ ?_
 rintro ⟨k,vL,vS,vP_,u⟩ ⟨hk,hub,hp⟩
 show AWP _ _ _ _ _ ⟨[(12,vI k)]++_,[E.row b 123 [.sl 8 (n.Bufs.map Bf.cells),.sl 20 (n.Body.map St.cells),.lit vL,.lit vS,.lit vP_],E.vec vL 9 1 (u.map fun s=>[cS s]),E.vec vS 9 1 (S.map fun s=>[cS s]),E.vec vP_ 3 1 (W.map fun i=>[cI i])]++_⟩
 refine F O<|yN O<|H<|zI<|zD O (fun c1=>?_) (fun c1=>?_)
 ·try simp only [I] at c1
  obtain ⟨s,hs⟩:=qZ l k (by omega)
  have hsw:=yG (zZ hs)
  have hsb:=St.body_wt s
  have hsn:=stsN_drop hs
  have hse:=zIl s
  have hsm:=zNr (zZ hs)
  have hcl:=chkS_len n.Bufs s u S (W++[(k:Int)])
  refine zH<|zI<|zS<|F O<|A O<|A O<|H<|F O<|A O<|A O<|qD O K (by omega) (kZ (by assumption))<|zO zBw qA O<|zU O O (qC [none,none,none,none,none,some 4,none,none,none,none,none,none,none,none,none,none,some 2,some 4,some 13,some 20] O d O) ?_
  rintro _ _ ⟨b1,rfl,rfl⟩
  refine D 0 sz46 O<|H<|F O<|A O<|A O<|zR O (qR O O)<|zJ O zFw<|zK zIg (R 1 O) O<|A O<|zR O (qW O L zr3 O O O O)<|zU O O (yU 4 O L O O O (by simp only [List.length_map,List.length_append,List.length_cons,List.length_nil];omega) (by simp only [List.length_map,List.length_append,List.length_cons,List.length_nil];omega)) ?_
  rintro _ _ ⟨sv2,rfl,rfl⟩
  refine zR O (qR O O)<|zJ O zFw<|D 1 sz26 O<|H<|zI<|zI<|zV _ (Weak.vecEq 4 O (rows':=(W++[(k:Int)]).map fun i=>[cI i]) (by first|rfl|simp|rw [List.take_of_length_le (by simp)]))<|zT O<|A O<|zO zBw (R 0 O) O<|zR O (yK [1,1,1,1] O ok129 (ck_statement b vL vS _ n u S (W++[(k:Int)]) s hn (by omega) (by omega) (by omega)) ⟨G,O,G,O,T⟩ O)<|A O<|H<|F O<|A O<|yP O<|H<|zD O (fun c2=>?_) (fun c2=>?_)
  ·try simp only [I] at c2
   have hx0:=chkS_no (here:=W++[(k:Int)]) (B:=n.Bufs) (U:=u) (sc:=S) (s:=s) c2
   refine F O<|A O<|A O<|H<|zV _ (Weak.mem [false,true,true,true,true] O)<|o<|X O ?_
   refine ⟨_,_,_,_,_,_,?_,fun h0=>?_,fun _=>?_,O⟩
   · rw [zFz hs hp (by rw [hx0];exact c2),hx0]
   · rw [zFz hs hp (by rw [hx0];exact c2),hx0] at h0;exact absurd h0 c2
   · rw [zFz hs hp (by rw [hx0];exact c2),hx0]
  ·try simp only [I] at c2
   have hin:=chkS_in (here:=W++[(k:Int)]) (B:=n.Bufs) (U:=u) (sc:=S) (s:=s) c2
   refine zH<|F O<|A O<|zR O (qR O O)<|zJ O zHi<|zK zPj (R 1 O) O<|zR O (yQ 3 O zNk O O)<|A O<|H<|zI<|F O<|zJ O zBu<|zK J (R 0 O) O<|yZ O<|H<|zD O (fun c3=>?_) (fun c3=>?_)
   ·try simp only [I] at c3
    rw [nextU_yes c3,nextU_yes c3] at hin
    refine zI<|kS 9 0 [⟨0,.q []⟩,⟨1,.q []⟩,⟨2,.q []⟩,⟨3,.q []⟩,⟨4,.q [1]⟩,⟨5,.q []⟩,⟨6,.q [0]⟩,⟨7,.q []⟩,⟨8,.e 2 []⟩] mixed (by kernel_rfl) (by kernel_rfl) O O O<|t O<|t O<|t O<|t O<|t O<|t O<|t O<|t O<|t O<|zDg<|qF O (by decide) O O (w O O)<|qF O (by decide) O O (w O O)<|qF O (by decide) O O (qR O O)<|qF O (by decide) O O (zE O fd123_1 O)<|qF O (by decide) O O (Q O zPj O (R 0 O) O)<|qF O (by decide) O O (zE O zBt O)<|qF O (by decide) O O (Q O one9 O (R 0 O) O)<|qF O (by decide) O O (qW O zNk zr9 O O O O)<|zNd O O (by decide) O O (yU 0 O zNk O O O (by simp only [List.length_map,List.length_append,List.length_cons,List.length_nil];omega) (by simp only [List.length_map,List.length_append,List.length_cons,List.length_nil];omega)) ?_
    rintro _ _ ⟨sv3,rfl,rfl⟩
    refine ⟨_,O,?_⟩
    refine zDf O<|zR O (qR O O)<|zJ O fd123_1<|D 1 sz105 O<|H<|zV _ (Weak.vecEq 2 O (rows':=(u++[s.Name]).map fun s=>[cS s]) (by first|rfl|simp|rw [List.take_of_length_le (by simp)]))<|kS 9 0 [⟨0,.q []⟩,⟨1,.q []⟩,⟨2,.q []⟩,⟨3,.q []⟩,⟨4,.q [1]⟩,⟨5,.q []⟩,⟨6,.q [0]⟩,⟨7,.q []⟩,⟨8,.e 3 []⟩] mixed (by kernel_rfl) (by kernel_rfl) O O O<|t O<|t O<|t O<|t O<|t O<|t O<|t O<|t O<|t O<|zDg<|qF O (by decide) O O (w O O)<|qF O (by decide) O O (w O O)<|qF O (by decide) O O (qR O O)<|qF O (by decide) O O (zE O zHi O)<|qF O (by decide) O O (Q O zPj O (R 0 O) O)<|qF O (by decide) O O (zE O zBt O)<|qF O (by decide) O O (Q O one9 O (R 0 O) O)<|qF O (by decide) O O (qW O zNk zr9 O O O O)<|zNd O O (by decide) O O (yU 0 O zNk O O O (by simp only [List.length_map,List.length_append,List.length_cons,List.length_nil];omega) (by simp only [List.length_map,List.length_append,List.length_cons,List.length_nil];omega)) ?_
    rintro _ _ ⟨sv4,rfl,rfl⟩
    refine ⟨_,O,?_⟩
    refine zDf O<|zR O (qR O O)<|zJ O zHi<|D 1 sz105 O<|H<|zI<|zI<|zV _ (Weak.vecEq 3 O (rows':=(S++[s.Name]).map fun s=>[cS s]) (by first|rfl|simp|rw [List.take_of_length_le (by simp)]))<|zV ⟨_,E.row _ _ _::ckN b _ _ _ n (u++[s.Name]) (S++[s.Name]) (W++[(k:Int)])⟩ (Weak.mem [true,true,true,true,true] O)<|zT O<|A O<|zJ O kN<|zK kM (R 0 O) O<|zU O O (zDc [1,1,1,1] O ok82 (ih s (zZ hs) _ _ _ (u++[s.Name]) (S++[s.Name]) (W++[(k:Int)]) (by first|omega|(simp;omega)) (by first|omega|(simp;omega)) (by simp;omega)) ⟨G,O,G,O,T⟩ O) ?_
    rintro _ _ ⟨_,⟨svL1,svS1,svP1,U1,S1,W1,rfl,hok,hno,rfl⟩,rfl⟩
    refine A O<|H<|F O<|A O<|yP O<|H<|zD O (fun c4=>?_) (fun c4=>?_)
    ·try simp only [I] at c4
     rw [←hin] at c4 hno
     refine F O<|A O<|A O<|H<|zV _ (Weak.mem [false,true,true,true,true] O)<|o<|X O ?_
     refine ⟨_,_,_,_,_,_,?_,fun h0=>?_,fun _=>?_,O⟩
     · rw [zFz hs hp c4,hin]
     · rw [zFz hs hp c4] at h0;exact absurd h0 c4
     · rw [zFz hs hp c4];exact hno c4
    ·try simp only [I] at c4
     rw [←hin] at c4 hok
     obtain ⟨hU1,hS1,hW1⟩:=hok c4
     have hS2:=hS1.symm
     subst hU1 hS2 hW1
     refine zH<|F O<|A O<|A O<|zR O (qR O O)<|zJ O zHi<|zK zPj (R 1 O) O<|A O<|zU O O (zFm (k:=S.length) 3 O zNk O O O (by simp) (by simp)) ?_
     rintro _ _ ⟨sv5,rfl,rfl⟩
     refine zR O (qR O O)<|zJ O zHi<|D 1 sz105 O<|H<|zV _ (Weak.vecEq 3 O (rows':=S.map fun s=>[cS s]) (by first|rfl|simp|rw [List.take_of_length_le (by simp)]))<|kS 12 0 [⟨0,.q []⟩,⟨1,.q []⟩,⟨2,.q []⟩,⟨3,.q []⟩,⟨4,.q [1]⟩,⟨5,.q []⟩,⟨6,.q []⟩,⟨7,.q []⟩,⟨8,.q [1]⟩,⟨9,.q [4]⟩,⟨10,.q []⟩,⟨11,.e 4 []⟩] mixed (by kernel_rfl) (by kernel_rfl) O O O<|t O<|t O<|t O<|t O<|t O<|t O<|t O<|t O<|t O<|t O<|t O<|t O<|zDg<|qF O (by decide) O O (w O O)<|qF O (by decide) O O (w O O)<|qF O (by decide) O O (qR O O)<|qF O (by decide) O O (zE O zFw O)<|qF O (by decide) O O (Q O zIg O (R 0 O) O)<|qF O (by decide) O O (w O O)<|qF O (by decide) O O (qR O O)<|qF O (by decide) O O (zE O zFw O)<|qF O (by decide) O O (Q O zIg O (R 0 O) O)<|qF O (by decide) O O (yQ 0 O L O O)<|qF O (by decide) O O (yB O O O (by simp only [List.length_map,List.length_append,List.length_cons,List.length_nil];exact ⟨by omega,by omega⟩))<|zNd O O (by decide) O O (zFm (k:=W.length) 0 O L O O O (by simp only [List.length_map,List.length_append,List.length_cons,List.length_nil];omega) (by simp)) ?_
     rintro _ _ ⟨sv6,rfl,rfl⟩
     refine ⟨_,O,?_⟩
     refine zDf O<|zR O (qR O O)<|zJ O zFw<|D 1 sz26 O<|H<|zV _ (Weak.vecEq 4 O (rows':=W.map fun i=>[cI i]) (by first|rfl|simp|rw [List.take_of_length_le (by simp)]))<|zT O<|qK O ⟨by omega,by omega⟩<|A O<|H ?_
     refine ⟨⟨k+1,_,_,_,(chkS n.Bufs u S (W++[(k:Int)]) s).U⟩,⟨by omega,by omega,chkL_next hs hp c4⟩,(by show l.length-(k+1)<l.length-k;omega),Weak.mk [false,true,true,true,true] ⟨G,G,G,G,T⟩ O⟩
   ·try simp only [I] at c3
    rw [nextU_no c3,nextU_no c3] at hin
    refine zH<|zI<|zI<|zV ⟨_,E.row _ _ _::ckN b _ _ _ n u S (W++[(k:Int)])⟩ (Weak.mem [true,true,true,true,true] O)<|zT O<|A O<|zJ O kN<|zK kM (R 0 O) O<|zU O O (zDc [1,1,1,1] O ok82 (ih s (zZ hs) _ _ _ u S (W++[(k:Int)]) (by first|omega|(simp;omega)) (by first|omega|(simp;omega)) (by simp;omega)) ⟨G,O,G,O,T⟩ O) ?_
    rintro _ _ ⟨_,⟨svL1,svS1,svP1,U1,S1,W1,rfl,hok,hno,rfl⟩,rfl⟩
    refine A O<|H<|F O<|A O<|yP O<|H<|zD O (fun c4=>?_) (fun c4=>?_)
    ·try simp only [I] at c4
     rw [←hin] at c4 hno
     refine F O<|A O<|A O<|H<|zV _ (Weak.mem [false,true,true,true,true] O)<|o<|X O ?_
     refine ⟨_,_,_,_,_,_,?_,fun h0=>?_,fun _=>?_,O⟩
     · rw [zFz hs hp c4,hin]
     · rw [zFz hs hp c4] at h0;exact absurd h0 c4
     · rw [zFz hs hp c4];exact hno c4
    ·try simp only [I] at c4
     rw [←hin] at c4 hok
     obtain ⟨hU1,hS1,hW1⟩:=hok c4
     have hS2:=hS1.symm
     subst hU1 hS2 hW1
     refine zH<|F O<|A O<|A O<|zR O (qR O O)<|zJ O zHi<|zK zPj (R 1 O) O<|A O<|zU O O (zFm (k:=S.length) 3 O zNk O O O (by simp) (by simp)) ?_
     rintro _ _ ⟨sv7,rfl,rfl⟩
     refine zR O (qR O O)<|zJ O zHi<|D 1 sz105 O<|H<|zV _ (Weak.vecEq 3 O (rows':=S.map fun s=>[cS s]) (by first|rfl|simp|rw [List.take_of_length_le (by simp)]))<|kS 12 0 [⟨0,.q []⟩,⟨1,.q []⟩,⟨2,.q []⟩,⟨3,.q []⟩,⟨4,.q [1]⟩,⟨5,.q []⟩,⟨6,.q []⟩,⟨7,.q []⟩,⟨8,.q [1]⟩,⟨9,.q [4]⟩,⟨10,.q []⟩,⟨11,.e 4 []⟩] mixed (by kernel_rfl) (by kernel_rfl) O O O<|t O<|t O<|t O<|t O<|t O<|t O<|t O<|t O<|t O<|t O<|t O<|t O<|zDg<|qF O (by decide) O O (w O O)<|qF O (by decide) O O (w O O)<|qF O (by decide) O O (qR O O)<|qF O (by decide) O O (zE O zFw O)<|qF O (by decide) O O (Q O zIg O (R 0 O) O)<|qF O (by decide) O O (w O O)<|qF O (by decide) O O (qR O O)<|qF O (by decide) O O (zE O zFw O)<|qF O (by decide) O O (Q O zIg O (R 0 O) O)<|qF O (by decide) O O (yQ 0 O L O O)<|qF O (by decide) O O (yB O O O (by simp only [List.length_map,List.length_append,List.length_cons,List.length_nil];exact ⟨by omega,by omega⟩))<|zNd O O (by decide) O O (zFm (k:=W.length) 0 O L O O O (by simp only [List.length_map,List.length_append,List.length_cons,List.length_nil];omega) (by simp)) ?_
     rintro _ _ ⟨sv8,rfl,rfl⟩
     refine ⟨_,O,?_⟩
     refine zDf O<|zR O (qR O O)<|zJ O zFw<|D 1 sz26 O<|H<|zV _ (Weak.vecEq 4 O (rows':=W.map fun i=>[cI i]) (by first|rfl|simp|rw [List.take_of_length_le (by simp)]))<|zT O<|qK O ⟨by omega,by omega⟩<|A O<|H ?_
     refine ⟨⟨k+1,_,_,_,(chkS n.Bufs u S (W++[(k:Int)]) s).U⟩,⟨by omega,by omega,chkL_next hs hp c4⟩,(by show l.length-(k+1)<l.length-k;omega),Weak.mk [false,true,true,true,true] ⟨G,G,G,G,T⟩ O⟩
 ·try simp only [I] at c1
  refine qQ<|F O<|A O<|H<|o<|X O ?_
  refine ⟨_,_,_,_,_,_,?_,fun _=>⟨?_,O,O⟩,fun h0=>?_,O⟩
  · rw [chkL_end hp (by omega)]
  · rw [chkL_end hp (by omega)]
  · rw [chkL_end hp (by omega)] at h0;exact absurd rfl h0
theorem zLf (b:Nat) (n:Ns) (hn:n.Ok) (s:St) (hl:stsWt s.Body<=536870912):∀(svL svS svP:Value) (U S:List ByteArray) (W:List Int),U.length+stsN s.Body<=1000000->S.length+stsN s.Body<=1000000->W.length+stsN s.Body<=1000000->Con cfg 82 [vP b,vSts s.Body] (ckN b svL svS svP n U S W) fun r μ'=>∃svL' svS' svP' U' S' W',r=vI (chkL n.Bufs U S W 0 s.Body).E/\((chkL n.Bufs U S W 0 s.Body).E=0->U'=(chkL n.Bufs U S W 0 s.Body).U/\S'=S/\W'=W)/\(¬(chkL n.Bufs U S W 0 s.Body).E=0->W'=(chkL n.Bufs U S W 0 s.Body).W)/\μ'=ckN b svL' svS' svP' n U' S' W':=by
  induction s using St.ind with
  |_ s ih=>
    intro svL svS svP U S W hU hS hW
    refine zEf b svL svS svP n U S W s.Body hn hU hS hW hl fun a ha=>ih a ha ?_
    have:=yG ha;have:=St.body_wt a;omega
theorem ck_statements (b:Nat) (svL svS svP:Value) (n:Ns) (U S:List ByteArray) (W:List Int) (l:List St) (hn:n.Ok) (hU:U.length+stsN l<=1000000) (hS:S.length+stsN l<=1000000) (hW:W.length+stsN l<=1000000) (hl:stsWt l<=536870912):Con cfg 82 [vP b,vSts l] (ckN b svL svS svP n U S W) fun r μ'=>∃svL' svS' svP' U' S' W',r=vI (chkL n.Bufs U S W 0 l).E/\((chkL n.Bufs U S W 0 l).E=0->U'=(chkL n.Bufs U S W 0 l).U/\S'=S/\W'=W)/\(¬(chkL n.Bufs U S W 0 l).E=0->W'=(chkL n.Bufs U S W 0 l).W)/\μ'=ckN b svL' svS' svP' n U' S' W':=
  zEf b svL svS svP n U S W l hn hU hS hW hl fun s hs=>zLf b n hn s (by have:=yG hs;have:=St.body_wt s;omega)
theorem zCp (n:Ns) (hn:n.Ok):
    Pur cfg 34 [vNs n] (.tup [vIs (validN n).1,vI (validN n).2]):=by
 refine zQ Tryz.func34 O Tryz.ntmps34 Tryz.results34 O ?_
 intro z hz
 have hnb:=hn.body
 refine F O<|zU O O (qL O O) ?_
 rintro _ _ ⟨b1,rfl,rfl⟩
 refine qX 1 O<|A O<|H<|zI<|F O<|zJ O wO<|zK kM (R 0 O) O<|qG O ok79 (zPs 40 n.Body 40 (by omega) (by omega) O) ⟨G,O,G,O,T⟩<|kY O<|H<|zD O (fun c1=>?_) (fun c1=>?_)
 ·try simp only [I] at c1
  refine F O<|qX 1 O<|A O<|H<|o<|p (N O) (N O) ?_
  rw [validN_13 c1];rfl
 ·try simp only [I] at c1
  refine zH<|zI<|F O<|zJ O wO<|zK kM (R 0 O) O<|qG O ok80 (zKj n.Body 2000 2000 (by omega) (by omega) O) ⟨G,O,G,O,T⟩<|zR O (yW O O O)<|A O<|M O (fun g3_4=>zE O zBh O) O<|B 16 O (fun g3_4=>Q O zFo O (R 0 O) O) O<|B 17 O (fun g3_4=>yE O el22 O) O<|B 18 O (fun g3_4=>yW O O O) O<|j O (fun h=>(lzf h))<|H<|zD O (fun c2=>?_) (fun c2=>?_)
  ·try simp only [I] at c2
   refine F O<|qX 1 O<|A O<|H<|o<|p (N O) (N O) ?_
   rw [validN_2 c1 (by omega)];rfl
  ·try simp only [I] at c2
   have hnum:=numB_ok (l:=n.Body) (m:=2000) (by omega)
   refine zH<|zI<|F O<|zJ O zBh<|zK zFo (R 0 O) O<|qG O ok81 (zHc n.Bufs hn.bufs hn.dims) ⟨G,O,T⟩<|A O<|H<|F O<|A O<|yP O<|H<|zD O (fun c3=>?_) (fun c3=>?_)
   ·try simp only [I] at c3
    refine F O<|A O<|qX 1 O<|A O<|H<|o<|p (N O) (N O) ?_
    rw [validN_b c1 (by omega) c3];rfl
   ·try simp only [I] at c3
    refine zH<|F O<|zO kF (R 0 O) O<|yS O zr123 pl123<|zU O O (qL O O) ?_
    rintro _ _ ⟨b2,rfl,rfl⟩
    refine yJ _ (wL 9 1)<|yJ _ (wL 9 1)<|yJ _ (wL 3 1)<|A O<|H<|zI<|F O<|A O<|zJ O wO<|zK kM (R 4 O) O<|zU O O (zDc [3,2,1,0] O ok82 (ck_statements b2 _ _ _ n [] [] [] n.Body hn (by simp;omega) (by simp;omega) (by simp;omega) hnb) ⟨G,O,G,O,T⟩ O) ?_
    rintro _ _ ⟨_,⟨svL1,svS1,svP1,U1,S1,W1,rfl,hok,hno,rfl⟩,rfl⟩
    refine A O<|H<|F O<|A O<|yP O<|H<|zD O (fun c4=>?_) (fun c4=>?_)
    ·try simp only [I] at c4
     have hW1:=hno c4
     subst hW1
     refine zV _ (yY 0 O (regs':=[]) (μ':=[_,_,_,_]) T ⟨EFle.refl _,EFle.refl _,EFle.row (ds:=[_,_,_,_,_]) ⟨.inl O,.inl O,.inl O,.inl O,.inr ⟨O,O⟩,T⟩,EFle.refl _,T⟩)<|F O<|A O<|zR O (qR O O)<|zJ O zFw<|zK zIg (R 2 O) O<|A O<|A O<|A O<|H<|o<|p (N O) (N O) ?_
     rw [validN_c c1 (by omega) c3]
    ·try simp only [I] at c4
     refine zH<|F O<|qX 1 O<|A O<|H<|o<|p (N O) (N O) ?_
     rw [validN_c c1 (by omega) c3,chkL_ok c4,c4];rfl
end Go.W
